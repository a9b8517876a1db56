import PyProof.Rows.All
import Wide.All
import OpenK.AllK
import Wide.FinOn
import HandS.ForMost
import HandS.Wide
import HandS.Walk
import HandS.Style
import HandS.Conv
import HandS.IsInst
import HandS.SortInts
import HandS.Strs
import HandS.SetKeys
import HandS.Exc
import HandS.ExcOwn
import HandS.ExcInit
import HandS.ExcField
import HandS.TryOnly
import HandS.WordsExc
import HandS.Defaults
import HandS.EndBits
import PySem.Challenge.RW_keeprests_k23_whole_books_and_stretches
import KE.KDictZip
import HandS.Iter
import HandS.Zip
import HandS.SetFor
set_option Elab.async false
set_option linter.all false
set_option maxRecDepth 100000
set_option maxHeartbeats 4000000
/-! Plain mathematics, part 1: binomials over the integers, Vandermonde, rows that keep remainders, Newton's formula. -/
namespace KM

/-- a finite sum -/
def S : Nat → (Nat → Int) → Int
  | 0, _ => 0
  | n + 1, f => S n f + f n
theorem S_congr {f g : Nat → Int} : ∀ (n : Nat), (∀ j, j < n → f j = g j) → S n f = S n g
  | 0, _ => rfl
  | n + 1, h => by
    show S n f + f n = S n g + g n
    rw [S_congr n fun j hj => h j (Nat.lt_succ_of_lt hj), h n (Nat.lt_succ_self n)]
theorem S_dvd {f : Nat → Int} {d : Int} : ∀ (n : Nat), (∀ j, j < n → d ∣ f j) → d ∣ S n f
  | 0, _ => Int.dvd_zero d
  | n + 1, h => Int.dvd_add (S_dvd n fun j hj => h j (Nat.lt_succ_of_lt hj)) (h n (Nat.lt_succ_self n))
theorem S_add (f g : Nat → Int) : ∀ (n : Nat), S n (fun j => f j + g j) = S n f + S n g
  | 0 => rfl
  | n + 1 => by
    show S n (fun j => f j + g j) + (f n + g n) = S n f + f n + (S n g + g n)
    rw [S_add f g n]; omega
theorem S_sub (f g : Nat → Int) : ∀ (n : Nat), S n (fun j => f j - g j) = S n f - S n g
  | 0 => rfl
  | n + 1 => by
    show S n (fun j => f j - g j) + (f n - g n) = S n f + f n - (S n g + g n)
    rw [S_sub f g n]; omega
theorem S_mul (c : Int) (f : Nat → Int) : ∀ (n : Nat), S n (fun j => c * f j) = c * S n f
  | 0 => by show (0 : Int) = c * 0; rw [Int.mul_zero]
  | n + 1 => by
    show S n (fun j => c * f j) + c * f n = c * (S n f + f n)
    rw [S_mul c f n, Int.mul_add]
theorem S_shift (f : Nat → Int) : ∀ (n : Nat), S (n + 1) f = f 0 + S n (fun j => f (j + 1))
  | 0 => by show (0 : Int) + f 0 = f 0 + 0; omega
  | n + 1 => by
    show S (n + 1) f + f (n + 1) = f 0 + (S n (fun j => f (j + 1)) + f (n + 1))
    rw [S_shift f n]; omega
theorem S_zero {f : Nat → Int} (n : Nat) (h : ∀ j, j < n → f j = 0) : S n f = 0 := by
  rw [S_congr (g := fun _ => 0) n h]
  induction n with
  | zero => rfl
  | succ n ih =>
    show S n (fun _ => 0) + 0 = 0
    rw [ih fun j hj => h j (Nat.lt_succ_of_lt hj)]; rfl
/-- beyond m all is 0 -/
theorem S_more {f : Nat → Int} {m n : Nat} (h : m ≤ n) (z : ∀ j, m ≤ j → j < n → f j = 0) : S n f = S m f := by
  induction n with
  | zero =>
    have e : m = 0 := by omega
    rw [e]
  | succ n ih =>
    by_cases e : m = n + 1
    · rw [e]
    · have hm : m ≤ n := by omega
      show S n f + f n = S m f
      rw [ih hm fun j a b => z j a (Nat.lt_succ_of_lt b), z n hm (Nat.lt_succ_self n)]; omega

/-- the falling factorial, the factorial -/
def ff (x : Int) : Nat → Int
  | 0 => 1
  | k + 1 => ff x k * (x - k)
def fac : Nat → Int
  | 0 => 1
  | k + 1 => fac k * (k + 1)
theorem fac_pos : ∀ k, 0 < fac k
  | 0 => by decide
  | k + 1 => Int.mul_pos (fac_pos k) (by omega)
theorem ff_succ (x : Int) : ∀ k, ff (x + 1) (k + 1) = (x + 1) * ff x k
  | 0 => by
    show 1 * (x + 1 - ((0 : Nat) : Int)) = (x + 1) * 1
    rw [Int.one_mul, Int.mul_one]; omega
  | k + 1 => by
    show ff (x + 1) (k + 1) * (x + 1 - ((k + 1 : Nat) : Int)) = (x + 1) * (ff x k * (x - (k : Int)))
    rw [ff_succ x k, Int.mul_assoc]
    have e : x + 1 - ((k + 1 : Nat) : Int) = x - (k : Int) := by omega
    rw [e]
theorem ff_diff (x : Int) (k : Nat) : ff (x + 1) (k + 1) = ff x (k + 1) + (k + 1) * ff x k := by
  rw [ff_succ]
  show (x + 1) * ff x k = ff x k * (x - (k : Int)) + ((k : Int) + 1) * ff x k
  rw [Int.mul_comm (ff x k), ← Int.add_mul]
  have e : x - (k : Int) + ((k : Int) + 1) = x + 1 := by omega
  rw [e]
theorem ff_zero (k : Nat) : ff 0 (k + 1) = 0 := by
  induction k with
  | zero => rfl
  | succ k ih =>
    show ff 0 (k + 1) * _ = 0
    rw [ih, Int.zero_mul]
theorem int_two_ways {p : Int → Prop} (h0 : p 0) (up : ∀ x, p x → p (x + 1)) (down : ∀ x, p (x + 1) → p x) (x : Int) : p x := by
  have a : ∀ n : Nat, p (n : Int) := by
    intro n
    induction n with
    | zero => exact h0
    | succ n ih =>
      have q := up _ ih
      have e : ((n + 1 : Nat) : Int) = (n : Int) + 1 := by omega
      rw [e]; exact q
  have b : ∀ n : Nat, p (-(n : Int)) := by
    intro n
    induction n with
    | zero => exact h0
    | succ n ih =>
      refine down _ ?_
      have e : -((n + 1 : Nat) : Int) + 1 = -(n : Int) := by omega
      rw [e]; exact ih
  rcases Int.eq_nat_or_neg x with ⟨n, rfl | rfl⟩
  · exact a n
  · exact b n
theorem fac_dvd : ∀ (k : Nat) (x : Int), fac k ∣ ff x k
  | 0, x => Int.dvd_refl 1
  | k + 1, x => by
    have hk : ∀ y, fac (k + 1) ∣ ((k : Int) + 1) * ff y k := fun y => by
      show fac k * ((k : Int) + 1) ∣ ((k : Int) + 1) * ff y k
      rw [Int.mul_comm (fac k)]
      exact Int.mul_dvd_mul (Int.dvd_refl _) (fac_dvd k y)
    refine int_two_ways (p := fun x => fac (k + 1) ∣ ff x (k + 1)) ?_ (fun x h => ?_) (fun x h => ?_) x
    · show fac (k + 1) ∣ ff 0 (k + 1)
      rw [ff_zero]; exact Int.dvd_zero _
    · show fac (k + 1) ∣ ff (x + 1) (k + 1)
      rw [ff_diff]
      exact Int.dvd_add h (hk x)
    · have h' : fac (k + 1) ∣ ff (x + 1) (k + 1) := h
      rw [ff_diff] at h'
      have q := Int.dvd_sub h' (hk x)
      have e : ff x (k + 1) + ((k : Int) + 1) * ff x k - ((k : Int) + 1) * ff x k = ff x (k + 1) := by omega
      rw [e] at q
      exact q
/-- the binomial -/
def bin (x : Int) (k : Nat) : Int := ff x k / fac k
theorem bin_eq (x : Int) (k : Nat) : fac k * bin x k = ff x k := Int.mul_ediv_cancel' (fac_dvd k x)
theorem bin_0 (x : Int) : bin x 0 = 1 := rfl
theorem bin_zero (k : Nat) : bin 0 (k + 1) = 0 := by
  unfold bin
  rw [ff_zero, Int.zero_ediv]
theorem pascal (x : Int) (k : Nat) : bin (x + 1) (k + 1) = bin x k + bin x (k + 1) := by
  have hp := fac_pos (k + 1)
  refine Int.eq_of_mul_eq_mul_left (a := fac (k + 1)) (by omega) ?_
  rw [bin_eq, ff_diff, Int.mul_add, bin_eq]
  have e : fac (k + 1) * bin x k = ((k : Int) + 1) * ff x k := by
    rw [← bin_eq x k]
    show fac k * ((k : Int) + 1) * bin x k = ((k : Int) + 1) * (fac k * bin x k)
    rw [Int.mul_comm (fac k), Int.mul_assoc]
  rw [e]; omega
theorem absorb (x : Int) (k : Nat) : ((k : Int) + 1) * bin (x + 1) (k + 1) = (x + 1) * bin x k := by
  have hp := fac_pos k
  refine Int.eq_of_mul_eq_mul_left (a := fac k) (by omega) ?_
  rw [← Int.mul_assoc]
  show fac (k + 1) * bin (x + 1) (k + 1) = fac k * ((x + 1) * bin x k)
  rw [bin_eq, ff_succ, ← bin_eq x k, ← Int.mul_assoc, ← Int.mul_assoc, Int.mul_comm (x + 1)]
theorem bin_beyond : ∀ (i k : Nat), i < k → bin (i : Int) k = 0
  | 0, 0, h => absurd h (Nat.lt_irrefl 0)
  | 0, k + 1, _ => bin_zero k
  | i + 1, 0, h => absurd h (Nat.not_lt_zero _)
  | i + 1, k + 1, h => by
    have e : ((i + 1 : Nat) : Int) = (i : Int) + 1 := by omega
    rw [e, pascal, bin_beyond i k (Nat.lt_of_succ_lt_succ h), bin_beyond i (k + 1) (by omega)]; rfl
theorem bin_self : ∀ (i : Nat), bin (i : Int) i = 1
  | 0 => rfl
  | i + 1 => by
    have e : ((i + 1 : Nat) : Int) = (i : Int) + 1 := by omega
    rw [e, pascal, bin_self i, bin_beyond i (i + 1) (Nat.lt_succ_self i)]; rfl
theorem vander : ∀ (d : Nat) (y : Int) (k : Nat), bin (y + d) k = S (k + 1) fun j => bin (d : Int) j * bin y (k - j)
  | 0, y, k => by
    rw [S_shift, S_zero k fun j _ => by
      show bin ((0 : Nat) : Int) (j + 1) * bin y (k - (j + 1)) = 0
      have e : ((0 : Nat) : Int) = 0 := rfl
      rw [e, bin_zero, Int.zero_mul]]
    show bin (y + 0) k = 1 * bin y (k - 0) + 0
    rw [Int.add_zero, Int.one_mul, Int.add_zero]; rfl
  | d + 1, y, 0 => by
    show (1 : Int) = 0 + bin ((d + 1 : Nat) : Int) 0 * bin y (0 - 0)
    rw [bin_0, bin_0]; rfl
  | d + 1, y, k + 1 => by
    have e : y + ((d + 1 : Nat) : Int) = y + (d : Int) + 1 := by omega
    rw [e, pascal, vander d y k, vander d y (k + 1), S_shift _ (k + 1), S_shift _ (k + 1)]
    have e2 : ∀ j, bin ((d + 1 : Nat) : Int) (j + 1) * bin y (k + 1 - (j + 1)) = bin (d : Int) j * bin y (k - j) + bin (d : Int) (j + 1) * bin y (k + 1 - (j + 1)) := fun j => by
      have e3 : ((d + 1 : Nat) : Int) = (d : Int) + 1 := by omega
      rw [e3, pascal, Int.add_mul]
      have e4 : k + 1 - (j + 1) = k - j := by omega
      rw [e4]
    rw [S_congr (k + 1) fun j _ => e2 j, S_add, bin_0, bin_0]
    omega

/-- the least common multiple of 1 .. k -/
def W : Nat → Nat
  | 0 => 1
  | k + 1 => Nat.lcm (W k) (k + 1)
theorem W_has : ∀ (k j : Nat), 1 ≤ j → j ≤ k → j ∣ W k
  | 0, j, h1, h2 => by omega
  | k + 1, j, h1, h2 => by
    by_cases e : j = k + 1
    · rw [e]; exact Nat.dvd_lcm_right _ _
    · exact Nat.dvd_trans (W_has k j h1 (by omega)) (Nat.dvd_lcm_left _ _)
theorem W_least {n : Nat} : ∀ (k : Nat), (∀ j, 1 ≤ j → j ≤ k → j ∣ n) → W k ∣ n
  | 0, _ => Nat.one_dvd n
  | k + 1, h => Nat.lcm_dvd (W_least k fun j a b => h j a (by omega)) (h (k + 1) (by omega) (Nat.le_refl _))
theorem W_pos : ∀ k, 0 < W k
  | 0 => by decide
  | k + 1 => Nat.lcm_pos (W_pos k) (Nat.succ_pos k)

theorem keep_up (y : Int) (d k : Nat) : (d : Int) ∣ (W k : Int) * bin (y + d) k - (W k : Int) * bin y k := by
  rw [vander, S_shift]
  show (d : Int) ∣ (W k : Int) * (bin (d : Int) 0 * bin y k + S k fun j => bin (d : Int) (j + 1) * bin y (k - (j + 1))) - (W k : Int) * bin y k
  rw [bin_0, Int.one_mul, Int.mul_add]
  have e : (W k : Int) * bin y k + (W k : Int) * (S k fun j => bin (d : Int) (j + 1) * bin y (k - (j + 1))) - (W k : Int) * bin y k = (W k : Int) * (S k fun j => bin (d : Int) (j + 1) * bin y (k - (j + 1))) := by omega
  rw [e, ← S_mul]
  refine S_dvd k fun j hj => ?_
  rw [← Int.mul_assoc]
  refine Int.dvd_trans ?_ (Int.dvd_mul_right _ _)
  obtain ⟨q, hq⟩ := W_has k (j + 1) (by omega) (by omega)
  rw [hq]
  cases d with
  | zero =>
    have e0 : ((0 : Nat) : Int) = 0 := rfl
    rw [e0, bin_zero, Int.mul_zero]; exact Int.dvd_zero _
  | succ d =>
    have e1 : ((d + 1 : Nat) : Int) = (d : Int) + 1 := by omega
    have e2 : (((j + 1) * q : Nat) : Int) = (q : Int) * ((j : Int) + 1) := by
      rw [Int.natCast_mul, Int.mul_comm]; rfl
    rw [e1, e2, Int.mul_assoc, absorb, ← Int.mul_assoc, Int.mul_comm (q : Int), Int.mul_assoc]
    exact Int.dvd_mul_right _ _
theorem keep (x y : Int) (k : Nat) : x - y ∣ (W k : Int) * bin x k - (W k : Int) * bin y k := by
  by_cases h : y ≤ x
  · have q := keep_up y (x - y).toNat k
    have e : ((x - y).toNat : Int) = x - y := by omega
    rw [e] at q
    have e2 : y + (x - y) = x := by omega
    rw [e2] at q
    exact q
  · have q := keep_up x (y - x).toNat k
    have e : ((y - x).toNat : Int) = y - x := by omega
    rw [e] at q
    have e2 : x + (y - x) = y := by omega
    rw [e2] at q
    have q2 := Int.dvd_neg.mpr q
    have e3 : -((W k : Int) * bin y k - (W k : Int) * bin x k) = (W k : Int) * bin x k - (W k : Int) * bin y k := by omega
    rw [e3] at q2
    have q3 := Int.neg_dvd.mpr q2
    have e4 : -(y - x) = x - y := by omega
    rw [e4] at q3
    exact q3

/-- a row: its integers, from where it is counted -/
def row (own : List Int) (a x : Int) : Int := S own.length fun k => own.getD k 0 * ((W k : Int) * bin (x - a) k)
theorem row_keeps (own : List Int) (a x y : Int) : x - y ∣ row own a x - row own a y := by
  unfold row
  rw [← S_sub]
  refine S_dvd _ fun k _ => ?_
  rw [← Int.mul_sub]
  refine Int.dvd_trans ?_ (Int.dvd_mul_left _ _)
  have q := keep (x - a) (y - a) k
  have e : x - a - (y - a) = x - y := by omega
  rw [e] at q
  exact q

/-- the k-th difference at i -/
def D : Nat → (Nat → Int) → Nat → Int
  | 0, v, i => v i
  | k + 1, v, i => D k v (i + 1) - D k v i
theorem D_later (v : Nat → Int) : ∀ (k i : Nat), D k (fun j => v (j + 1)) i = D k v (i + 1)
  | 0, _ => rfl
  | k + 1, i => by
    show D k _ (i + 1) - D k _ i = D k v (i + 1 + 1) - D k v (i + 1)
    rw [D_later v k (i + 1), D_later v k i]
theorem D_congr {v u : Nat → Int} {n : Nat} (h : ∀ i, i < n → v i = u i) : ∀ (k i : Nat), k + i < n → D k v i = D k u i
  | 0, i, hi => h i (by omega)
  | k + 1, i, hi => by
    show D k v (i + 1) - D k v i = D k u (i + 1) - D k u i
    rw [D_congr h k (i + 1) (by omega), D_congr h k i (by omega)]
theorem newton : ∀ (i : Nat) (v : Nat → Int), v i = S (i + 1) fun k => D k v 0 * bin (i : Int) k
  | 0, v => by
    show v 0 = 0 + v 0 * bin ((0 : Nat) : Int) 0
    rw [bin_0]; omega
  | i + 1, v => by
    have h := newton i fun j => v (j + 1)
    have h' : v (i + 1) = S (i + 1) fun k => D k (fun j => v (j + 1)) 0 * bin (i : Int) k := h
    rw [h']
    have e1 : ∀ k, D k (fun j => v (j + 1)) 0 * bin (i : Int) k = D k v 0 * bin (i : Int) k + D (k + 1) v 0 * bin (i : Int) k := fun k => by
      rw [D_later, ← Int.add_mul]
      have e : D k v (0 + 1) = D k v 0 + D (k + 1) v 0 := by
        show D k v (0 + 1) = D k v 0 + (D k v (0 + 1) - D k v 0)
        omega
      rw [e]
    rw [S_congr (i + 1) fun k _ => e1 k, S_add, S_shift _ (i + 1)]
    have e2 : ∀ k, D (k + 1) v 0 * bin ((i + 1 : Nat) : Int) (k + 1) = D (k + 1) v 0 * bin (i : Int) k + D (k + 1) v 0 * bin (i : Int) (k + 1) := fun k => by
      have e : ((i + 1 : Nat) : Int) = (i : Int) + 1 := by omega
      rw [e, pascal, Int.mul_add]
    rw [S_congr (f := fun j => D (j + 1) v 0 * bin ((i + 1 : Nat) : Int) (j + 1)) (i + 1) fun k _ => e2 k, S_add]
    have e3 : S (i + 1) (fun k => D k v 0 * bin (i : Int) k) = D 0 v 0 + S (i + 1) (fun k => D (k + 1) v 0 * bin (i : Int) (k + 1)) := by
      have q := S_more (f := fun k => D k v 0 * bin (i : Int) k) (Nat.le_succ (i + 1)) fun j h1 h2 => by
        show D j v 0 * bin (i : Int) j = 0
        rw [bin_beyond i j (by omega), Int.mul_zero]
      rw [← q, S_shift _ (i + 1), bin_0, Int.mul_one]
    rw [e3, bin_0, Int.mul_one]
    omega
theorem newton_to {i m : Nat} (h : i < m) (v : Nat → Int) : v i = S m fun k => D k v 0 * bin (i : Int) k := by
  rw [newton i v]
  refine (S_more (show i + 1 ≤ m from h) fun j h1 _ => ?_).symm
  show D j v 0 * bin (i : Int) j = 0
  rw [bin_beyond i j (by omega), Int.mul_zero]
/-- R3, the one way -/
theorem fits_of {v : Nat → Int} {n : Nat} (h : ∀ k, k < n → (W k : Int) ∣ D k v 0) {i j : Nat} (hi : i < n) (hj : j < n) : ((i : Int) - (j : Int)) ∣ v i - v j := by
  rw [newton_to hi v, newton_to hj v, ← S_sub]
  refine S_dvd n fun k hk => ?_
  rw [← Int.mul_sub]
  obtain ⟨q, hq⟩ := h k hk
  rw [hq, Int.mul_comm (W k : Int), Int.mul_assoc, Int.mul_sub]
  exact Int.dvd_trans (keep _ _ k) (Int.dvd_mul_left _ _)
/-- R3, the other way -/
theorem of_fits {v : Nat → Int} {n : Nat} (h : ∀ i j, i < n → j < n → ((i : Int) - (j : Int)) ∣ v i - v j) : ∀ k, k < n → (W k : Int) ∣ D k v 0 := by
  intro k
  induction k using Nat.strongRecOn with
  | ind k ih =>
    intro hk
    have hW : ∀ j, 1 ≤ j → j ≤ k → (j : Int) ∣ D k v 0 := fun j h1 h2 => by
      have a := newton_to (Nat.lt_succ_self k) v
      have a' : v k = (S k fun l => D l v 0 * bin (k : Int) l) + D k v 0 * bin (k : Int) k := a
      rw [bin_self, Int.mul_one] at a'
      have b := newton_to (i := k - j) (m := k) (by omega) v
      have c : (j : Int) ∣ v k - v (k - j) := by
        have q := h k (k - j) hk (by omega)
        have e : (k : Int) - ((k - j : Nat) : Int) = j := by omega
        rw [e] at q
        exact q
      have d : (j : Int) ∣ (S k fun l => D l v 0 * bin (k : Int) l) - (S k fun l => D l v 0 * bin ((k - j : Nat) : Int) l) := by
        rw [← S_sub]
        refine S_dvd k fun l hl => ?_
        rw [← Int.mul_sub]
        obtain ⟨q, hq⟩ := ih l hl (by omega)
        rw [hq, Int.mul_comm (W l : Int), Int.mul_assoc, Int.mul_sub]
        have q2 := keep (k : Int) ((k - j : Nat) : Int) l
        have e : (k : Int) - ((k - j : Nat) : Int) = j := by omega
        rw [e] at q2
        exact Int.dvd_trans q2 (Int.dvd_mul_left _ _)
      have e := Int.dvd_sub c d
      rw [a', b] at e
      have e2 : ((S k fun l => D l v 0 * bin (k : Int) l) + D k v 0 - S k fun l => D l v 0 * bin ((k - j : Nat) : Int) l) - ((S k fun l => D l v 0 * bin (k : Int) l) - S k fun l => D l v 0 * bin ((k - j : Nat) : Int) l) = D k v 0 := by omega
      rw [e2] at e
      exact e
    have q := W_least (n := (D k v 0).natAbs) k fun j h1 h2 => Int.ofNat_dvd_left.mp (hW j h1 h2)
    exact Int.ofNat_dvd_left.mpr q
end KM

/-! Plain mathematics, part 2: remainders together, conflicts, further values. -/
namespace KM

theorem dvd_lcm_gcds {a c e : Nat} (ha : 0 < a) (hc : 0 < c) (he : 0 < e) (h : e ∣ Nat.lcm a c) : e ∣ Nat.lcm (Nat.gcd a e) (Nat.gcd c e) := by
  have hd : 0 < Nat.gcd a e := Nat.gcd_pos_of_pos_left _ ha
  have hx : 0 < Nat.gcd c e := Nat.gcd_pos_of_pos_left _ hc
  have hg : 0 < Nat.gcd a c := Nat.gcd_pos_of_pos_left _ ha
  obtain ⟨a', ha'⟩ := Nat.gcd_dvd_left a e
  obtain ⟨e', he'⟩ := Nat.gcd_dvd_right a e
  obtain ⟨c', hc'⟩ := Nat.gcd_dvd_right a c
  have co : Nat.gcd e' a' = 1 := by
    have q : Nat.gcd (Nat.gcd a e * a') (Nat.gcd a e * e') = Nat.gcd a e * Nat.gcd a' e' := Nat.gcd_mul_left _ _ _
    rw [← ha', ← he'] at q
    rw [Nat.gcd_comm]
    have q' : Nat.gcd a e * Nat.gcd a' e' = Nat.gcd a e * 1 := by rw [← q, Nat.mul_one]
    exact Nat.eq_of_mul_eq_mul_left hd q'
  have l1 : Nat.lcm a c = a * c' := by
    have q := Nat.gcd_mul_lcm a c
    have q' : Nat.gcd a c * Nat.lcm a c = Nat.gcd a c * (a * c') := by
      rw [q]
      calc a * c = a * (Nat.gcd a c * c') := by rw [← hc']
        _ = Nat.gcd a c * (a * c') := by rw [← Nat.mul_assoc, Nat.mul_comm a, Nat.mul_assoc]
    exact Nat.eq_of_mul_eq_mul_left hg q'
  have h2 : e' ∣ a' * c' := by
    have q : Nat.gcd a e * e' ∣ Nat.gcd a e * (a' * c') := by
      rw [← he', ← Nat.mul_assoc, ← ha', ← l1]
      exact h
    exact Nat.dvd_of_mul_dvd_mul_left hd q
  have h3 : e' ∣ c' := Nat.Coprime.dvd_of_dvd_mul_left co h2
  have hh : 0 < Nat.gcd (Nat.gcd a e) (Nat.gcd c e) := Nat.gcd_pos_of_pos_left _ hd
  have h4 : e' * Nat.gcd (Nat.gcd a e) (Nat.gcd c e) ∣ Nat.gcd c e := by
    refine Nat.dvd_gcd ?_ ?_
    · have q : Nat.gcd (Nat.gcd a e) (Nat.gcd c e) ∣ Nat.gcd a c := Nat.dvd_gcd (Nat.dvd_trans (Nat.gcd_dvd_left _ _) (Nat.gcd_dvd_left _ _)) (Nat.dvd_trans (Nat.gcd_dvd_right _ _) (Nat.gcd_dvd_left _ _))
      have q2 := Nat.mul_dvd_mul h3 q
      rw [Nat.mul_comm c', ← hc'] at q2
      exact q2
    · have q2 := Nat.mul_dvd_mul (Nat.dvd_refl e') (Nat.gcd_dvd_left (Nat.gcd a e) (Nat.gcd c e))
      rw [Nat.mul_comm e' (Nat.gcd a e), ← he'] at q2
      exact q2
  obtain ⟨t, ht⟩ := h4
  refine ⟨t, ?_⟩
  have q := Nat.gcd_mul_lcm (Nat.gcd a e) (Nat.gcd c e)
  refine Nat.eq_of_mul_eq_mul_left hh ?_
  rw [q]
  calc Nat.gcd a e * Nat.gcd c e = Nat.gcd a e * (e' * Nat.gcd (Nat.gcd a e) (Nat.gcd c e) * t) := by rw [← ht]
    _ = (Nat.gcd a e * e') * (Nat.gcd (Nat.gcd a e) (Nat.gcd c e) * t) := by rw [← Nat.mul_assoc, ← Nat.mul_assoc, ← Nat.mul_assoc]
    _ = e * (Nat.gcd (Nat.gcd a e) (Nat.gcd c e) * t) := by rw [← he']
    _ = Nat.gcd (Nat.gcd a e) (Nat.gcd c e) * (e * t) := by rw [← Nat.mul_assoc, Nat.mul_comm e, Nat.mul_assoc]
theorem gcd_lcm_dvd {a c b n : Nat} (ha : 0 < a) (hc : 0 < c) (hb : 0 < b) (h1 : Nat.gcd a b ∣ n) (h2 : Nat.gcd c b ∣ n) : Nat.gcd (Nat.lcm a c) b ∣ n := by
  have he : 0 < Nat.gcd (Nat.lcm a c) b := Nat.gcd_pos_of_pos_right _ hb
  have q := dvd_lcm_gcds ha hc he (Nat.gcd_dvd_left _ _)
  have eb := Nat.gcd_dvd_right (Nat.lcm a c) b
  refine Nat.dvd_trans q (Nat.lcm_dvd ?_ ?_)
  · exact Nat.dvd_trans (Nat.dvd_gcd (Nat.gcd_dvd_left _ _) (Nat.dvd_trans (Nat.gcd_dvd_right _ _) eb)) h1
  · exact Nat.dvd_trans (Nat.dvd_gcd (Nat.gcd_dvd_left _ _) (Nat.dvd_trans (Nat.gcd_dvd_right _ _) eb)) h2

/-! ### the inverse, two classes together -/
/-- x is an inverse of n by m -/
def Inver (n m x : Int) : Prop := 0 ≤ x ∧ x < m ∧ m ∣ n * x - 1
theorem met_ok {r1 r2 inv : Int} {m1 m2 : Nat} (h1 : 0 < m1) (h2 : 0 < m2) (r0 : 0 ≤ r1) (rm : r1 < m1)
    (hinv : Inver ((m1 / Nat.gcd m1 m2 : Nat) : Int) ((m2 / Nat.gcd m1 m2 : Nat) : Int) inv) :
    let part : Int := ((m2 / Nat.gcd m1 m2 : Nat) : Int)
    let rounds : Int := (r2 - r1) / (Nat.gcd m1 m2 : Int) * inv % part
    0 ≤ r1 + m1 * rounds ∧ r1 + m1 * rounds < (Nat.lcm m1 m2 : Nat) ∧ (m1 : Int) * part = (Nat.lcm m1 m2 : Nat) ∧ (m1 : Int) ∣ r1 + m1 * rounds - r1 ∧
      (((Nat.gcd m1 m2 : Nat) : Int) ∣ r2 - r1 → (m2 : Int) ∣ r1 + m1 * rounds - r2) := by
  intro part rounds
  obtain ⟨i0, im, iv⟩ := hinv
  have hg : 0 < Nat.gcd m1 m2 := Nat.gcd_pos_of_pos_left _ h1
  have hp : 0 < part := by
    have q : 0 < m2 / Nat.gcd m1 m2 := Nat.div_pos (Nat.le_of_dvd h2 (Nat.gcd_dvd_right _ _)) hg
    show (0 : Int) < ((m2 / Nat.gcd m1 m2 : Nat) : Int)
    omega
  have e2 : ((Nat.gcd m1 m2 : Nat) : Int) * part = m2 := by
    have q : Nat.gcd m1 m2 * (m2 / Nat.gcd m1 m2) = m2 := Nat.mul_div_cancel' (Nat.gcd_dvd_right _ _)
    show ((Nat.gcd m1 m2 : Nat) : Int) * ((m2 / Nat.gcd m1 m2 : Nat) : Int) = m2
    rw [← Int.natCast_mul, q]
  have e1 : ((Nat.gcd m1 m2 : Nat) : Int) * ((m1 / Nat.gcd m1 m2 : Nat) : Int) = m1 := by
    have q : Nat.gcd m1 m2 * (m1 / Nat.gcd m1 m2) = m1 := Nat.mul_div_cancel' (Nat.gcd_dvd_left _ _)
    rw [← Int.natCast_mul, q]
  have eL : (m1 : Int) * part = (Nat.lcm m1 m2 : Nat) := by
    have q := Nat.gcd_mul_lcm m1 m2
    have q' : Nat.lcm m1 m2 = m1 * (m2 / Nat.gcd m1 m2) := by
      refine Nat.eq_of_mul_eq_mul_left hg ?_
      rw [q, ← Nat.mul_assoc, Nat.mul_comm (Nat.gcd m1 m2) m1, Nat.mul_assoc, Nat.mul_div_cancel' (Nat.gcd_dvd_right _ _)]
    rw [q', Int.natCast_mul]
  have q0 : 0 ≤ rounds := Int.emod_nonneg _ (by omega)
  have q1 : rounds < part := Int.emod_lt_of_pos _ hp
  have m0 : 0 ≤ (m1 : Int) * rounds := Int.mul_nonneg (by omega) q0
  have mle : (m1 : Int) * rounds ≤ (m1 : Int) * (part - 1) := Int.mul_le_mul_of_nonneg_left (by omega) (by omega)
  have em : (m1 : Int) * (part - 1) = (m1 : Int) * part - m1 := by rw [Int.mul_sub, Int.mul_one]
  refine ⟨by omega, by omega, eL, ?_, fun hd => ?_⟩
  · have e : r1 + (m1 : Int) * rounds - r1 = (m1 : Int) * rounds := by omega
    rw [e]; exact Int.dvd_mul_right _ _
  · obtain ⟨t, ht⟩ := hd
    have hgi : ((Nat.gcd m1 m2 : Nat) : Int) ≠ 0 := by omega
    have et : (r2 - r1) / ((Nat.gcd m1 m2 : Nat) : Int) = t := by rw [ht]; exact Int.mul_ediv_cancel_left _ hgi
    have er : part ∣ t * inv - rounds := by
      show part ∣ t * inv - (r2 - r1) / (Nat.gcd m1 m2 : Int) * inv % part
      rw [et]
      exact Int.dvd_self_sub_emod
    have key : part ∣ ((m1 / Nat.gcd m1 m2 : Nat) : Int) * rounds - t := by
      have a : part ∣ ((m1 / Nat.gcd m1 m2 : Nat) : Int) * (t * inv - rounds) := Int.dvd_trans er (Int.dvd_mul_left _ _)
      have b : part ∣ t * (((m1 / Nat.gcd m1 m2 : Nat) : Int) * inv - 1) := Int.dvd_trans iv (Int.dvd_mul_left _ _)
      have c := Int.dvd_sub b a
      have e : t * (((m1 / Nat.gcd m1 m2 : Nat) : Int) * inv - 1) - ((m1 / Nat.gcd m1 m2 : Nat) : Int) * (t * inv - rounds) = ((m1 / Nat.gcd m1 m2 : Nat) : Int) * rounds - t := by
        rw [Int.mul_sub, Int.mul_sub, Int.mul_one]
        have e3 : t * (((m1 / Nat.gcd m1 m2 : Nat) : Int) * inv) = ((m1 / Nat.gcd m1 m2 : Nat) : Int) * (t * inv) := by
          rw [← Int.mul_assoc, Int.mul_comm t, Int.mul_assoc]
        omega
      rw [e] at c
      exact c
    have e : r1 + (m1 : Int) * rounds - r2 = ((Nat.gcd m1 m2 : Nat) : Int) * (((m1 / Nat.gcd m1 m2 : Nat) : Int) * rounds - t) := by
      rw [Int.mul_sub, ← Int.mul_assoc, e1]
      omega
    rw [e, ← e2]
    exact Int.mul_dvd_mul (Int.dvd_refl _) key

/-! ### a book: places with values. What fits, the class at a place -/
abbrev Bk := List (Int × Int)
/-- all items fit, each two -/
def Fit (l : Bk) : Prop := ∀ x ∈ l, ∀ y ∈ l, x.1 - y.1 ∣ x.2 - y.2
/-- the least common multiple of the distances -/
def lcmd (l : Bk) (x : Int) : Nat := l.foldl (fun m q => Nat.lcm m (x - q.1).natAbs) 1
/-- (r, m) is the class at x -/
structure Cls (l : Bk) (x r m : Int) : Prop where
  mod : m = (lcmd l x : Nat)
  lo : 0 ≤ r
  hi : r < m
  dv : ∀ q ∈ l, x - q.1 ∣ r - q.2
theorem lcmd_snoc (l : Bk) (q : Int × Int) (x : Int) : lcmd (l ++ [q]) x = Nat.lcm (lcmd l x) (x - q.1).natAbs := by
  unfold lcmd
  rw [List.foldl_append]; rfl
theorem fold_lcm_pos {x : Int} : ∀ (l : Bk) (m : Nat), 0 < m → (∀ q ∈ l, x ≠ q.1) → 0 < l.foldl (fun m q => Nat.lcm m (x - q.1).natAbs) m
  | [], m, h, _ => h
  | q :: l, m, h, hn => fold_lcm_pos l _ (Nat.lcm_pos h (Int.natAbs_pos.mpr (by have := hn q List.mem_cons_self; omega))) fun y hy => hn y (List.mem_cons_of_mem _ hy)
theorem lcmd_pos {l : Bk} {x : Int} (h : ∀ q ∈ l, x ≠ q.1) : 0 < lcmd l x := fold_lcm_pos l 1 (by decide) h
theorem fold_lcm_gcd {x : Int} {b n : Nat} (hb : 0 < b) : ∀ (l : Bk) (m : Nat), 0 < m → (∀ q ∈ l, x ≠ q.1) → Nat.gcd m b ∣ n → (∀ q ∈ l, Nat.gcd (x - q.1).natAbs b ∣ n) → Nat.gcd (l.foldl (fun m q => Nat.lcm m (x - q.1).natAbs) m) b ∣ n
  | [], m, _, _, h, _ => h
  | q :: l, m, hm, hn, h, hq => by
    have hq0 : 0 < (x - q.1).natAbs := Int.natAbs_pos.mpr (by have := hn q List.mem_cons_self; omega)
    exact fold_lcm_gcd hb l _ (Nat.lcm_pos hm hq0) (fun y hy => hn y (List.mem_cons_of_mem _ hy)) (gcd_lcm_dvd hm hq0 hb h (hq q List.mem_cons_self)) fun y hy => hq y (List.mem_cons_of_mem _ hy)
theorem fold_lcm_dvd {x : Int} {n : Nat} : ∀ (l : Bk) (m : Nat), m ∣ n → (∀ q ∈ l, (x - q.1).natAbs ∣ n) → l.foldl (fun m q => Nat.lcm m (x - q.1).natAbs) m ∣ n
  | [], m, h, _ => h
  | q :: l, m, h, hq => fold_lcm_dvd l _ (Nat.lcm_dvd h (hq q List.mem_cons_self)) fun y hy => hq y (List.mem_cons_of_mem _ hy)
theorem fold_lcm_base {x : Int} : ∀ (l : Bk) (m : Nat), m ∣ l.foldl (fun m q => Nat.lcm m (x - q.1).natAbs) m
  | [], m => Nat.dvd_refl m
  | q :: l, m => Nat.dvd_trans (Nat.dvd_lcm_left _ _) (fold_lcm_base l _)
theorem fold_lcm_mem {x : Int} : ∀ (l : Bk) (m : Nat), ∀ q ∈ l, (x - q.1).natAbs ∣ l.foldl (fun m q => Nat.lcm m (x - q.1).natAbs) m
  | [], _, q, h => absurd h List.not_mem_nil
  | p :: l, m, q, h => by
    rcases List.mem_cons.mp h with e | h
    · rw [e]; exact Nat.dvd_trans (Nat.dvd_lcm_right _ _) (fold_lcm_base l _)
    · exact fold_lcm_mem l _ q h
/-- by places alone -/
theorem lcmd_congr {x y : Int} : ∀ {l l' : Bk}, l.map (fun q => (x - q.1).natAbs) = l'.map (fun q => (y - q.1).natAbs) → lcmd l x = lcmd l' y := by
  intro l l' h
  have aux : ∀ (l : Bk) (z : Int) (m : Nat), l.foldl (fun m q => Nat.lcm m (z - q.1).natAbs) m = (l.map fun q => (z - q.1).natAbs).foldl Nat.lcm m := by
    intro l z
    induction l with
    | nil => intro m; rfl
    | cons p l ih => intro m; exact ih _
  unfold lcmd
  rw [aux l x, aux l' y, h]
/-- by what is in them -/
theorem lcmd_same {x y : Int} {l l' : Bk} (h1 : ∀ q ∈ l, ∃ p ∈ l', (x - q.1).natAbs = (y - p.1).natAbs) (h2 : ∀ p ∈ l', ∃ q ∈ l, (x - q.1).natAbs = (y - p.1).natAbs) : lcmd l x = lcmd l' y := by
  refine Nat.dvd_antisymm (fold_lcm_dvd l 1 (Nat.one_dvd _) fun q hq => ?_) (fold_lcm_dvd l' 1 (Nat.one_dvd _) fun p hp => ?_)
  · obtain ⟨p, hp, e⟩ := h1 q hq
    rw [e]; exact fold_lcm_mem l' 1 p hp
  · obtain ⟨q, hq, e⟩ := h2 p hp
    rw [← e]; exact fold_lcm_mem l 1 q hq
theorem lcmd_dvd {l : Bk} {x n : Int} (h : ∀ q ∈ l, x - q.1 ∣ n) : ((lcmd l x : Nat) : Int) ∣ n :=
  Int.ofNat_dvd_left.mpr (fold_lcm_dvd l 1 (Nat.one_dvd _) fun q hq => Int.natAbs_dvd_natAbs.mpr (h q hq))
theorem dvd_lcmd {l : Bk} {x : Int} {q : Int × Int} (h : q ∈ l) : x - q.1 ∣ ((lcmd l x : Nat) : Int) := by
  rw [← Int.natAbs_dvd_natAbs]
  exact fold_lcm_mem l 1 q h
theorem dvd_eq {a b c : Int} (h : a ∣ b) (e : b = c) : a ∣ c := e ▸ h
theorem small_eq {r s m : Int} (h : m ∣ r - s) (r0 : 0 ≤ r) (s0 : 0 ≤ s) (rm : r < m) (sm : s < m) : r = s := by
  have hm : 0 < m := by omega
  have a : r % m = s % m := Int.emod_eq_emod_iff_emod_sub_eq_zero.mpr (Int.emod_eq_zero_of_dvd h)
  rw [Int.emod_eq_of_lt r0 rm, Int.emod_eq_of_lt s0 sm] at a
  exact a
/-- there is one class at most -/
theorem Cls.one {l l' : Bk} {x y r m r' m' : Int} (a : Cls l x r m) (b : Cls l' y r' m') (hm : lcmd l x = lcmd l' y) (hd : ∀ q ∈ l, x - q.1 ∣ r' - q.2) : r = r' ∧ m = m' := by
  have em : m = m' := by rw [a.mod, b.mod, hm]
  refine ⟨small_eq (m := m) ?_ a.lo b.lo a.hi (em ▸ b.hi), em⟩
  rw [a.mod]
  refine lcmd_dvd fun q hq => ?_
  have z := Int.dvd_sub (a.dv q hq) (hd q hq)
  have e : r - q.2 - (r' - q.2) = r - r' := by omega
  rw [e] at z
  exact z
theorem Cls.unique {l : Bk} {x r m r' m' : Int} (a : Cls l x r m) (b : Cls l x r' m') : r = r' ∧ m = m' := a.one b rfl b.dv
/-- one item more -/
theorem Cls.snoc {l : Bk} {q : Int × Int} {x r m inv : Int} (hF : Fit (l ++ [q])) (hn : ∀ p ∈ l ++ [q], x ≠ p.1) (a : Cls l x r m)
    (hinv : Inver ((lcmd l x / Nat.gcd (lcmd l x) (x - q.1).natAbs : Nat) : Int) (((x - q.1).natAbs / Nat.gcd (lcmd l x) (x - q.1).natAbs : Nat) : Int) inv) :
    Cls (l ++ [q]) x (r + m * ((q.2 % ((x - q.1).natAbs : Int) - r) / (Nat.gcd (lcmd l x) (x - q.1).natAbs : Int) * inv % (((x - q.1).natAbs / Nat.gcd (lcmd l x) (x - q.1).natAbs : Nat) : Int)))
      (m * (((x - q.1).natAbs / Nat.gcd (lcmd l x) (x - q.1).natAbs : Nat) : Int)) := by
  have hnl : ∀ p ∈ l, x ≠ p.1 := fun p hp => hn p (List.mem_append_left _ hp)
  have hq0 : 0 < (x - q.1).natAbs := Int.natAbs_pos.mpr (by have := hn q (List.mem_append_right _ (List.mem_singleton.mpr rfl)); omega)
  have hm := a.mod
  have M := met_ok (r1 := r) (r2 := q.2 % ((x - q.1).natAbs : Int)) (lcmd_pos hnl) hq0 a.lo (by rw [← hm]; exact a.hi) hinv
  rw [← hm] at M
  obtain ⟨M1, M2, M3, M4, M5⟩ := M
  refine ⟨?_, M1, ?_, fun p hp => ?_⟩
  · rw [M3, lcmd_snoc]
  · rw [M3]; exact M2
  · rcases List.mem_append.mp hp with hp | hp
    · have d1 : x - p.1 ∣ m := by rw [hm]; exact dvd_lcmd hp
      have d2 := Int.dvd_add (Int.dvd_trans d1 M4) (a.dv p hp)
      refine dvd_eq d2 ?_
      omega
    · have e : p = q := List.mem_singleton.mp hp
      subst e
      have hF1 : ∀ z ∈ l, x - z.1 ∣ r - z.2 := a.dv
      have g : ((Nat.gcd (lcmd l x) (x - p.1).natAbs : Nat) : Int) ∣ p.2 % ((x - p.1).natAbs : Int) - r := by
        rw [Int.ofNat_dvd_left]
        refine fold_lcm_gcd hq0 l 1 (by decide) hnl (by rw [Nat.gcd_one_left]; exact Nat.one_dvd _) fun z hz => ?_
        rw [← Int.ofNat_dvd_left]
        -- the gcd divides both distances
        have g1 : ((Nat.gcd (x - z.1).natAbs (x - p.1).natAbs : Nat) : Int) ∣ x - z.1 := Int.ofNat_dvd_left.mpr (Nat.gcd_dvd_left _ _)
        have g2 : ((Nat.gcd (x - z.1).natAbs (x - p.1).natAbs : Nat) : Int) ∣ x - p.1 := Int.ofNat_dvd_left.mpr (Nat.gcd_dvd_right _ _)
        have g2' : ((Nat.gcd (x - z.1).natAbs (x - p.1).natAbs : Nat) : Int) ∣ ((x - p.1).natAbs : Int) := Int.ofNat_dvd.mpr (Nat.gcd_dvd_right _ _)
        have g3 : ((Nat.gcd (x - z.1).natAbs (x - p.1).natAbs : Nat) : Int) ∣ p.1 - z.1 := by
          have y := Int.dvd_sub g1 g2
          have e : x - z.1 - (x - p.1) = p.1 - z.1 := by omega
          rw [e] at y
          exact y
        have f1 := Int.dvd_trans g3 (hF p (List.mem_append_right _ (List.mem_singleton.mpr rfl)) z (List.mem_append_left _ hz))
        have f2 := Int.dvd_trans g1 (hF1 z hz)
        have f3 : ((Nat.gcd (x - z.1).natAbs (x - p.1).natAbs : Nat) : Int) ∣ p.2 - p.2 % ((x - p.1).natAbs : Int) := Int.dvd_trans g2' Int.dvd_self_sub_emod
        have f4 := Int.dvd_sub (Int.dvd_sub f1 f2) f3
        have e : p.2 - z.2 - (r - z.2) - (p.2 - p.2 % ((x - p.1).natAbs : Int)) = p.2 % ((x - p.1).natAbs : Int) - r := by omega
        rw [e] at f4
        exact f4
      have d := M5 g
      have d2 : x - p.1 ∣ ((x - p.1).natAbs : Int) := Int.dvd_natAbs_self
      have d3 := Int.dvd_trans d2 d
      have d4 : x - p.1 ∣ p.2 - p.2 % ((x - p.1).natAbs : Int) := Int.dvd_trans d2 Int.dvd_self_sub_emod
      have d5 := Int.dvd_sub d3 d4
      refine dvd_eq d5 ?_
      omega
theorem Cls.nil (x : Int) : Cls [] x 0 1 := ⟨rfl, by decide, by decide, fun q h => absurd h List.not_mem_nil⟩
end KM

/-! Plain mathematics, part 3: conflicts, stretches as books, turned about, further values, sums. -/
namespace KM

/-! ### a stretch as a book -/
def en (s : Int) : List Int → Bk
  | [] => []
  | v :: r => (s, v) :: en (s + 1) r
theorem en_length : ∀ (s : Int) (l : List Int), (en s l).length = l.length
  | _, [] => rfl
  | s, v :: r => by
    show (en (s + 1) r).length + 1 = r.length + 1
    rw [en_length]
theorem en_get : ∀ (l : List Int) (s : Int) (i : Nat), (en s l)[i]? = l[i]?.map fun v => (s + (i : Int), v)
  | [], _, i => by simp [en]
  | v :: r, s, 0 => by
    show some (s, v) = some (s + ((0 : Nat) : Int), v)
    have e : s + ((0 : Nat) : Int) = s := by omega
    rw [e]
  | v :: r, s, i + 1 => by
    show (en (s + 1) r)[i]? = r[i]?.map fun v => (s + ((i + 1 : Nat) : Int), v)
    rw [en_get r (s + 1) i]
    have e : s + 1 + (i : Int) = s + ((i + 1 : Nat) : Int) := by omega
    rw [e]
theorem en_append (s : Int) : ∀ (l r : List Int), en s (l ++ r) = en s l ++ en (s + (l.length : Int)) r
  | [], r => by
    show en s r = en (s + ((0 : Nat) : Int)) r
    have e : s + ((0 : Nat) : Int) = s := by omega
    rw [e]
  | v :: l, r => by
    show (s, v) :: en (s + 1) (l ++ r) = (s, v) :: (en (s + 1) l ++ en (s + ((l.length + 1 : Nat) : Int)) r)
    rw [en_append (s + 1) l r]
    have e : s + 1 + (l.length : Int) = s + ((l.length + 1 : Nat) : Int) := by omega
    rw [e]
theorem mem_en {s : Int} {l : List Int} {q : Int × Int} : q ∈ en s l ↔ ∃ i : Nat, l[i]? = some q.2 ∧ q.1 = s + (i : Int) := by
  rw [List.mem_iff_getElem?]
  constructor
  · rintro ⟨i, e⟩
    rw [en_get] at e
    obtain ⟨v, e1, e2⟩ := Option.map_eq_some_iff.mp e
    subst e2
    exact ⟨i, e1, rfl⟩
  · rintro ⟨i, e1, e2⟩
    refine ⟨i, ?_⟩
    rw [en_get, e1, Option.map_some, ← e2]
theorem en_shift (s c : Int) : ∀ (l : List Int), en (s + c) l = (en s l).map fun q => (q.1 + c, q.2)
  | [] => rfl
  | v :: r => by
    show (s + c, v) :: en (s + c + 1) r = (s + c, v) :: (en (s + 1) r).map fun q => (q.1 + c, q.2)
    rw [← en_shift (s + 1) c r]
    have e : s + c + 1 = s + 1 + c := by omega
    rw [e]
theorem en_places (s : Int) : ∀ (l : List Int), (en s l).map (·.1) = (List.range l.length).map fun i => s + ((i : Nat) : Int) := fun l => by
  refine List.ext_getElem? fun i => ?_
  rw [List.getElem?_map, en_get, List.getElem?_map]
  cases e : l[i]? with
  | none =>
    have h : l.length ≤ i := List.getElem?_eq_none_iff.mp e
    simp [h]
  | some v =>
    have h : i < l.length := (List.getElem?_eq_some_iff.mp e).1
    simp [h]
/-! ### moved -/
theorem fit_shift {l : Bk} (c : Int) : Fit (l.map fun q => (q.1 + c, q.2)) ↔ Fit l := by
  unfold Fit
  constructor
  · intro h x hx y hy
    have q := h _ (List.mem_map_of_mem hx) _ (List.mem_map_of_mem hy)
    have e : x.1 + c - (y.1 + c) = x.1 - y.1 := by omega
    simp only [e] at q
    exact q
  · intro h x hx y hy
    obtain ⟨x', hx', rfl⟩ := List.mem_map.mp hx
    obtain ⟨y', hy', rfl⟩ := List.mem_map.mp hy
    have e : x'.1 + c - (y'.1 + c) = x'.1 - y'.1 := by omega
    simp only [e]
    exact h x' hx' y' hy'
theorem Cls.shift {l : Bk} {x r m : Int} (c : Int) (h : Cls l x r m) : Cls (l.map fun q => (q.1 + c, q.2)) (x + c) r m := by
  refine ⟨?_, h.lo, h.hi, fun q hq => ?_⟩
  · rw [h.mod]
    have e : lcmd l x = lcmd (l.map fun q => (q.1 + c, q.2)) (x + c) := by
      refine lcmd_congr ?_
      rw [List.map_map]
      refine List.map_congr_left fun q _ => ?_
      show (x - q.1).natAbs = (x + c - (q.1 + c)).natAbs
      have e : x + c - (q.1 + c) = x - q.1 := by omega
      rw [e]
    rw [e]
  · obtain ⟨q', hq', rfl⟩ := List.mem_map.mp hq
    show x + c - (q'.1 + c) ∣ r - q'.2
    have e : x + c - (q'.1 + c) = x - q'.1 := by omega
    rw [e]
    exact h.dv q' hq'
theorem cls_en_shift {s : Int} {l : List Int} {x r m r' m' : Int} (a : Cls (en 0 l) x r m) (b : Cls (en s l) (s + x) r' m') : r = r' ∧ m = m' := by
  have q := a.shift s
  rw [← en_shift, Int.zero_add, Int.add_comm x s] at q
  exact q.unique b
theorem cls_unshift {s : Int} {l : List Int} {x r m : Int} (b : Cls (en s l) (s + x) r m) : Cls (en 0 l) x r m := by
  have q := b.shift (-s)
  rw [← en_shift] at q
  have e1 : s + -s = 0 := by omega
  have e2 : s + x + -s = x := by omega
  rw [e1, e2] at q
  exact q
/-! ### turned about -/
theorem mem_rev {l : List Int} {i : Nat} {v : Int} (h : l[i]? = some v) : l.reverse[l.length - 1 - i]? = some v := by
  have hi := (List.getElem?_eq_some_iff.mp h).1
  rw [List.getElem?_reverse (by omega)]
  have e : l.length - 1 - (l.length - 1 - i) = i := by omega
  rw [e]
  exact h
theorem fit_rev {l : List Int} (h : Fit (en 0 l)) : Fit (en 0 l.reverse) := by
  intro x hx y hy
  obtain ⟨i, hi, ei⟩ := mem_en.mp hx
  obtain ⟨j, hj, ej⟩ := mem_en.mp hy
  have a := mem_rev hi
  have b := mem_rev hj
  rw [List.reverse_reverse, List.length_reverse] at a b
  have li := (List.getElem?_eq_some_iff.mp hi).1
  have lj := (List.getElem?_eq_some_iff.mp hj).1
  rw [List.length_reverse] at li lj
  have q := h (((l.length - 1 - i : Nat) : Int), x.2) (mem_en.mpr ⟨_, a, by simp⟩) (((l.length - 1 - j : Nat) : Int), y.2) (mem_en.mpr ⟨_, b, by simp⟩)
  have e : x.1 - y.1 = -(((l.length - 1 - i : Nat) : Int) - ((l.length - 1 - j : Nat) : Int)) := by omega
  rw [e]
  exact Int.neg_dvd.mpr q
theorem cls_rev_aux {l : List Int} {r m : Int} (h : Cls (en 0 l) l.length r m) : Cls (en 0 l.reverse) (-1) r m := by
  have key : ∀ q ∈ en 0 l.reverse, ∃ p ∈ en 0 l, (l.length : Int) - p.1 = -(-1 - q.1) ∧ p.2 = q.2 := fun q hq => by
    obtain ⟨i, hi, ei⟩ := mem_en.mp hq
    have a := mem_rev hi
    rw [List.reverse_reverse, List.length_reverse] at a
    have li := (List.getElem?_eq_some_iff.mp hi).1
    rw [List.length_reverse] at li
    exact ⟨(((l.length - 1 - i : Nat) : Int), q.2), mem_en.mpr ⟨_, a, by simp⟩, by show (l.length : Int) - ((l.length - 1 - i : Nat) : Int) = -(-1 - q.1); omega, rfl⟩
  have key2 : ∀ p ∈ en 0 l, ∃ q ∈ en 0 l.reverse, (l.length : Int) - p.1 = -(-1 - q.1) := fun p hp => by
    obtain ⟨i, hi, ei⟩ := mem_en.mp hp
    have a := mem_rev hi
    have li := (List.getElem?_eq_some_iff.mp hi).1
    exact ⟨(((l.length - 1 - i : Nat) : Int), p.2), mem_en.mpr ⟨_, a, by simp⟩, by show (l.length : Int) - p.1 = -(-1 - ((l.length - 1 - i : Nat) : Int)); omega⟩
  refine ⟨?_, h.lo, h.hi, fun q hq => ?_⟩
  · rw [h.mod]
    have e : lcmd (en 0 l) l.length = lcmd (en 0 l.reverse) (-1) := by
      refine lcmd_same (fun p hp => ?_) fun q hq => ?_
      · obtain ⟨q, hq, e⟩ := key2 p hp
        exact ⟨q, hq, by rw [e, Int.natAbs_neg]⟩
      · obtain ⟨p, hp, e, _⟩ := key q hq
        exact ⟨p, hp, by rw [e, Int.natAbs_neg]⟩
    rw [e]
  · obtain ⟨p, hp, e, ev⟩ := key q hq
    have d := h.dv p hp
    rw [e, ev] at d
    exact Int.neg_dvd.mp d
/-- class_ahead of the turned one is next_class -/
theorem cls_rev {l : List Int} {r m r' m' : Int} (a : Cls (en 0 l) l.length r m) (b : Cls (en 0 l.reverse) (-1) r' m') : r = r' ∧ m = m' := (cls_rev_aux a).unique b
theorem cls_rev' {l : List Int} {r m r' m' : Int} (a : Cls (en 0 l) (-1) r m) (b : Cls (en 0 l.reverse) l.length r' m') : r = r' ∧ m = m' := by
  have b' : Cls (en 0 l.reverse) l.reverse.length r' m' := by rw [List.length_reverse]; exact b
  have q := cls_rev_aux b'
  rw [List.reverse_reverse] at q
  exact a.unique q
/-! ### conflicts -/
def fitb (x y : Int × Int) : Bool := decide (x.1 - y.1 ∣ x.2 - y.2)
def confRow (l : Bk) (i : Nat) : List (Nat × Nat) := (((List.range (l.length - (i + 1))).map fun t => i + 1 + t).filter fun j => !fitb (l.getD i (0, 0)) (l.getD j (0, 0))).map fun j => (i, j)
def conf (l : Bk) : List (Nat × Nat) := (List.range l.length).flatMap (confRow l)
theorem mem_confRow {l : Bk} {i : Nat} {q : Nat × Nat} : q ∈ confRow l i ↔ q.1 = i ∧ i < q.2 ∧ q.2 < l.length ∧ fitb (l.getD i (0, 0)) (l.getD q.2 (0, 0)) = false := by
  unfold confRow
  simp only [List.mem_map, List.mem_filter, List.mem_range, Bool.not_eq_true']
  constructor
  · rintro ⟨j, ⟨⟨t, ht, rfl⟩, hf⟩, rfl⟩
    exact ⟨rfl, by show i < i + 1 + t; omega, by show i + 1 + t < l.length; omega, hf⟩
  · obtain ⟨a, b⟩ := q
    rintro ⟨rfl, h1, h2, hf⟩
    exact ⟨b, ⟨⟨b - (a + 1), by simp only at h1 h2; omega, by simp only at h1; omega⟩, hf⟩, rfl⟩
theorem mem_conf {l : Bk} {q : Nat × Nat} : q ∈ conf l ↔ q.1 < q.2 ∧ q.2 < l.length ∧ fitb (l.getD q.1 (0, 0)) (l.getD q.2 (0, 0)) = false := by
  unfold conf
  simp only [List.mem_flatMap, List.mem_range]
  constructor
  · rintro ⟨i, hi, hq⟩
    obtain ⟨h1, h2, h3, h4⟩ := mem_confRow.mp hq
    rw [h1]
    exact ⟨h2, h3, h4⟩
  · rintro ⟨h1, h2, h3⟩
    exact ⟨q.1, by omega, mem_confRow.mpr ⟨rfl, h1, h2, h3⟩⟩
theorem getD_mem {l : Bk} {i : Nat} (h : i < l.length) : l.getD i (0, 0) ∈ l := by
  rw [List.getD_eq_getElem?_getD, List.getElem?_eq_getElem h]
  exact List.getElem_mem h
theorem mem_getD {l : Bk} {x : Int × Int} (h : x ∈ l) : ∃ i, i < l.length ∧ l.getD i (0, 0) = x := by
  obtain ⟨i, hi, e⟩ := List.mem_iff_getElem.mp h
  refine ⟨i, hi, ?_⟩
  rw [List.getD_eq_getElem?_getD, List.getElem?_eq_getElem hi]
  exact e
theorem conf_nil {l : Bk} : conf l = [] ↔ Fit l := by
  constructor
  · intro h x hx y hy
    obtain ⟨i, hi, ei⟩ := mem_getD hx
    obtain ⟨j, hj, ej⟩ := mem_getD hy
    have no : ∀ a b, a < b → b < l.length → (l.getD a (0, 0)).1 - (l.getD b (0, 0)).1 ∣ (l.getD a (0, 0)).2 - (l.getD b (0, 0)).2 := fun a b hab hb => by
      cases e : fitb (l.getD a (0, 0)) (l.getD b (0, 0)) with
      | true => exact of_decide_eq_true e
      | false =>
        have q := mem_conf (l := l) (q := (a, b)) |>.mpr ⟨hab, hb, e⟩
        rw [h] at q
        exact absurd q List.not_mem_nil
    rw [← ei, ← ej]
    rcases Nat.lt_trichotomy i j with c | c | c
    · exact no i j c hj
    · rw [c]
      have e1 : (l.getD j (0, 0)).2 - (l.getD j (0, 0)).2 = 0 := by omega
      rw [e1]; exact Int.dvd_zero _
    · have q := no j i c hi
      have q2 := Int.neg_dvd.mpr (Int.dvd_neg.mpr q)
      have e1 : -((l.getD j (0, 0)).1 - (l.getD i (0, 0)).1) = (l.getD i (0, 0)).1 - (l.getD j (0, 0)).1 := by omega
      have e2 : -((l.getD j (0, 0)).2 - (l.getD i (0, 0)).2) = (l.getD i (0, 0)).2 - (l.getD j (0, 0)).2 := by omega
      rw [e1, e2] at q2
      exact q2
  · intro h
    refine List.eq_nil_iff_forall_not_mem.mpr fun q hq => ?_
    obtain ⟨h1, h2, h3⟩ := mem_conf.mp hq
    have z := h _ (getD_mem (l := l) (i := q.1) (by omega)) _ (getD_mem h2)
    exact absurd (decide_eq_true z) (by unfold fitb at h3; rw [h3]; decide)
theorem confRow_congr {l l' : Bk} (hl : l.length = l'.length) {i : Nat} (h : ∀ j, i < j → j < l.length → fitb (l.getD i (0, 0)) (l.getD j (0, 0)) = fitb (l'.getD i (0, 0)) (l'.getD j (0, 0))) : confRow l i = confRow l' i := by
  unfold confRow
  rw [← hl]
  have e : ((List.range (l.length - (i + 1))).map fun t => i + 1 + t).filter (fun j => !fitb (l.getD i (0, 0)) (l.getD j (0, 0))) = ((List.range (l.length - (i + 1))).map fun t => i + 1 + t).filter (fun j => !fitb (l'.getD i (0, 0)) (l'.getD j (0, 0))) := by
    refine List.filter_congr fun j hj => ?_
    obtain ⟨t, ht, rfl⟩ := List.mem_map.mp hj
    rw [h _ (by omega) (by have := List.mem_range.mp ht; omega)]
  rw [e]
theorem conf_congr {l l' : Bk} (hl : l.length = l'.length) (h : ∀ i j, i < j → j < l.length → fitb (l.getD i (0, 0)) (l.getD j (0, 0)) = fitb (l'.getD i (0, 0)) (l'.getD j (0, 0))) : conf l = conf l' := by
  unfold conf
  rw [← hl]
  have aux : ∀ (r : List Nat), r.flatMap (confRow l) = r.flatMap (confRow l') := by
    intro r
    induction r with
    | nil => rfl
    | cons a r ih => rw [List.flatMap_cons, List.flatMap_cons, ih, confRow_congr hl fun j a b => h _ j a b]
  exact aux _
theorem en_getD {s : Int} {l : List Int} {i : Nat} (h : i < l.length) : (en s l).getD i (0, 0) = (s + (i : Int), l.getD i 0) := by
  rw [List.getD_eq_getElem?_getD, en_get, List.getD_eq_getElem?_getD, List.getElem?_eq_getElem h]
  rfl
theorem fitb_en {s : Int} {l : List Int} {i j : Nat} (hi : i < l.length) (hj : j < l.length) : fitb ((en s l).getD i (0, 0)) ((en s l).getD j (0, 0)) = decide (((i : Int) - (j : Int)) ∣ l.getD i 0 - l.getD j 0) := by
  rw [en_getD hi, en_getD hj]
  unfold fitb
  have e : s + (i : Int) - (s + (j : Int)) = (i : Int) - (j : Int) := by omega
  simp only [e]
/-- a stretch and its book have the same conflicts -/
theorem conf_en (s : Int) (l : List Int) : conf (en s l) = conf (en 0 l) := by
  refine conf_congr (by rw [en_length, en_length]) fun i j hij hj => ?_
  rw [en_length] at hj
  rw [fitb_en (by omega) hj, fitb_en (by omega) hj]
/-- a part behind has no more -/
theorem conf_drop (s t : Int) (l : List Int) (c : Nat) (hc : c ≤ l.length) : (conf (en s (l.drop c))).length ≤ (conf (en t l)).length := by
  have er : List.range (en t l).length = List.range c ++ (List.range (l.length - c)).map (c + ·) := by
    rw [en_length]
    have q := List.range_add (n := c) (m := l.length - c)
    have e : c + (l.length - c) = l.length := by omega
    rw [e] at q
    exact q
  unfold conf
  rw [er, List.flatMap_append, List.length_append, en_length, List.length_drop]
  refine Nat.le_trans ?_ (Nat.le_add_left _ _)
  have row : ∀ i, i < l.length - c → (confRow (en s (l.drop c)) i).length = (confRow (en t l) (c + i)).length := fun i hi => by
    have aux : ∀ (n : Nat), i + 1 + n ≤ l.length - c → ((((List.range n).map fun t => i + 1 + t).filter fun j => !fitb ((en s (l.drop c)).getD i (0, 0)) ((en s (l.drop c)).getD j (0, 0)))).length =
        (((List.range n).map fun t => c + i + 1 + t).filter fun j => !fitb ((en t l).getD (c + i) (0, 0)) ((en t l).getD j (0, 0))).length := by
      intro n
      induction n with
      | zero => intro _; rfl
      | succ n ih =>
        intro hn
        have z := ih (by omega)
        rw [List.range_succ, List.map_append, List.map_append, List.filter_append, List.filter_append, List.length_append, List.length_append, z]
        have dg : ∀ a, a < l.length - c → (l.drop c).getD a 0 = l.getD (c + a) 0 := fun a _ => by
          rw [List.getD_eq_getElem?_getD, List.getElem?_drop, ← List.getD_eq_getElem?_getD]
        have e : fitb ((en s (l.drop c)).getD i (0, 0)) ((en s (l.drop c)).getD (i + 1 + n) (0, 0)) = fitb ((en t l).getD (c + i) (0, 0)) ((en t l).getD (c + i + 1 + n) (0, 0)) := by
          rw [fitb_en (by rw [List.length_drop]; omega) (by rw [List.length_drop]; omega), fitb_en (by omega) (by omega), dg i hi, dg (i + 1 + n) (by omega)]
          have e1 : c + (i + 1 + n) = c + i + 1 + n := by omega
          have e2 : (i : Int) - ((i + 1 + n : Nat) : Int) = ((c + i : Nat) : Int) - ((c + i + 1 + n : Nat) : Int) := by omega
          rw [e1, e2]
        show _ + (List.filter _ [i + 1 + n]).length = _ + (List.filter _ [c + i + 1 + n]).length
        rw [List.filter_cons, List.filter_cons, e]
        split <;> rfl
    unfold confRow
    rw [List.length_map, List.length_map, en_length, en_length, List.length_drop]
    have e : l.length - (c + i + 1) = l.length - c - (i + 1) := by omega
    rw [e]
    exact aux _ (by omega)
  have sum : ∀ (r : List Nat), (∀ i ∈ r, i < l.length - c) → (r.flatMap (confRow (en s (l.drop c)))).length = ((r.map (c + ·)).flatMap (confRow (en t l))).length := by
    intro r
    induction r with
    | nil => intro _; rfl
    | cons a r ih =>
      intro h
      rw [List.flatMap_cons, List.map_cons, List.flatMap_cons, List.length_append, List.length_append, row a (h a List.mem_cons_self), ih fun i hi => h i (List.mem_cons_of_mem _ hi)]
  rw [sum _ fun i hi => List.mem_range.mp hi]
  exact Nat.le_refl _
/-- what does not fit in the part ahead of a cut does not fit there -/
theorem conf_take {l : List Int} {c i j : Nat} (h : (i, j) ∈ conf (en 0 l)) (hj : j < c) : ¬ Fit (en 0 (l.take c)) := by
  obtain ⟨h1, h2, h3⟩ := mem_conf.mp h
  simp only at h1 h2 h3
  rw [en_length] at h2
  intro F
  have e := conf_nil.mpr F
  have tg : ∀ a, a < c → (l.take c).getD a 0 = l.getD a 0 := fun a ha => by
    rw [List.getD_eq_getElem?_getD, List.getElem?_take_of_lt ha, ← List.getD_eq_getElem?_getD]
  have q : (i, j) ∈ conf (en 0 (l.take c)) := by
    refine mem_conf.mpr ⟨h1, by rw [en_length, List.length_take]; show j < _; omega, ?_⟩
    show fitb ((en 0 (l.take c)).getD i (0, 0)) ((en 0 (l.take c)).getD j (0, 0)) = false
    rw [fitb_en (by rw [List.length_take]; omega) (by rw [List.length_take]; omega), tg i (by omega), tg j hj]
    rw [fitb_en (by omega) h2] at h3
    exact h3
  rw [e] at q
  exact absurd q List.not_mem_nil
/-! ### R3 for stretches -/
def vf (l : List Int) : Nat → Int := fun i => l.getD i 0
def allW (l : List Int) : Prop := ∀ k, k < l.length → (W k : Int) ∣ D k (vf l) 0
theorem fit_en {l : List Int} : Fit (en 0 l) ↔ ∀ i j, i < l.length → j < l.length → ((i : Int) - (j : Int)) ∣ l.getD i 0 - l.getD j 0 := by
  constructor
  · intro h i j hi hj
    have q := h _ (getD_mem (l := en 0 l) (i := i) (by rw [en_length]; exact hi)) _ (getD_mem (l := en 0 l) (i := j) (by rw [en_length]; exact hj))
    have z := decide_eq_true q
    have z' : fitb ((en 0 l).getD i (0, 0)) ((en 0 l).getD j (0, 0)) = true := z
    rw [fitb_en hi hj] at z'
    exact of_decide_eq_true z'
  · intro h x hx y hy
    obtain ⟨i, hi, ei⟩ := mem_getD hx
    obtain ⟨j, hj, ej⟩ := mem_getD hy
    rw [en_length] at hi hj
    have z := decide_eq_true (h i j hi hj)
    rw [← fitb_en (s := 0) hi hj, ei, ej] at z
    exact of_decide_eq_true z
theorem allW_iff {l : List Int} : allW l ↔ Fit (en 0 l) := by
  rw [fit_en]
  constructor
  · intro h i j hi hj
    exact fits_of (v := vf l) h hi hj
  · intro h k hk
    exact of_fits (v := vf l) (n := l.length) (fun i j hi hj => h i j hi hj) k hk
/-! ### further values -/
theorem fit_snoc {l : List Int} {r m : Int} (h : Fit (en 0 l)) (c : Cls (en 0 l) l.length r m) : Fit (en 0 (l ++ [r])) := by
  rw [en_append]
  intro x hx y hy
  have last : ∀ z ∈ en (0 + (l.length : Int)) [r], z = ((l.length : Int), r) := fun z hz => by
    have q := List.mem_singleton.mp hz
    rw [q, Int.zero_add]
  rcases List.mem_append.mp hx with hx | hx
  · rcases List.mem_append.mp hy with hy | hy
    · exact h x hx y hy
    · rw [last y hy]
      have d := c.dv x hx
      have e1 : x.1 - (l.length : Int) = -((l.length : Int) - x.1) := by omega
      have e2 : x.2 - r = -(r - x.2) := by omega
      show x.1 - (l.length : Int) ∣ x.2 - r
      rw [e1, e2]
      exact Int.neg_dvd.mpr (Int.dvd_neg.mpr d)
  · rw [last x hx]
    rcases List.mem_append.mp hy with hy | hy
    · exact c.dv y hy
    · rw [last y hy]
      have e2 : r - r = 0 := by omega
      show (l.length : Int) - (l.length : Int) ∣ r - r
      rw [e2]; exact Int.dvd_zero _
open Classical in
/-- the least next value -/
noncomputable def nx (l : List Int) : Int := if h : ∃ r m, Cls (en 0 l) l.length r m then h.choose else 0
theorem nx_eq {l : List Int} {r m : Int} (c : Cls (en 0 l) l.length r m) : nx l = r := by
  have h : ∃ r m, Cls (en 0 l) l.length r m := ⟨r, m, c⟩
  unfold nx
  rw [dif_pos h]
  obtain ⟨m', c'⟩ := h.choose_spec
  exact (c'.unique c).1
noncomputable def ext (l : List Int) : Nat → List Int
  | 0 => l
  | n + 1 => ext l n ++ [nx (ext l n)]
theorem ext_length (l : List Int) : ∀ n, (ext l n).length = l.length + n
  | 0 => rfl
  | n + 1 => by
    show (ext l n ++ [_]).length = _
    rw [List.length_append, ext_length l n]; rfl
theorem ext_ext (l : List Int) (a : Nat) : ∀ b, ext (ext l a) b = ext l (a + b)
  | 0 => rfl
  | b + 1 => by
    show ext (ext l a) b ++ [nx (ext (ext l a) b)] = ext l (a + b) ++ [nx (ext l (a + b))]
    rw [ext_ext l a b]
theorem ext_prefix (l : List Int) (a b : Nat) : (ext l (a + b)).take (ext l a).length = ext l a := by
  induction b with
  | zero => exact List.take_length
  | succ b ih =>
    show (ext l (a + b) ++ [_]).take _ = _
    rw [List.take_append_of_le_length (by rw [ext_length, ext_length]; omega)]
    exact ih
/-! ### the differences -/
def diffs (l : List Int) : List Int := (List.range l.length).map fun k => D k (vf l) 0
theorem diffs_later (l : List Int) (k : Nat) (hk : k + 1 < l.length) : D k (vf l) 0 + D (k + 1) (vf l) 0 = D k (vf (l.drop 1 ++ [0])) 0 := by
  have h : ∀ i, i < l.length - 1 → vf (l.drop 1 ++ [0]) i = vf l (i + 1) := fun i hi => by
    unfold vf
    rw [List.getD_eq_getElem?_getD, List.getElem?_append_left (by rw [List.length_drop]; exact hi), List.getElem?_drop, ← List.getD_eq_getElem?_getD, Nat.add_comm 1 i]
  rw [D_congr h k 0 (by omega), D_later]
  show D k (vf l) 0 + (D k (vf l) (0 + 1) - D k (vf l) 0) = D k (vf l) (0 + 1)
  omega
/-! ### sums -/
def vals (f : Int → Int) (ss : List Int) : Bk := ss.map fun s => (s, f s)
theorem vals_fit {f : Int → Int} (hf : ∀ x y, x - y ∣ f x - f y) (ss : List Int) : Fit (vals f ss) := by
  intro x hx y hy
  obtain ⟨a, _, rfl⟩ := List.mem_map.mp hx
  obtain ⟨b, _, rfl⟩ := List.mem_map.mp hy
  exact hf a b
theorem lcmd_vals (f g : Int → Int) (ss : List Int) (x : Int) : lcmd (vals f ss) x = lcmd (vals g ss) x := by
  refine lcmd_congr ?_
  unfold vals
  rw [List.map_map, List.map_map]
  rfl
theorem cls_sum {f g : Int → Int} {ss : List Int} {x r1 m1 r2 m2 r3 m3 : Int} (a : Cls (vals f ss) x r1 m1) (b : Cls (vals g ss) x r2 m2) (c : Cls (vals (fun s => f s + g s) ss) x r3 m3) : m1 = m3 ∧ m2 = m3 ∧ r3 = (r1 + r2) % m3 := by
  have e1 : m1 = m3 := by rw [a.mod, c.mod, lcmd_vals f (fun s => f s + g s)]
  have e2 : m2 = m3 := by rw [b.mod, c.mod, lcmd_vals g (fun s => f s + g s)]
  have hm : 0 < m3 := by have := c.lo; have := c.hi; omega
  refine ⟨e1, e2, small_eq (m := m3) ?_ c.lo (Int.emod_nonneg _ (by omega)) c.hi (Int.emod_lt_of_pos _ hm)⟩
  have d1 : m3 ∣ r3 - (r1 + r2) := by
    rw [c.mod]
    refine lcmd_dvd fun q hq => ?_
    obtain ⟨s, hs, rfl⟩ := List.mem_map.mp hq
    have z1 := a.dv (s, f s) (List.mem_map_of_mem (f := fun s => (s, f s)) hs)
    have z2 := b.dv (s, g s) (List.mem_map_of_mem (f := fun s => (s, g s)) hs)
    have z3 := c.dv (s, f s + g s) (List.mem_map_of_mem (f := fun s => (s, f s + g s)) hs)
    have z := Int.dvd_sub z3 (Int.dvd_add z1 z2)
    refine dvd_eq z ?_
    show r3 - (f s + g s) - (r1 - f s + (r2 - g s)) = r3 - (r1 + r2)
    omega
  have d2 : m3 ∣ r1 + r2 - (r1 + r2) % m3 := Int.dvd_self_sub_emod
  refine dvd_eq (Int.dvd_add d1 d2) ?_
  omega
/-- two books of the same places, one of a row: the sum has the conflicts of the other -/
theorem conf_sum {l l' : Bk} {g : Int → Int} (hg : ∀ x y, x - y ∣ g x - g y) (e : l' = l.map fun q => (q.1, q.2 + g q.1)) : conf l' = conf l := by
  subst e
  refine conf_congr (by rw [List.length_map]) fun i j hij hj => ?_
  rw [List.length_map] at hj
  have gd : ∀ a, a < l.length → (l.map fun q => (q.1, q.2 + g q.1)).getD a (0, 0) = ((l.getD a (0, 0)).1, (l.getD a (0, 0)).2 + g (l.getD a (0, 0)).1) := fun a ha => by
    rw [List.getD_eq_getElem?_getD, List.getElem?_map, List.getD_eq_getElem?_getD, List.getElem?_eq_getElem ha]
    rfl
  rw [gd i (by omega), gd j hj]
  unfold fitb
  have h := hg (l.getD i (0, 0)).1 (l.getD j (0, 0)).1
  refine decide_eq_decide.mpr ⟨fun z => ?_, fun z => ?_⟩
  · refine dvd_eq (Int.dvd_sub z h) ?_
    simp only
    omega
  · refine dvd_eq (Int.dvd_add z h) ?_
    simp only
    omega
/-! ### sizes -/
theorem lcmd_le {l : Bk} {x : Int} {b : Nat} : (∀ q ∈ l, 0 < (x - q.1).natAbs) → (∀ q ∈ l, (x - q.1).natAbs < 2 ^ b) → lcmd l x ≤ 2 ^ (b * l.length) := by
  have aux : ∀ (l : Bk) (m c : Nat), m ≤ 2 ^ c → (∀ q ∈ l, 0 < (x - q.1).natAbs) → (∀ q ∈ l, (x - q.1).natAbs < 2 ^ b) → l.foldl (fun m q => Nat.lcm m (x - q.1).natAbs) m ≤ 2 ^ (c + b * l.length) := by
    intro l
    induction l with
    | nil => intro m c h _ _; exact h
    | cons p l ih =>
      intro m c h h0 hb
      have z := ih (Nat.lcm m (x - p.1).natAbs) (c + b) ?_ (fun q hq => h0 q (List.mem_cons_of_mem _ hq)) (fun q hq => hb q (List.mem_cons_of_mem _ hq))
      · have e : c + b + b * l.length = c + b * (p :: l).length := by
          rw [List.length_cons, Nat.mul_succ]; omega
        rw [e] at z
        exact z
      · by_cases hm : m = 0
        · rw [hm, Nat.lcm_zero_left]; exact Nat.zero_le _
        · have a : Nat.lcm m (x - p.1).natAbs ≤ m * (x - p.1).natAbs := Nat.le_of_dvd (Nat.mul_pos (by omega) (h0 p List.mem_cons_self)) (Nat.lcm_dvd (Nat.dvd_mul_right _ _) (Nat.dvd_mul_left _ _))
          refine Nat.le_trans a ?_
          rw [Nat.pow_add]
          exact Nat.mul_le_mul h (Nat.le_of_lt (hb p List.mem_cons_self))
  intro h0 hb
  have z := aux l 1 0 (by decide) h0 hb
  rw [Nat.zero_add] at z
  exact z
theorem lcmd_en (l : List Int) : lcmd (en 0 l) l.length ∣ W l.length := by
  refine fold_lcm_dvd _ 1 (Nat.one_dvd _) fun q hq => ?_
  obtain ⟨i, hi, ei⟩ := mem_en.mp hq
  have li := (List.getElem?_eq_some_iff.mp hi).1
  have e : ((l.length : Int) - q.1).natAbs = l.length - i := by omega
  rw [e]
  exact W_has _ _ (by omega) (by omega)
theorem W_small : ∀ k, k ≤ 41 → W k < 2 ^ 60 := by
  have h : ∀ k : Fin 42, W k.1 < 2 ^ 60 := by decide +kernel
  exact fun k hk => h ⟨k, by omega⟩
theorem nx_small {l : List Int} {r m : Int} (c : Cls (en 0 l) l.length r m) (h : l.length ≤ 41) : 0 ≤ r ∧ r < 2 ^ 60 := by
  refine ⟨c.lo, ?_⟩
  have a := Nat.le_of_dvd (W_pos _) (lcmd_en l)
  have b := W_small _ h
  have d := c.hi
  rw [c.mod] at d
  have e : ((2 : Int) ^ 60) = ((2 ^ 60 : Nat) : Int) := by decide
  rw [e]
  omega
end KM

namespace KR
open PySem L2
/-- a statement of the text's top -/
def topS (i : Nat) : Stmt := PySem.Challenge.pw_keeprests_k23_whole_books_and_stretches.main.body.getD i (.Pass ⟨0, 0, 0, 0⟩)
/-- a def of the text is held to its promise by whoever asks the name x -/
def Has (P : Program) (w : World) (K : PySem.W.Frag) (mg : Str → Option Value) (base : Heap) (x : Str) (k : Nat) (ps : List Str) (sp : Sp) : Prop :=
  ∃ (f : Addr) (fd : FuncData), mg x = some (.ref f) ∧ PySem.W.keepIn K (.ref f) = true ∧ Binds K fd ps [] ∧ FnOk P w K mg base CX0 k f fd ps sp
/-- a def stands where its name says -/
def Dfn (K : PySem.W.Frag) (mg : Str → Option Value) (x : Str) (st : Stmt) (ps : List Str) : Prop :=
  ∃ (f : Addr) (fd : FuncData), mg x = some (.ref f) ∧ Fun K x x st f fd ∧ Binds K fd ps []
section
variable {P : Program} {w : World} {K : PySem.W.Frag} {mg : Str → Option Value} {base : Heap}
theorem Dfn.has {x : Str} {st : Stmt} {ps : List Str} {k : Nat} {sp : Sp} (d : Dfn K mg x st ps) (h : ∀ f fd, Fun K x x st f fd → FnOk P w K mg base CX0 k f fd ps sp) : Has P w K mg base x k ps sp := by
  obtain ⟨f, fd, m, F, b⟩ := d
  exact ⟨f, fd, m, F.kp, b, h f fd F⟩
end
section
variable {X : Cx} {x : Str} {k : Nat} {ps : List Str} {sp : Sp} {e : Expr} {es : List Expr} {t : TA} {p pos : Pos}
theorem pe_has (h : Has X.prog X.w X.K X.mg X.base x k ps sp) (hr : Room k X.A) (ha : PA X (e :: es) t) (hg : Gl X x := by rfl) (hdb : (x == ("__debug__" : Str)) = false := by decide)
    (he : starEach (e :: es) X.env = (false, eval e X.env) :: starEach es X.env := by rfl) (hpl : (backTo pos (starEach es X.env)).any (·.1) = false := by rfl) : PE X (.Call (.Name x p) (e :: es) [] pos) (tCall sp [] E0 t) := by
  obtain ⟨f, fd, m, kp, b, F⟩ := h
  exact pe_call F hr hg m kp b .nil pass0 ha hdb he hpl
/-- ** of whole numbers of any size -/
def CPowW (i j : Int) : Prop := 0 ≤ j ∧ (Builtin.Int.intBits i : Int) * j ≤ 2 ^ 27
theorem op_powW : OpR X (binaryOp .Pow) (rI CPowW fun i j => .int (i ^ j.toNat)) := opI fun _ _ _ _ _ _ _ hc q => PyProof.Rows.pow_int hc.1 hc.2 q
end
end KR

namespace KR
open PySem L2
theorem pe_gi {X : Cx} {x : Str} {i : Int} {pos : Pos} (h : ∃ t, X.mg x = some (.int i t)) (hg : Gl X x := by rfl) (hd : (x == ("__debug__" : Str)) = false := by decide) : PE X (.Name x pos) (tC (.int i)) := by
  obtain ⟨t, h⟩ := h
  exact pe_glob hg h ⟨t, rfl⟩ hd
/-- what the top has written beside the defs -/
structure Txt (K : PySem.W.Frag) (mg : Str → Option Value) : Prop where
  c_MOST_ITEMS : ∃ t, mg "MOST_ITEMS" = some (.int 24 t)
  c_MOST : ∃ t, mg "MOST" = some (.int (10 ^ 30) t)
  c_MOST_VALUES : ∃ t, mg "MOST_VALUES" = some (.int 40 t)
  b_len : mg "len" = none
  b_abs : mg "abs" = none
  b_all : mg "all" = none
  b_isinstance : mg "isinstance" = none
  b_int : mg "int" = none
  b_bool : mg "bool" = none
  b_tuple : mg "tuple" = none
  b_list : mg "list" = none
  b_range : mg "range" = none
  b_enumerate : mg "enumerate" = none
  b_zip : mg "zip" = none
  b_sorted : mg "sorted" = none
  b_set : mg "set" = none
  b_max : mg "max" = none
  b_min : mg "min" = none
/-! ### heaps -/
/-- the heap without the purse -/
def off (p : Addr) (H : Hp) : Hp := fun b => if b = p then none else H b
theorem off_ne {p b : Addr} {H : Hp} (h : b ≠ p) : off p H b = H b := if_neg h
theorem off_self {p : Addr} {H : Hp} : off p H p = none := if_pos rfl
theorem off_some {p b : Addr} {H : Hp} {o : HO} (h : off p H b = some o) : b ≠ p ∧ H b = some o := by
  by_cases e : b = p
  · subst e
    rw [off_self] at h
    cases h
  · rw [off_ne e] at h
    exact ⟨e, h⟩
theorem off_sub {p : Addr} {H : Hp} : Same (off p H) H := fun _ _ h => (off_some h).2
theorem off_upd {p : Addr} {H : Hp} {o : HO} : off p (upd H p o) = off p H := by
  funext b
  by_cases e : b = p
  · rw [e, off_self, off_self]
  · rw [off_ne e, off_ne e, upd_ne e]
theorem off_upd_ne {p a : Addr} {H : Hp} {o : HO} (h : a ≠ p) : off p (upd H a o) = upd (off p H) a o := by
  funext b
  by_cases e : b = p
  · rw [e, off_self, upd_ne (Ne.symm h), off_self]
  · rw [off_ne e]
    by_cases e2 : b = a
    · rw [e2, upd_same, upd_same]
    · rw [upd_ne e2, upd_ne e2, off_ne e]
theorem Same.off {p : Addr} {H H' : Hp} (h : Same H H') : Same (KR.off p H) (KR.off p H') := fun b o e => by
  obtain ⟨n, e⟩ := off_some e
  rw [off_ne n]
  exact h b o e
theorem Same.new {H : Hp} {p : Addr} {o : HO} (h : H p = none) : Same H (upd H p o) := fun a u e => by
  rw [upd_ne (ne_of_none e h)]
  exact e
theorem Same.newT {H H' : Hp} {p : Addr} {o : HO} (s : Same H H') (h : H' p = none) : Same H (upd H' p o) := s.trans (Same.new h)
/-- an object that H does not know may change -/
theorem Same.mut {H H' : Hp} {p : Addr} {o : HO} (e : Same H H') (h : H p = none) : Same H (upd H' p o) := fun a u ha => by
  rw [upd_ne (ne_of_none ha h)]
  exact e a u ha
/-! ### data -/
abbrev Bk := KM.Bk
def IsTp (H : Hp) (v : V) (q : Int × Int) : Prop := ∃ t, v = .ref t ∧ H t = some (.tup [.int q.1, .int q.2])
abbrev Prs (H : Hp) (xs : List V) (l : Bk) : Prop := Paired (IsTp H) xs l
/-- at a a list of the ints l; of the pairs l -/
def IL (H : Hp) (a : Addr) (l : List Int) : Prop := H a = some (.lst (l.map V.int))
def BkAt (H : Hp) (a : Addr) (l : Bk) : Prop := ∃ xs, H a = some (.lst xs) ∧ Prs H xs l
theorem Prs.mono {H H' : Hp} (s : Same H H') : ∀ {xs : List V} {l : Bk}, Prs H xs l → Prs H' xs l
  | _, _, .nil => .nil
  | _, _, .cons ⟨t, e, h⟩ r => .cons ⟨t, e, s _ _ h⟩ (Prs.mono s r)
theorem Prs.get {H : Hp} : ∀ {xs : List V} {l : Bk} {i : Nat} {v : V}, Prs H xs l → xs[i]? = some v → ∃ t q, l[i]? = some q ∧ v = .ref t ∧ H t = some (.tup [.int q.1, .int q.2])
  | _, _, _, _, .nil, e => by simp at e
  | _, _, 0, _, .cons ⟨t, e1, h⟩ _, e => by
    simp at e
    subst e
    exact ⟨t, _, rfl, e1, h⟩
  | _, _, i + 1, _, .cons _ r, e => by
    obtain ⟨t, q, h1, h2, h3⟩ := Prs.get (i := i) r (by simpa using e)
    exact ⟨t, q, by simpa using h1, h2, h3⟩
theorem Prs.at {H : Hp} {xs : List V} {l : Bk} {i : Nat} (h : Prs H xs l) (hi : i < l.length) : ∃ t, xs[i]? = some (.ref t) ∧ H t = some (.tup [.int (l.getD i (0, 0)).1, .int (l.getD i (0, 0)).2]) := by
  have hl := Paired.length h
  have e : xs[i]? = some (xs[i]'(by omega)) := List.getElem?_eq_getElem (by omega)
  obtain ⟨t, q, h1, h2, h3⟩ := h.get e
  refine ⟨t, by rw [e, h2], ?_⟩
  have e2 : l.getD i (0, 0) = q := by rw [List.getD_eq_getElem?_getD, h1]; rfl
  rw [e2]
  exact h3
theorem Prs.append {H : Hp} : ∀ {xs ys : List V} {l r : Bk}, Prs H xs l → Prs H ys r → Prs H (xs ++ ys) (l ++ r)
  | _, _, _, _, .nil, s => s
  | _, _, _, _, .cons a t, s => .cons a (Prs.append t s)
theorem Prs.snoc {H : Hp} {xs : List V} {l : Bk} {v : V} {q : Int × Int} (h : Prs H xs l) (e : IsTp H v q) : Prs H (xs ++ [v]) (l ++ [q]) := h.append (.cons e .nil)
theorem BkAt.mono {H H' : Hp} {a : Addr} {l : Bk} (s : Same H H') : BkAt H a l → BkAt H' a l := fun ⟨xs, h, p⟩ => ⟨xs, s _ _ h, p.mono s⟩
theorem IL.mono {H H' : Hp} {a : Addr} {l : List Int} (s : Same H H') (h : IL H a l) : IL H' a l := s _ _ h
def natPairs (l : List (Nat × Nat)) : Bk := l.map fun q => ((q.1 : Int), (q.2 : Int))
/-- the least pair of a list, or None -/
def CV (H : Hp) (v : V) : List (Nat × Nat) → Prop
  | [] => v = .non
  | q :: _ => ∃ t, v = .ref t ∧ H t = some (.tup [.int (q.1 : Nat), .int (q.2 : Nat)])
theorem CV.mono {H H' : Hp} {v : V} (s : Same H H') : ∀ {l : List (Nat × Nat)}, CV H v l → CV H' v l
  | [], h => h
  | _ :: _, ⟨t, e, h⟩ => ⟨t, e, s _ _ h⟩
/-- a book as the package takes it -/
structure BookOk (l : Bk) : Prop where
  len : l.length ≤ 24
  bnd : ∀ q ∈ l, -(10 ^ 30) ≤ q.1 ∧ q.1 ≤ 10 ^ 30 ∧ -(10 ^ 30) ≤ q.2 ∧ q.2 ≤ 10 ^ 30
  asc : l.Pairwise fun x y => x.1 < y.1
/-- where a class is asked -/
structure PlaceOk (l : Bk) (x : Int) : Prop where
  len : l.length ≤ 44
  ne : ∀ q ∈ l, x ≠ q.1
  sz : ∀ q ∈ l, (x - q.1).natAbs < 2 ^ 110
/-- the purse: three ints, the last one at most n -/
def PurseAt (H : Hp) (p : Addr) (n : Nat) : Prop := ∃ a b c : Int, H p = some (.lst [.int a, .int b, .int c]) ∧ 0 ≤ a ∧ 0 ≤ b ∧ b < 2 ^ 160 ∧ 0 ≤ c ∧ c ≤ n
theorem PurseAt.more {H : Hp} {p : Addr} {n m : Nat} (h : PurseAt H p n) (hn : n ≤ m) : PurseAt H p m := by
  obtain ⟨a, b, c, h1, h2, h3, h4, h5, h6⟩ := h
  exact ⟨a, b, c, h1, h2, h3, h4, h5, by omega⟩
theorem PurseAt.mono {H H' : Hp} {p : Addr} {n : Nat} (s : Same H H') (h : PurseAt H p n) : PurseAt H' p n := by
  obtain ⟨a, b, c, h1, h2⟩ := h
  exact ⟨a, b, c, s _ _ h1, h2⟩
/-- a row's integers, from where it is counted, how far its places go -/
structure Rw where
  own : List Int
  sh : Int
  far : Int
def RowAt (H : Hp) (a : Addr) (R : Rw) : Prop := ∃ b, H a = some (.lst [.ref b, .int R.sh, .int R.far]) ∧ H b = some (.lst (R.own.map V.int))
theorem RowAt.mono {H H' : Hp} {a : Addr} {R : Rw} (s : Same H H') (h : RowAt H a R) : RowAt H' a R := by
  obtain ⟨b, h1, h2⟩ := h
  exact ⟨b, s _ _ h1, s _ _ h2⟩
/-- the sizes of a row that hold of each -/
structure RwSz (R : Rw) : Prop where
  len : R.own.length ≤ 9
  own : ∀ v ∈ R.own, v.natAbs < 2 ^ 100
  sh : -4 ≤ R.sh ∧ R.sh ≤ 4
  far : 12 ≤ R.far ∧ R.far ≤ 10 ^ 29
/-- by its style: its greatest integer but the first one, how far, the most further integers -/
def styles : List (Int × Int × Nat) := [(9, 10 ^ 29, 1), (10 ^ 14, 10 ^ 14, 1), (10 ^ 6, 10 ^ 9, 2), (10 ^ 6, 10 ^ 6, 3), (10 ^ 3, 10 ^ 3, 5), (99, 12, 8)]
structure RwOk (R : Rw) : Prop extends RwSz R where
  by_ : ∃ top deg, (top, R.far, deg) ∈ styles ∧ 1 ≤ R.own.length ∧ R.own.length ≤ deg + 1 ∧ (0 ≤ R.own.getD 0 0 ∧ R.own.getD 0 0 < 10 ^ 28) ∧ ∀ k, 1 ≤ k → k < R.own.length → -top ≤ R.own.getD k 0 ∧ R.own.getD k 0 ≤ top
/-! ### the promises -/
def spIsInt : Sp := fun vs H Q _ => ∃ i, vs = [.int i] ∧ Q (.bl true) H
def spTold : Sp := fun vs H Q _ => ∃ i : Int, vs = [.int i] ∧ -(10 ^ 30) ≤ i ∧ i ≤ 10 ^ 30 ∧ Q (.bl true) H
def spItem : Sp := fun vs H Q _ => ∃ (t : Addr) (a b : Int), vs = [.ref t] ∧ H t = some (.tup [.int a, .int b]) ∧ (-(10 ^ 30) ≤ a ∧ a ≤ 10 ^ 30 ∧ -(10 ^ 30) ≤ b ∧ b ≤ 10 ^ 30) ∧ Q (.bl true) H
def spIsBook : Sp := fun vs H Q _ => ∃ (a : Addr) (l : Bk), vs = [.ref a] ∧ BkAt H a l ∧ BookOk l ∧ ∀ H', Same H H' → Q (.bl true) H'
def spNeedBook : Sp := fun vs H Q _ => ∃ (a : Addr) (l : Bk), vs = [.ref a] ∧ BkAt H a l ∧ BookOk l ∧ ∀ H', Same H H' → Q .non H'
def spGcd : Sp := fun vs H Q _ => ∃ a b : Nat, vs = [.int a, .int b] ∧ Q (.int (Nat.gcd a b : Nat)) H
def spLcm : Sp := fun vs H Q _ => ∃ (a : Addr) (k : Nat), vs = [.ref a] ∧ k ≤ 40 ∧ H a = some (.lst (rgV 1 (k + 1))) ∧ Q (.int (KM.W k : Nat)) H
def spDivides : Sp := fun vs H Q _ => ∃ n o : Int, vs = [.int n, .int o] ∧ Q (.bl (decide (n ∣ o))) H
def spDoFit : Sp := fun vs H Q _ => ∃ (t1 t2 : Addr) (x y : Int × Int), vs = [.ref t1, .ref t2] ∧ H t1 = some (.tup [.int x.1, .int x.2]) ∧ H t2 = some (.tup [.int y.1, .int y.2]) ∧ Q (.bl (KM.fitb x y)) H
def spConfs : Sp := fun vs H Q _ => ∃ (a : Addr) (l : Bk), vs = [.ref a] ∧ BkAt H a l ∧ l.length ≤ 100 ∧ ∀ H' p, Same H H' → BkAt H' p (natPairs (KM.conf l)) → Q (.ref p) H'
def spConfIn : Sp := fun vs H Q _ => ∃ (a : Addr) (l : Bk), vs = [.ref a] ∧ BkAt H a l ∧ l.length ≤ 100 ∧ ∀ H' v, Same H H' → CV H' v (KM.conf l) → Q v H'
def spNeedFit : Sp := fun vs H Q _ => ∃ (a : Addr) (l : Bk), vs = [.ref a] ∧ BkAt H a l ∧ l.length ≤ 100 ∧ KM.Fit l ∧ ∀ H', Same H H' → Q .non H'
def spNeedPoss : Sp := fun vs H Q _ => ∃ (a : Addr) (l : Bk), vs = [.ref a] ∧ BkAt H a l ∧ BookOk l ∧ KM.Fit l ∧ ∀ H', Same H H' → Q .non H'
def spConfOf : Sp := fun vs H Q _ => ∃ (a : Addr) (l : Bk), vs = [.ref a] ∧ BkAt H a l ∧ BookOk l ∧ ∀ H' v, Same H H' → CV H' v (KM.conf l) → Q v H'
def spAllConf : Sp := fun vs H Q _ => ∃ (a : Addr) (l : Bk), vs = [.ref a] ∧ BkAt H a l ∧ BookOk l ∧ ∀ H' p, Same H H' → BkAt H' p (natPairs (KM.conf l)) → Q (.ref p) H'
def spInv : Sp := fun vs H Q _ => ∃ n m : Int, vs = [.int n, .int m] ∧ 0 < m ∧ m < 2 ^ 5000 ∧ 0 ≤ n ∧ Int.gcd n m = 1 ∧ ∀ H' x, Same H H' → KM.Inver n m x → Q (.int x) H'
def spMet : Sp := fun vs H Q _ => ∃ (t1 t2 : Addr) (r1 r2 : Int) (m1 m2 : Nat), vs = [.ref t1, .ref t2] ∧ H t1 = some (.tup [.int r1, .int m1]) ∧ H t2 = some (.tup [.int r2, .int m2]) ∧ 0 < m1 ∧ 0 < m2 ∧ m1 < 2 ^ 5000 ∧ m2 < 2 ^ 200 ∧ 0 ≤ r1 ∧ r1 < m1 ∧ 0 ≤ r2 ∧ r2 < m2 ∧
  ∀ H' p inv, Same H H' → KM.Inver ((m1 / Nat.gcd m1 m2 : Nat) : Int) ((m2 / Nat.gcd m1 m2 : Nat) : Int) inv →
    H' p = some (.tup [.int (r1 + m1 * ((r2 - r1) / (Nat.gcd m1 m2 : Int) * inv % ((m2 / Nat.gcd m1 m2 : Nat) : Int))), .int (m1 * ((m2 / Nat.gcd m1 m2 : Nat) : Int))]) → Q (.ref p) H'
def spClsBy : Sp := fun vs H Q _ => ∃ (a : Addr) (l : Bk) (x : Int), vs = [.ref a, .int x] ∧ BkAt H a l ∧ KM.Fit l ∧ PlaceOk l x ∧ ∀ H' t r m, Same H H' → H' t = some (.tup [.int r, .int m]) → KM.Cls l x r m → Q (.ref t) H'
def spClsAt : Sp := fun vs H Q _ => ∃ (a : Addr) (l : Bk) (x : Int), vs = [.ref a, .int x] ∧ BkAt H a l ∧ BookOk l ∧ KM.Fit l ∧ PlaceOk l x ∧ ∀ H' t r m, Same H H' → H' t = some (.tup [.int r, .int m]) → KM.Cls l x r m → Q (.ref t) H'
def spFirst : Sp := fun vs H Q _ => ∃ (t : Addr) (r m : Int), vs = [.ref t, .int 0] ∧ H t = some (.tup [.int r, .int m]) ∧ 0 ≤ r ∧ r < m ∧ Q (.int r) H
def spNextVal : Sp := fun vs H Q _ => ∃ (a : Addr) (l : Bk) (x : Int), vs = [.ref a, .int x, .int 0] ∧ BkAt H a l ∧ BookOk l ∧ KM.Fit l ∧ PlaceOk l x ∧ ∀ H' r m, Same H H' → KM.Cls l x r m → Q (.int r) H'
def spIsStretch : Sp := fun vs H Q _ => ∃ (a : Addr) (l : List Int) (most : Int), vs = [.ref a, .int most] ∧ IL H a l ∧ 1 ≤ l.length ∧ (l.length : Int) ≤ most ∧ most ≤ 1000 ∧ ∀ H', Same H H' → Q (.bl true) H'
def spNeedStretch : Sp := fun vs H Q _ => ∃ (a : Addr) (l : List Int) (most : Int), vs = [.ref a, .int most] ∧ IL H a l ∧ 1 ≤ l.length ∧ (l.length : Int) ≤ most ∧ most ≤ 1000 ∧ ∀ H', Same H H' → Q .non H'
def spItems : Sp := fun vs H Q _ => ∃ (a : Addr) (l : List Int), vs = [.ref a] ∧ IL H a l ∧ l.length ≤ 100 ∧ ∀ H' p, Same H H' → BkAt H' p (KM.en 0 l) → Q (.ref p) H'
/-- what an Unfit bears -/
def Unf (H : Hp) (d : Addr) (q : Nat × Nat) : Prop := H d = some (.xd [("second", .int (q.2 : Nat)), ("first", .int (q.1 : Nat))])
def spNeedRight (C : Addr) : Sp := fun vs H Q E => ∃ (a : Addr) (l : List Int), vs = [.ref a] ∧ IL H a l ∧ l.length ≤ 100 ∧ (KM.conf (KM.en 0 l) = [] → ∀ H', Same H H' → Q .non H') ∧
  ∀ q r, KM.conf (KM.en 0 l) = q :: r → ∀ H' d, Same H H' → Unf H' d q → E (.ref C) (some d) H'
def spDiffs : Sp := fun vs H Q _ => ∃ (a : Addr) (l : List Int), vs = [.ref a] ∧ IL H a l ∧ 1 ≤ l.length ∧ l.length ≤ 40 ∧ ∀ H' p, Same H H' → IL H' p (KM.diffs l) → Q (.ref p) H'
def spSC : Sp := fun vs H Q _ => ∃ (a : Addr) (l : List Int), vs = [.ref a] ∧ IL H a l ∧ 1 ≤ l.length ∧ l.length ≤ 40 ∧ ∀ H' v, Same H H' → ((v = .non ∧ KM.allW l) ∨ (∃ k : Nat, v = .int k ∧ ¬ KM.allW l)) → Q v H'
def spNextCls (C : Addr) : Sp := fun vs H Q E => ∃ (a : Addr) (l : List Int), vs = [.ref a] ∧ IL H a l ∧ 1 ≤ l.length ∧ l.length ≤ 40 ∧ (KM.Fit (KM.en 0 l) → ∀ H' t r m, Same H H' → H' t = some (.tup [.int r, .int m]) → KM.Cls (KM.en 0 l) l.length r m → Q (.ref t) H') ∧
  ∀ q r, KM.conf (KM.en 0 l) = q :: r → ∀ H' d, Same H H' → Unf H' d q → E (.ref C) (some d) H'
def spClsAhead : Sp := fun vs H Q _ => ∃ (a : Addr) (l : List Int), vs = [.ref a] ∧ IL H a l ∧ 1 ≤ l.length ∧ l.length ≤ 40 ∧ KM.Fit (KM.en 0 l) ∧ ∀ H' t r m, Same H H' → H' t = some (.tup [.int r, .int m]) → KM.Cls (KM.en 0 l) (-1) r m → Q (.ref t) H'
def spLonger : Sp := fun vs H Q _ => ∃ (a : Addr) (l : List Int) (n : Nat), vs = [.ref a, .int n] ∧ IL H a l ∧ 1 ≤ l.length ∧ l.length + n ≤ 40 ∧ KM.Fit (KM.en 0 l) ∧ ∀ H' p, Same H H' → IL H' p (KM.ext l n) → KM.Fit (KM.en 0 (KM.ext l n)) → Q (.ref p) H'
def spBookOf : Sp := fun vs H Q _ => ∃ (a : Addr) (l : List Int) (s : Int), vs = [.int s, .ref a] ∧ IL H a l ∧ 1 ≤ l.length ∧ l.length ≤ 24 ∧ ∀ H' p, Same H H' → H p = none → BkAt H' p (KM.en s l) → Q (.ref p) H'
/-! #### the law's helpers -/
def spPurse (K : PySem.W.Frag) : Sp := fun vs H Q _ => ∃ (a : Addr) (ns : List Int) (k : Nat), vs = [.ref a, .int k] ∧ SqL K H a (ns.map V.int) ∧ k ≤ 2 ∧ ∀ H' p, Same H H' → H p = none → PurseAt H' p 0 → Q (.ref p) H'
def spToss : Sp := fun vs H Q _ => ∃ (p : Addr) (n : Nat) (many : Int), vs = [.ref p, .int many] ∧ PurseAt H p n ∧ n ≤ 2 ^ 40 ∧ 1 ≤ many ∧ many < 2 ^ 200 ∧ ∀ H' r, off p H' = off p H → PurseAt H' p (n + 1) → 0 ≤ r → r < many → Q (.int r) H'
def spLawGcd : Sp := spGcd
def spLawLcm : Sp := fun vs H Q _ => ∃ (a : Addr) (m n : Nat), vs = [.ref a] ∧ H a = some (.lst [.int m, .int n]) ∧ 0 < m ∧ 0 < n ∧ m < 2 ^ 200 ∧ n < 2 ^ 200 ∧ Q (.int (Nat.lcm m n : Nat)) H
/-- with a purse at p: behind it the rest of the heap has grown, c tosses were made at most -/
def Grown (p : Addr) (n c : Nat) (H H' : Hp) : Prop := Same (off p H) (off p H') ∧ PurseAt H' p (n + c)
def spRow : Sp := fun vs H Q _ => ∃ (p : Addr) (n : Nat), vs = [.ref p] ∧ PurseAt H p n ∧ n ≤ 2 ^ 30 ∧ ∀ H' a R, Grown p n 20 H H' → RowAt (off p H') a R → RwOk R → Q (.ref a) H'
def spAt : Sp := fun vs H Q _ => ∃ (a : Addr) (R : Rw) (x : Int), vs = [.ref a, .int x] ∧ RowAt H a R ∧ RwSz R ∧ x.natAbs < 2 ^ 120 ∧ ∀ H', Same H H' → Q (.int (KM.row R.own R.sh x)) H'
def spSpots : Sp := fun vs H Q _ => ∃ (p a : Addr) (n : Nat) (R : Rw) (most : Nat), vs = [.ref p, .ref a, .int most] ∧ PurseAt H p n ∧ n ≤ 2 ^ 30 ∧ RowAt (off p H) a R ∧ RwSz R ∧ most ≤ 24 ∧
  ∀ H' q ss, Grown p n 80 H H' → IL (off p H') q ss → ss.Pairwise (· < ·) → (∀ s ∈ ss, -(10 ^ 29) ≤ s ∧ s ≤ 10 ^ 29) → ss.length ≤ most → Q (.ref q) H'
/-- the same places, each value as it was or bent within the limits -/
structure Bent (l l' : Bk) : Prop where
  len : l'.length = l.length
  pl : ∀ i, i < l.length → (l'.getD i (0, 0)).1 = (l.getD i (0, 0)).1
  val : ∀ i, i < l.length → (l'.getD i (0, 0)).2 = (l.getD i (0, 0)).2 ∨ (-(10 ^ 30) ≤ (l'.getD i (0, 0)).2 ∧ (l'.getD i (0, 0)).2 ≤ 10 ^ 30)
def spBent : Sp := fun vs H Q _ => ∃ (p a : Addr) (n : Nat) (l : Bk), vs = [.ref p, .ref a] ∧ PurseAt H p n ∧ n ≤ 2 ^ 30 ∧ BkAt (off p H) a l ∧ l.length ≤ 100 ∧
  ∀ H' q l', Grown p n 20 H H' → BkAt (off p H') q l' → Bent l l' → Q (.ref q) H'
def spNew : Sp := fun vs H Q _ => ∃ (p b a : Addr) (n : Nat) (l : Bk) (R : Rw), vs = [.ref p, .ref b, .ref a, .int 4] ∧ PurseAt H p n ∧ n ≤ 2 ^ 30 ∧ BkAt (off p H) b l ∧ l.length ≤ 100 ∧ (∀ q ∈ l, -(10 ^ 30) ≤ q.1 ∧ q.1 ≤ 10 ^ 30) ∧ RowAt (off p H) a R ∧ RwSz R ∧
  ∀ H' q ss, Grown p n 80 H H' → IL (off p H') q ss → (∀ s ∈ ss, (∀ z ∈ l, s ≠ z.1) ∧ -(10 ^ 31) ≤ s ∧ s ≤ 10 ^ 31) → ss.length ≤ 10 → Q (.ref q) H'
def spRefused : Sp := fun vs H Q _ => ∃ (a : Addr) (l : List Int), vs = [.ref a] ∧ IL H a l ∧ 1 ≤ l.length ∧ l.length ≤ 40 ∧ ∀ H' v, Same H H' → CV H' v (KM.conf (KM.en 0 l)) → Q v H'
def spRight : Sp := fun vs H Q _ => ∃ (p a : Addr) (n : Nat) (l : List Int), vs = [.ref p, .ref a] ∧ PurseAt H p n ∧ n ≤ 2 ^ 30 ∧ IL (off p H) a l ∧ 1 ≤ l.length ∧ l.length ≤ 24 ∧ (∀ v ∈ l, -(10 ^ 30) ≤ v ∧ v ≤ 10 ^ 30) ∧ ∀ H', Grown p n 20 H H' → Q (.bl true) H'
def spSums : Sp := fun vs H Q _ => ∃ (p a b s : Addr) (n : Nat) (R R' : Rw) (ss : List Int), vs = [.ref p, .ref a, .ref b, .ref s] ∧ PurseAt H p n ∧ n ≤ 2 ^ 20 ∧ RowAt (off p H) a R ∧ RwSz R ∧ RowAt (off p H) b R' ∧ RwSz R' ∧ IL (off p H) s ss ∧
  ss.Pairwise (· < ·) ∧ (∀ x ∈ ss, -(10 ^ 29) ≤ x ∧ x ≤ 10 ^ 29) ∧ ss.length ≤ 24 ∧ ∀ H', Grown p n 200 H H' → Q (.bl true) H'
def spLaw (K : PySem.W.Frag) : Sp := fun vs H Q _ => ∃ (a : Addr) (ns : List Int), vs = [.ref a] ∧ SqL K H a (ns.map V.int) ∧ ns.length ≤ 63 ∧ ∀ H', Q (.bl true) H'
end KR

namespace KR
open PySem L2
section
variable {K : PySem.W.Frag} {σ : L2.St} {H : Hp} {Q : VK} {QB : Bool → Hp → Prop} {QA : List V → Hp → Prop} {D : Ends} {ta tb te tc : TE} {tt uu : TT} {ts us : TS} {g : TG} {gs : TGs} {al : TA} {r r' : R2} {v x y : V} {i j : Int} {n m l : Nat} {sp : Sp} {E : XK} {dvs : List V} {wi : TI}
theorem r_var : tVar n σ H Q = ∃ v, σ[n]? = some (some v) ∧ Q v H := rfl
theorem r_c : tC v σ H Q = Q v H := rfl
theorem r_op : tOp r ta tb σ H Q = ta σ H fun x H1 => tb σ H1 fun y H2 => r x y H2 Q := rfl
theorem r_un {u : V → Hp → VK → Prop} : tUn u ta σ H Q = ta σ H fun x H1 => u x H1 Q := rfl
theorem r_rI {C : Int → Int → Prop} {f : Int → Int → V} : rI C f (.int i) (.int j) H Q ↔ C i j ∧ Q (f i j) H :=
  ⟨fun ⟨_, _, e1, e2, c, q⟩ => by cases e1; cases e2; exact ⟨c, q⟩, fun ⟨c, q⟩ => ⟨_, _, rfl, rfl, c, q⟩⟩
theorem r_rI0 {f : Int → Int → V} : rI0 f (.int i) (.int j) H Q ↔ Q (f i j) H :=
  ⟨fun ⟨_, _, e1, e2, q⟩ => by cases e1; cases e2; exact q, fun q => ⟨_, _, rfl, rfl, q⟩⟩
theorem r_rU {f : Int → V} : rU f (.int i) H Q ↔ Q (f i) H := ⟨fun ⟨_, e1, q⟩ => by cases e1; exact q, fun q => ⟨_, rfl, q⟩⟩
theorem r_eq : rEq (.int i) (.int j) H Q ↔ Q (.bl (decide (i = j))) H := by
  have e : decide (V.int i = V.int j) = decide (i = j) := by by_cases h : i = j <;> simp [h]
  unfold rEq
  rw [e]
  exact ⟨fun h => h.2, fun h => ⟨rfl, h⟩⟩
theorem r_ne : rNe (.int i) (.int j) H Q ↔ Q (.bl (!decide (i = j))) H := by
  have e : decide (V.int i = V.int j) = decide (i = j) := by by_cases h : i = j <;> simp [h]
  unfold rNe
  rw [e]
  exact ⟨fun h => h.2, fun h => ⟨rfl, h⟩⟩
theorem r_neB {a b : Bool} : rNe (.bl a) (.bl b) H Q ↔ Q (.bl (!decide (a = b))) H := by
  have e : decide (V.bl a = V.bl b) = decide (a = b) := by by_cases h : a = b <;> simp [h]
  unfold rNe
  rw [e]
  exact ⟨fun h => h.2, fun h => ⟨rfl, h⟩⟩
theorem r_test : tTest te σ H QB = te σ H fun x H' => ∃ k, x = .bl k ∧ QB k H' := rfl
theorem r_tB : tB te σ H QB = te σ H fun x H' => ∃ k, x = .bl k ∧ QB k H' := rfl
theorem r_isbl {b : Bool} {P : Bool → Prop} : (∃ k, V.bl b = V.bl k ∧ P k) ↔ P b := ⟨fun ⟨_, e, h⟩ => by cases e; exact h, fun h => ⟨_, rfl, h⟩⟩
theorem r_some {o : V} {P : V → Prop} : (∃ v, some (some o) = some (some v) ∧ P v) ↔ P o := ⟨fun ⟨_, e, h⟩ => by cases e; exact h, fun h => ⟨_, rfl, h⟩⟩
theorem r_chain : tChain r r' ta tb tc σ H Q = ta σ H fun x H1 => tb σ H1 fun y H2 => r x y H2 fun z H3 => ∃ k, z = .bl k ∧ (if k = true then tc σ H3 fun w' H4 => r' y w' H4 Q else Q (.bl false) H3) := rfl
theorem r_and : tAnd tt uu σ H QB = tt σ H fun c H1 => if c = true then uu σ H1 QB else QB false H1 := rfl
theorem r_or : tOr tt uu σ H QB = tt σ H fun c H1 => if c = true then QB true H1 else uu σ H1 QB := rfl
theorem r_not : tNot tt σ H QB = tt σ H fun c H1 => QB (!c) H1 := rfl
theorem r_andV : tAndV ta tb σ H Q = ta σ H fun x H1 => ∃ c, x = .bl c ∧ if c = true then tb σ H1 Q else Q (.bl false) H1 := rfl
theorem r_orV : tOrV ta tb σ H Q = ta σ H fun x H1 => ∃ c, x = .bl c ∧ if c = true then Q (.bl true) H1 else tb σ H1 Q := rfl
theorem r_notV : tNotV ta σ H Q = ta σ H fun x H1 => ∃ c, x = .bl c ∧ Q (.bl (!c)) H1 := rfl
theorem r_if : tIf tt ta tb σ H Q = tt σ H fun c H1 => if c = true then ta σ H1 Q else tb σ H1 Q := rfl
theorem r_nil : tNil σ H QA = QA [] H := rfl
theorem r_cons : tCons ta al σ H QA = ta σ H fun x H1 => al σ H1 fun xs H2 => QA (x :: xs) H2 := rfl
theorem r_tup : tTup al σ H Q = al σ H fun xs H1 => xs.length ≤ sizeLine ∧ ∀ p, H1 p = none → Q (.ref p) (upd H1 p (.tup xs)) := rfl
theorem r_lst : tLst al σ H Q = al σ H fun xs H1 => xs.length ≤ sizeLine ∧ ∀ p, H1 p = none → Q (.ref p) (upd H1 p (.lst xs)) := rfl
theorem r_call : tCall sp dvs E al σ H Q = al σ H fun vs H1 => sp (vs ++ dvs) H1 Q E := rfl
theorem r_callB {u : List V → Hp → VK → Prop} : tCB u al σ H Q = al σ H fun vs H1 => u vs H1 Q := rfl
theorem r_bm {T : String} {u : V → List V → Hp → VK → Prop} : tBM K T u te al σ H Q = te σ H fun x H1 => tyV K T x H1 ∧ al σ H1 fun xs H2 => u x xs H2 Q := rfl
theorem r_sl {u : V → Option Int → Option Int → Hp → VK → Prop} {tl th : TO} : tSl u te tl th σ H Q = te σ H fun x H1 => tl σ H1 fun l H2 => th σ H2 fun h H3 => u x l h H3 Q := rfl
theorem r_noPart {QO : Option Int → Hp → Prop} : tNoPart σ H QO = QO none H := rfl
theorem r_part {QO : Option Int → Hp → Prop} : tPart te σ H QO = te σ H fun x H1 => ∃ i, x = .int i ∧ QO (some i) H1 := rfl
theorem r_isint {P : Int → Prop} : (∃ k, V.int i = V.int k ∧ P k) ↔ P i := ⟨fun ⟨_, e, h⟩ => by cases e; exact h, fun h => ⟨_, rfl, h⟩⟩
theorem r_isref {a : Addr} {P : Addr → Prop} : (∃ k, V.ref a = V.ref k ∧ P k) ↔ P a := ⟨fun ⟨_, e, h⟩ => by cases e; exact h, fun h => ⟨_, rfl, h⟩⟩
theorem r_yes : tYes σ H QB = QB true H := rfl
-- statements
theorem r_seq : tSeq ts us D σ H = ts { D with nx := us D } σ H := rfl
theorem r_next : tNext D σ H = D.nx σ H := rfl
theorem r_asg : tAsg te g D σ H = te σ H fun x H1 => g x σ H1 D.nx := rfl
theorem r_par : tPar n m al D σ H = al σ H fun vs H1 => ∃ v w, vs = [v, w] ∧ D.nx ((σ.set n (some v)).set m (some w)) H1 := rfl
theorem r_two {P : V → V → Prop} : (∃ v w, [x, y] = [v, w] ∧ P v w) ↔ P x y := ⟨fun ⟨_, _, e, h⟩ => by cases e; exact h, fun h => ⟨_, _, rfl, h⟩⟩
theorem r_par3 : tPar3 n m l al D σ H = al σ H fun vs H1 => ∃ u v w, vs = [u, v, w] ∧ D.nx (((σ.set n (some u)).set m (some v)).set l (some w)) H1 := rfl
theorem r_three {z : V} {P : V → V → V → Prop} : (∃ u v w, [x, y, z] = [u, v, w] ∧ P u v w) ↔ P x y z := ⟨fun ⟨_, _, _, e, h⟩ => by cases e; exact h, fun h => ⟨_, _, _, rfl, h⟩⟩
theorem r_ret : tRet te D σ H = te σ H D.rt := rfl
theorem r_retN : tRetN D σ H = D.rt .non H := rfl
theorem r_ifS : tIfS tt ts us D σ H = tt σ H fun b H1 => if b = true then ts D σ H1 else us D σ H1 := rfl
theorem r_drop : tDrop te D σ H = te σ H fun _ H1 => D.nx σ H1 := rfl
theorem r_never : tNever D σ H = False := rfl
-- targets
theorem r_gName {QS : L2.St → Hp → Prop} : gName n v σ H QS = QS (σ.set n (some v)) H := rfl
theorem r_gNil {QS : L2.St → Hp → Prop} : gNil [] σ H QS ↔ QS σ H := ⟨fun h => h.2, fun h => ⟨rfl, h⟩⟩
theorem r_gCons {QS : L2.St → Hp → Prop} {vs : List V} : gCons g gs (v :: vs) σ H QS ↔ g v σ H fun σ' H' => gs vs σ' H' QS :=
  ⟨fun ⟨_, _, e, h⟩ => by cases e; exact h, fun h => ⟨_, _, rfl, h⟩⟩
theorem r_gSub {QS : L2.St → Hp → Prop} {s : TSet} : gSub ta tb s v σ H QS = ta σ H fun o H1 => tb σ H1 fun i H2 => s o i v H2 fun H3 => QS σ H3 := rfl
/-- a tuple unpacked -/
theorem gtup {QS : L2.St → Hp → Prop} {t : Addr} {xs : List V} (h : H t = some (.tup xs)) (q : gs xs σ H QS) (e : xs.length = n := by rfl) : gTup K n gs (.ref t) σ H QS := ⟨t, xs, rfl, SqT.of h, e, q⟩
theorem ixT {t : Addr} {xs : List V} (h : H t = some (.tup xs)) (e : atI xs i = some v) (q : Q v H) : rIxT K (.ref t) (.int i) H Q := ⟨_, _, _, _, rfl, rfl, SqT.of h, e, q⟩
theorem ixL {t : Addr} {xs : List V} (h : H t = some (.lst xs)) (e : atI xs i = some v) (q : Q v H) : rIxL K (.ref t) (.int i) H Q := ⟨_, _, _, _, rfl, rfl, SqL.of h, e, q⟩
theorem ixS {t : Addr} {xs : List V} (h : SqL K H t xs) (e : atI xs i = some v) (q : Q v H) : rIxL K (.ref t) (.int i) H Q := ⟨_, _, _, _, rfl, rfl, h, e, q⟩
/-- a list's own method -/
theorem ty_lst {a : Addr} {xs : List V} (h : H a = some (.lst xs)) : tyV K "list" (.ref a) H := .inl ⟨rfl, _, SqL.of h⟩
-- loops
def ForW (J : It) (g : TG) (tb : TS) (D : Ends) (σ : L2.St) (H : Hp) : Prop := ∃ W : Nat → Nat → L2.St → Hp → Prop, (∃ m, W 0 m σ H) ∧ ∀ i m σ H, W i m σ H →
      (J.stop i H ∧ D.nx σ H) ∨ (J.go i H ∧ ∃ N : L2.St → Hp → Prop, (∀ σ' H', N σ' H' → ∃ m', m' < m ∧ W (i + 1) m' σ' H') ∧ ∀ x H', J.yld i H x H' → g x σ H' fun σ2 H2 => tb { D with nx := N, ct := N, bk := D.nx } σ2 H2)
theorem r_for : tFor wi g ts D σ H = wi σ H fun J H1 => ForW J g ts D σ H1 := rfl
theorem forW {J : It} {n : Nat} {G : Hp → Prop} {Y : Nat → Hp → V → Hp → Prop} (w : Walk J n G Y) (Pv : Nat → L2.St → Hp → Prop) (h0 : Pv 0 σ H) (hG : ∀ i σ H, i ≤ n → Pv i σ H → G H)
    (hs : ∀ i x σ H H', i < n → Pv i σ H → Y i H x H' → g x σ H' fun σ2 H2 => ts { D with nx := Pv (i + 1), ct := Pv (i + 1), bk := D.nx } σ2 H2) (hd : ∀ σ H, Pv n σ H → D.nx σ H) : ForW J g ts D σ H := for_it w Pv h0 hG hs hd
def LcW (J : It) (g : TG) (tt : TT) (te : TE) (vs : List Nat) (σ : L2.St) (H1 : Hp) (D : Addr) (Qd : Hp → Prop) : Prop := ∃ W : Nat → Nat → Hp → Prop, (∃ m, W 0 m (upd H1 D (.lst []))) ∧ ∀ i m H, W i m H →
      (J.stop i H ∧ Qd H) ∨ (J.go i H ∧ ∃ Nx : Hp → Prop, (∀ H', Nx H' → ∃ m', m' < m ∧ W (i + 1) m' H') ∧ ∀ x H', J.yld i H x H' → g x (wipe σ vs) H' fun σ2 H2 => wipe σ2 vs = wipe σ vs ∧ tt σ2 H2 fun b H3 =>
        if b = true then te σ2 H3 fun y H4 => ∃ acc, H4 D = some (.lst acc) ∧ acc.length < sizeLine ∧ Nx (upd H4 D (.lst (acc ++ [y]))) else Nx H3)
theorem r_lc {vs : List Nat} : tLc wi g tt te vs σ H Q = wi σ H fun J H1 => ∀ D, H1 D = none → LcW J g tt te vs σ H1 D fun H => Q (.ref D) H := rfl
theorem lcW {J : It} {n : Nat} {G : Hp → Prop} {Y : Nat → Hp → V → Hp → Prop} (w : Walk J n G Y) {vs : List Nat} {Dd : Addr} {Qd : Hp → Prop} (Pv : Nat → Hp → Prop) (h0 : Pv 0 (upd H Dd (.lst []))) (hG : ∀ i H, i ≤ n → Pv i H → G H)
    (hs : ∀ i x H H', i < n → Pv i H → Y i H x H' → g x (wipe σ vs) H' fun σ2 H2 => wipe σ2 vs = wipe σ vs ∧ tt σ2 H2 fun b H3 =>
      if b = true then te σ2 H3 fun y H4 => ∃ acc, H4 Dd = some (.lst acc) ∧ acc.length < sizeLine ∧ Pv (i + 1) (upd H4 Dd (.lst (acc ++ [y]))) else Pv (i + 1) H3) (hd : ∀ H, Pv n H → Qd H) : LcW J g tt te vs σ H Dd Qd := lc_it w Pv h0 hG hs hd
/-- behind an item of a comprehension: the new list at Dd grows by it -/
def LcEnd (H : Hp) (Dd : Addr) (A : Nat → Hp → List V → Prop) (i : Nat) : VK := fun y H4 => ∃ acc, H4 Dd = some (.lst acc) ∧ acc.length < sizeLine ∧ Same H (upd H4 Dd (.lst (acc ++ [y]))) ∧ ∃ acc', upd H4 Dd (.lst (acc ++ [y])) Dd = some (.lst acc') ∧ acc'.length = i + 1 ∧ A (i + 1) (upd H4 Dd (.lst (acc ++ [y]))) acc'
theorem lcEnd {H1 H4 : Hp} {Dd : Addr} {A : Nat → Hp → List V → Prop} {k : Nat} {acc : List V} (s : Same H H1) (hacc : H1 Dd = some (.lst acc)) (hl : acc.length = k) (hk : k < 100000) (hD : H Dd = none) (s4 : Same H1 H4) (a : A (k + 1) (upd H4 Dd (.lst (acc ++ [y]))) (acc ++ [y])) : LcEnd H Dd A k y H4 :=
  ⟨acc, s4 _ _ hacc, Nat.lt_of_lt_of_le (Nat.lt_of_le_of_lt (Nat.le_of_eq hl) hk) (by decide), Same.mut (s.trans s4) hD, acc ++ [y], upd_same, by rw [List.length_append, hl]; rfl, a⟩
/-- a comprehension without a test over what stands still: the heap grows, the items are told by A -/
theorem lcMap {J : It} {n : Nat} {G : Hp → Prop} {Y : Nat → Hp → V → Hp → Prop} (w : Walk J n G Y) {vs : List Nat} {Dd : Addr} {Qd : Hp → Prop} (A : Nat → Hp → List V → Prop) (hD : H Dd = none) (h0 : ∀ H', A 0 H' []) (hG : ∀ H', Same H H' → G H')
    (hs : ∀ i x H1 H' acc, i < n → Same H H1 → H1 Dd = some (.lst acc) → acc.length = i → A i H1 acc → Y i H1 x H' → g x (wipe σ vs) H' fun σ2 H2 => wipe σ2 vs = wipe σ vs ∧ te σ2 H2 (LcEnd H Dd A i))
    (hd : ∀ H' acc, Same H H' → H' Dd = some (.lst acc) → acc.length = n → A n H' acc → Qd H') : LcW J g tYes te vs σ H Dd Qd := by
  refine lcW w (fun i H' => Same H H' ∧ ∃ acc, H' Dd = some (.lst acc) ∧ acc.length = i ∧ A i H' acc) ⟨Same.new hD, [], upd_same, rfl, h0 _⟩ (fun i H' _ h => hG H' h.1) ?_ (fun H' h => ?_)
  · rintro i x H1 H' hi ⟨s1, acc, hacc, hl, ha⟩ hy
    exact hs i x H1 H' acc hi s1 hacc hl ha hy
  · obtain ⟨s1, acc, hacc, hl, ha⟩ := h
    exact hd H' acc s1 hacc hl ha
end
theorem Prs.updL {H : Hp} {Dd : Addr} {ys : List V} {o : HO} (hd : H Dd = some (.lst ys)) : ∀ {xs : List V} {l : Bk}, Prs H xs l → Prs (upd H Dd o) xs l
  | _, _, .nil => .nil
  | _, _, .cons ⟨t, e, h⟩ r => .cons ⟨t, e, by rw [upd_ne (ne_of h hd (by intro z; cases z))]; exact h⟩ (Prs.updL hd r)
theorem IsTp.updL {H : Hp} {Dd : Addr} {ys : List V} {o : HO} {v : V} {q : Int × Int} (hd : H Dd = some (.lst ys)) : IsTp H v q → IsTp (upd H Dd o) v q
  | ⟨t, e, h⟩ => ⟨t, e, by rw [upd_ne (ne_of h hd (by intro z; cases z))]; exact h⟩

/-! ### the rules with the written part by its letter -/
section
variable {X : Cx} {K : PySem.W.Frag}
theorem ix_tupK (h : X.K = K := by rfl) : IxR X (rIxT K) := h ▸ ix_tup
theorem ix_listK (h : X.K = K := by rfl) : IxR X (rIxL K) := h ▸ ix_list
theorem sl_listK (h : X.K = K := by rfl) : SlR X (rSlL K) := h ▸ sl_list
def rLenK (K : PySem.W.Frag) : List V → Hp → VK → Prop := fun xs H Q => ∃ p ys, xs = [.ref p] ∧ (SqL K H p ys ∨ SqT K H p ys) ∧ Q (.int ys.length) H
theorem call_lenK (h : X.K = K := by rfl) : CallR X (.builtin "len") (rLenK K) := h ▸ call_len_seq
def rListK (K : PySem.W.Frag) : List V → Hp → VK → Prop := fun xs H Q => ∃ p ys, xs = [.ref p] ∧ (SqL K H p ys ∨ SqT K H p ys) ∧ ∀ l, H l = none → Q (.ref l) (upd H l (.lst ys))
theorem call_listK (h : X.K = K := by rfl) : CallR X (.type "list") (rListK K) := h ▸ call_list_of
theorem call_isiK' (h : X.K = K := by rfl) : CallR X (.builtin "isinstance") (rIsi K) := h ▸ call_isi
theorem cr_allK (hc : X.calm = true := by rfl) (h : X.K = K := by rfl) : CallR X (.builtin "all") (rAll K) := h ▸ cr_all hc
theorem cr_maxK (hc : X.calm = true := by rfl) (h : X.K = K := by rfl) : CallR X (.builtin "max") (rMax K) := h ▸ cr_max hc
theorem op_eqDK (hu : X.A.units + 64 < cLine) (h : X.K = K := by rfl) : OpR X (compareOp .Eq) (rEqD K) := h ▸ op_eqD hu
theorem op_neDK (hu : X.A.units + 64 < cLine) (h : X.K = K := by rfl) : OpR X (compareOp .NotEq) (rNeD K) := h ▸ op_neD hu
theorem op_notInK (h : X.K = K := by rfl) : OpR X (compareOp .NotIn) (rIn K true) := h ▸ op_notIn_seq
theorem pi_listK {tg l : Expr} {tl : TE} (hl : PE X l tl) (h : X.K = K := by rfl) : PI X tg l (iList K tl) := h ▸ pi_list hl
theorem pi_tupK {tg l : Expr} {tl : TE} (hl : PE X l tl) (h : X.K = K := by rfl) : PI X tg l (iTup K tl) := h ▸ pi_tup hl
theorem pi_enumK {e : Expr} {ta : TA} {p pos tpos : Pos} {elts : List Expr} {kk : Nat} (hm : X.mg "enumerate" = none) (ha : PA X [e] ta) (hg : Gl X "enumerate" := by rfl) (hs : starEach [e] X.env = [(false, eval e X.env)] := by rfl) (h : X.K = K := by rfl) :
    PI X (.Tuple elts kk tpos) (.Call (.Name "enumerate" p) [e] [] pos) (iEnum K ta) := h ▸ pi_enum hg hm ha hs
theorem pi_zipK {e e2 : Expr} {ta : TA} {p pos tpos : Pos} {elts : List Expr} {kk : Nat} (hm : X.mg "zip" = none) (ha : PA X [e, e2] ta) (hg : Gl X "zip" := by rfl)
    (hs : starEach [e, e2] X.env = (false, eval e X.env) :: starEach [e2] X.env := by rfl) (hpl : (backTo pos (starEach [e2] X.env)).any (·.1) = false := by rfl) (h : X.K = K := by rfl) :
    PI X (.Tuple elts kk tpos) (.Call (.Name "zip" p) [e, e2] [] pos) (iZip K ta) := h ▸ pi_zip hg hm ha hs hpl
theorem pe_revK {e : Expr} {te : TE} {k : Nat} {p1 p2 p3 pos : Pos} (he : PE X e te) (h : X.K = K := by rfl) : PE X (.Subscript e (.Slice none none (some (.UnaryOp .USub (.Constant (.int 1) k p1) p2)) p3) pos) (tRevL K te) := h ▸ pe_revL he
theorem pg_tupK {es : List Expr} {k : Nat} {t : TGs} {n : Nat} {pos : Pos} (h : PGs X es t) (hc : X.calm = true := by rfl) (hn : (assignEach es X.env).length = n := by rfl) (hst : (assignEach es X.env).findIdx? (·.1) = none := by rfl) (hK : X.K = K := by rfl) : PG X (.Tuple es k pos) (gTup K n t) := hK ▸ pg_tup hc h hn hst
def rAbs : List V → Hp → VK → Prop := fun xs H Q => ∃ i, xs = [.int i] ∧ Q (.int (if i < 0 then -i else i)) H
theorem call_absK : CallR X (.builtin "abs") rAbs := call_abs
def rMax2 : List V → Hp → VK → Prop := fun xs H Q => ∃ i j, xs = [.int i, .int j] ∧ Q (.int (if j > i then j else i)) H
theorem call_max2K (hc : X.calm = true := by rfl) : CallR X (.builtin "max") rMax2 := call_max2 hc
def rMin2 : List V → Hp → VK → Prop := fun xs H Q => ∃ i j, xs = [.int i, .int j] ∧ Q (.int (if j < i then j else i)) H
theorem call_min2K (hc : X.calm = true := by rfl) : CallR X (.builtin "min") rMin2 := call_min2 hc
def rInt1 : List V → Hp → VK → Prop := fun xs H Q => (∃ i, xs = [.int i] ∧ Q (.int i) H) ∨ ∃ k, xs = [.bl k] ∧ Q (.int (if k then 1 else 0)) H
theorem call_int1K : CallR X (.type "int") rInt1 := call_int1
end
section
variable {K : PySem.W.Frag} {σ : L2.St} {H : Hp} {Q : VK} {i j : Int} {tl : TE} {ta : TA} {R : It → Hp → Prop} {p q : Addr}
theorem r_abs : rAbs [.int i] H Q ↔ Q (.int (i.natAbs : Int)) H := by
  have e : (if i < 0 then -i else i) = (i.natAbs : Int) := by split <;> omega
  unfold rAbs
  constructor
  · rintro ⟨_, e1, h⟩
    cases e1
    rw [e] at h
    exact h
  · intro h
    exact ⟨i, rfl, by rw [e]; exact h⟩
theorem r_max2 : rMax2 [.int i, .int j] H Q ↔ Q (.int (max i j)) H := by
  have e : (if j > i then j else i) = max i j := by
    by_cases h : i < j
    · rw [if_pos h]; omega
    · rw [if_neg (by omega)]; omega
  unfold rMax2
  constructor
  · rintro ⟨_, _, e1, h⟩
    cases e1
    rw [e] at h
    exact h
  · intro h
    exact ⟨i, j, rfl, by rw [e]; exact h⟩
theorem r_min2 : rMin2 [.int i, .int j] H Q ↔ Q (.int (min i j)) H := by
  have e : (if j < i then j else i) = min i j := by
    by_cases h : j < i
    · rw [if_pos h]; omega
    · rw [if_neg (by omega)]; omega
  unfold rMin2
  constructor
  · rintro ⟨_, _, e1, h⟩
    cases e1
    rw [e] at h
    exact h
  · intro h
    exact ⟨i, j, rfl, by rw [e]; exact h⟩
theorem r_int1 : rInt1 [.int i] H Q ↔ Q (.int i) H := by
  constructor
  · rintro (⟨_, e, h⟩ | ⟨_, e, h⟩)
    · cases e; exact h
    · cases e
  · exact fun h => .inl ⟨_, rfl, h⟩
theorem lenL {ys : List V} (h : H p = some (.lst ys)) (q : Q (.int ys.length) H) : rLenK K [.ref p] H Q := ⟨p, ys, rfl, .inl (SqL.of h), q⟩
theorem lenT {ys : List V} (h : H p = some (.tup ys)) (q : Q (.int ys.length) H) : rLenK K [.ref p] H Q := ⟨p, ys, rfl, .inr (SqT.of h), q⟩
theorem lenS {ys : List V} (h : SqL K H p ys) (q : Q (.int ys.length) H) : rLenK K [.ref p] H Q := ⟨p, ys, rfl, .inl h, q⟩
theorem listOf {ys : List V} (h : H p = some (.lst ys)) (q : ∀ l, H l = none → Q (.ref l) (upd H l (.lst ys))) : rListK K [.ref p] H Q := ⟨p, ys, rfl, .inl (SqL.of h), q⟩
theorem slL {ys : List V} {lo hi : Option Int} (h : H p = some (.lst ys)) (q : ∀ l, H l = none → Q (.ref l) (upd H l (.lst (cutV ys lo hi)))) : rSlL K (.ref p) lo hi H Q := ⟨p, ys, rfl, SqL.of h, q⟩
theorem r_revL : tRevL K tl σ H Q = tl σ H fun x H1 => ∃ a, x = .ref a ∧ ∃ xs, SqL K H1 a xs ∧ ∀ p, H1 p = none → Q (.ref p) (upd H1 p (.lst xs.reverse)) := by
  have e : tRevL K tl σ H Q = tl σ H fun x H1 => ∃ a xs, x = .ref a ∧ SqL K H1 a xs ∧ ∀ p, H1 p = none → Q (.ref p) (upd H1 p (.lst xs.reverse)) := rfl
  rw [e]
  congr 1
  funext x H1
  refine propext ⟨fun ⟨a, xs, h⟩ => ⟨a, h.1, xs, h.2⟩, fun ⟨a, h, xs, h2⟩ => ⟨a, xs, h, h2⟩⟩
theorem r_iList : iList K tl σ H R = tl σ H fun x H1 => ∃ a, x = .ref a ∧ (∃ xs, SqL K H1 a xs) ∧ R (Itl K a) H1 := rfl
theorem r_iTup : iTup K tl σ H R = tl σ H fun x H1 => ∃ a, x = .ref a ∧ (∃ xs, SqT K H1 a xs) ∧ R (Itt K a) H1 := rfl
theorem r_iRng1 : iRng1 ta σ H R = ta σ H fun vs H1 => ∃ j : Int, vs = [.int j] ∧ -(2 ^ 62) ≤ j ∧ j < 2 ^ 62 ∧ R (Itr 0 j.toNat) H1 := rfl
theorem r_iRng2 : iRng2 ta σ H R = ta σ H fun vs H1 => ∃ i j : Int, vs = [.int i, .int j] ∧ (-(2 ^ 62) ≤ i ∧ i < 2 ^ 62 ∧ -(2 ^ 62) ≤ j ∧ j < 2 ^ 62) ∧ R (Itr i (j - i).toNat) H1 := rfl
theorem r_l1 {P : Int → Prop} : (∃ k, [V.int i] = [V.int k] ∧ P k) ↔ P i := ⟨fun ⟨_, e, h⟩ => by cases e; exact h, fun h => ⟨_, rfl, h⟩⟩
theorem r_l2 {P : Int → Int → Prop} : (∃ k l, [V.int i, V.int j] = [V.int k, V.int l] ∧ P k l) ↔ P i j := ⟨fun ⟨_, _, e, h⟩ => by cases e; exact h, fun h => ⟨_, _, rfl, h⟩⟩
theorem r_iEnum : iEnum K ta σ H R = ta σ H fun vs H1 => ∃ a xs, vs = [.ref a] ∧ SqL K H1 a xs ∧ R (Ite K a) H1 := rfl
theorem r_iEnum1 {P : Prop} {T : Addr → List V → Prop} {U : Addr → Prop} : (∃ a xs, [V.ref p] = [V.ref a] ∧ T a xs ∧ U a) ↔ (∃ xs, T p xs) ∧ U p :=
  ⟨fun ⟨_, xs, e, h, u⟩ => by cases e; exact ⟨⟨xs, h⟩, u⟩, fun ⟨⟨xs, h⟩, u⟩ => ⟨_, xs, rfl, h, u⟩⟩
theorem r_iZip : iZip K ta σ H R = ta σ H fun vs H1 => ∃ a b xs ys, vs = [.ref a, .ref b] ∧ SqL K H1 a xs ∧ SqL K H1 b ys ∧ R (Itz K a b) H1 := rfl
end
theorem sz0 : (([] : List V).length ≤ sizeLine) ↔ True := iff_true_intro (Nat.zero_le _)
theorem sz1 {a : V} : ([a].length ≤ sizeLine) ↔ True := iff_true_intro (show 1 ≤ sizeLine by decide)
theorem sz2 {a b : V} : ([a, b].length ≤ sizeLine) ↔ True := iff_true_intro (show 2 ≤ sizeLine by decide)
theorem sz3 {a b c : V} : ([a, b, c].length ≤ sizeLine) ↔ True := iff_true_intro (show 3 ≤ sizeLine by decide)
theorem sz4 {a b c d : V} : ([a, b, c, d].length ≤ sizeLine) ↔ True := iff_true_intro (show 4 ≤ sizeLine by decide)
theorem sz5 {a b c d e : V} : ([a, b, c, d, e].length ≤ sizeLine) ↔ True := iff_true_intro (show 5 ≤ sizeLine by decide)
theorem sz6 {a b c d e f : V} : ([a, b, c, d, e, f].length ≤ sizeLine) ↔ True := iff_true_intro (show 6 ≤ sizeLine by decide)
theorem sz8 {a b c d e f g h : V} : ([a, b, c, d, e, f, g, h].length ≤ sizeLine) ↔ True := iff_true_intro (show 8 ≤ sizeLine by decide)
end KR

namespace KR
open PySem L2
/-! ### data compared as a whole -/
def d2 (q : Int × Int) : PyData := .tuple [.int q.1, .int q.2]
def dB (l : Bk) : PyData := .list (l.map d2)
def dI (l : List Int) : PyData := .list (l.map .int)
theorem lay_ints : ∀ l : List Int, PyData.canLayAll0 (l.map .int) = true
  | [] => by simp only [List.map_nil, PyData.canLayAll0]
  | i :: l => by simp only [List.map_cons, PyData.canLayAll0, PyData.canLay0, lay_ints l, Bool.and_self]
theorem lay_pairs : ∀ l : Bk, PyData.canLayAll0 (l.map d2) = true
  | [] => by simp only [List.map_nil, PyData.canLayAll0]
  | q :: l => by simp only [List.map_cons, d2, PyData.canLayAll0, PyData.canLay0, lay_pairs l, Bool.and_self]
theorem depth_ints : ∀ l : List Int, PyData.depthAll (l.map .int) ≤ 1
  | [] => by simp [PyData.depthAll]
  | i :: l => by
    have h := depth_ints l
    simp only [List.map_cons, PyData.depthAll, PyData.depth]
    omega
theorem depth_pairs : ∀ l : Bk, PyData.depthAll (l.map d2) ≤ 4
  | [] => by simp [PyData.depthAll]
  | q :: l => by
    have h := depth_pairs l
    simp only [List.map_cons, d2, PyData.depthAll, PyData.depth]
    omega
theorem sh_int (i : Int) : SeqAt.shaped (.int i) = true := by simp [SeqAt.shaped, PyData.canLay0, PyData.depth]
theorem sh_none : SeqAt.shaped .none = true := by simp [SeqAt.shaped, PyData.canLay0, PyData.depth]
theorem sh_d2 (q : Int × Int) : SeqAt.shaped (d2 q) = true := by simp [SeqAt.shaped, d2, PyData.canLay0, PyData.canLayAll0, PyData.depth, PyData.depthAll]
theorem sh_dB (l : Bk) : SeqAt.shaped (dB l) = true := by
  have h := depth_pairs l
  have h2 := lay_pairs l
  simp only [SeqAt.shaped, dB, PyData.canLay0, PyData.depth, h2, Bool.true_and, decide_eq_true_eq]
  omega
theorem sh_dI (l : List Int) : SeqAt.shaped (dI l) = true := by
  have h := depth_ints l
  have h2 := lay_ints l
  simp only [SeqAt.shaped, dI, PyData.canLay0, PyData.depth, h2, Bool.true_and, decide_eq_true_eq]
  omega
theorem eqv_ints : ∀ l r : List Int, PyData.eqvAll (l.map .int) (r.map .int) = decide (l = r)
  | [], [] => by simp [PyData.eqvAll]
  | [], j :: r => by simp [PyData.eqvAll]
  | i :: l, [] => by simp [PyData.eqvAll]
  | i :: l, j :: r => by
    simp only [List.map_cons, PyData.eqvAll, PyData.eqv, eqv_ints l r]
    by_cases h : i = j <;> by_cases h2 : l = r <;> simp [h, h2]
theorem eqv_d2 (p q : Int × Int) : PyData.eqv (d2 p) (d2 q) = decide (p = q) := by
  obtain ⟨a, b⟩ := p
  obtain ⟨c, d⟩ := q
  simp only [d2, PyData.eqv, PyData.eqvAll]
  by_cases h : a = c <;> by_cases h2 : b = d <;> simp [h, h2]
theorem eqv_pairs : ∀ l r : Bk, PyData.eqvAll (l.map d2) (r.map d2) = decide (l = r)
  | [], [] => by simp [PyData.eqvAll]
  | [], j :: r => by simp [PyData.eqvAll]
  | i :: l, [] => by simp [PyData.eqvAll]
  | i :: l, j :: r => by
    simp only [List.map_cons, PyData.eqvAll, eqv_d2, eqv_pairs l r]
    by_cases h : i = j <;> by_cases h2 : l = r <;> simp [h, h2]
theorem eqv_dI (l r : List Int) : PyData.eqv (dI l) (dI r) = decide (l = r) := by simp only [dI, PyData.eqv, eqv_ints]
theorem eqv_dB (l r : Bk) : PyData.eqv (dB l) (dB r) = decide (l = r) := by simp only [dB, PyData.eqv, eqv_pairs]
section
variable {K : PySem.W.Frag} {H : Hp}
theorem dp_ints : ∀ l : List Int, DpAll K H (l.map V.int) (l.map .int)
  | [] => .nil
  | i :: l => .cons (.int i) (dp_ints l)
theorem dp_tup {t : Addr} {q : Int × Int} (h : H t = some (.tup [.int q.1, .int q.2])) : Dp K H (.ref t) (d2 q) := .tup (SqT.of h) (.cons (.int _) (.cons (.int _) .nil))
theorem dp_pairs : ∀ {xs : List V} {l : Bk}, Prs H xs l → DpAll K H xs (l.map d2)
  | _, _, .nil => .nil
  | _, _, .cons ⟨t, e, h⟩ r => .cons (by rw [e]; exact dp_tup h) (dp_pairs r)
theorem dp_IL {a : Addr} {l : List Int} (h : IL H a l) : Dp K H (.ref a) (dI l) := .lst (SqL.of h) (dp_ints l)
theorem dp_Bk {a : Addr} {l : Bk} (h : BkAt H a l) : Dp K H (.ref a) (dB l) := by
  obtain ⟨xs, h1, h2⟩ := h
  exact .lst (SqL.of h1) (dp_pairs h2)
variable {Q : VK}
theorem ne_IL {a b : Addr} {l r : List Int} (h1 : IL H a l) (h2 : IL H b r) (q : Q (.bl (!decide (l = r))) H) : rNeD K (.ref a) (.ref b) H Q := ⟨_, _, dp_IL h1, dp_IL h2, sh_dI l, sh_dI r, by rw [eqv_dI]; exact q⟩
theorem ne_Bk {a b : Addr} {l r : Bk} (h1 : BkAt H a l) (h2 : BkAt H b r) (q : Q (.bl (!decide (l = r))) H) : rNeD K (.ref a) (.ref b) H Q := ⟨_, _, dp_Bk h1, dp_Bk h2, sh_dB l, sh_dB r, by rw [eqv_dB]; exact q⟩
theorem eq_IL {a b : Addr} {l r : List Int} (h1 : IL H a l) (h2 : IL H b r) (q : Q (.bl (decide (l = r))) H) : rEqD K (.ref a) (.ref b) H Q := ⟨_, _, dp_IL h1, dp_IL h2, sh_dI l, sh_dI r, by rw [eqv_dI]; exact q⟩
theorem eq_Bk {a b : Addr} {l r : Bk} (h1 : BkAt H a l) (h2 : BkAt H b r) (q : Q (.bl (decide (l = r))) H) : rEqD K (.ref a) (.ref b) H Q := ⟨_, _, dp_Bk h1, dp_Bk h2, sh_dB l, sh_dB r, by rw [eqv_dB]; exact q⟩
/-- a least pair or None, as data -/
def dC : List (Nat × Nat) → PyData
  | [] => .none
  | q :: _ => d2 ((q.1 : Int), (q.2 : Int))
theorem dp_CV {v : V} : ∀ {l : List (Nat × Nat)}, CV H v l → Dp K H v (dC l)
  | [], h => by
    have h' : v = .non := h
    rw [h']
    exact .non
  | q :: _, ⟨t, e, h⟩ => by
    rw [e]
    exact dp_tup (q := ((q.1 : Int), (q.2 : Int))) h
theorem sh_dC : ∀ l : List (Nat × Nat), SeqAt.shaped (dC l) = true
  | [] => sh_none
  | _ :: _ => sh_d2 _
theorem eqv_dC : ∀ l : List (Nat × Nat), PyData.eqv (dC l) (dC l) = true
  | [] => by simp [dC, PyData.eqv]
  | _ :: _ => by
    show PyData.eqv (d2 _) (d2 _) = true
    rw [eqv_d2]; simp
theorem ne_CV {v u : V} {l : List (Nat × Nat)} (h1 : CV H v l) (h2 : CV H u l) (q : Q (.bl false) H) : rNeD K v u H Q := ⟨_, _, dp_CV h1, dp_CV h2, sh_dC l, sh_dC l, by rw [eqv_dC]; exact q⟩
end

theorem ifT {c : Bool} {A B : Prop} (h : c = true) (q : A) : if c = true then A else B := by
  rw [if_pos h]; exact q
theorem ifF {c : Bool} {A B : Prop} (h : c = false) (q : B) : if c = true then A else B := by
  rw [h, if_neg Bool.false_ne_true]; exact q
/-! ### parts of lists -/
theorem cut_from (xs : List V) (c : Nat) : cutV xs (some (c : Int)) none = xs.drop c := by
  unfold cutV
  rw [HT.sIx_nat, HT.sIx_none]
  by_cases h : c ≤ xs.length
  · rw [Nat.min_eq_left h, List.take_of_length_le (by rw [List.length_drop]; omega)]
  · rw [Nat.min_eq_right (by omega), List.drop_eq_nil_of_le (by omega), List.drop_eq_nil_of_le (by omega), List.take_nil]
theorem cut_to (xs : List V) (c : Nat) : cutV xs none (some (c : Int)) = xs.take c := by
  unfold cutV
  rw [HT.sIx_nat, HT.sIx_none, List.drop_zero]
  by_cases h : c ≤ xs.length
  · rw [Nat.min_eq_left h, Nat.sub_zero]
  · rw [Nat.min_eq_right (by omega), Nat.sub_zero, List.take_of_length_le (Nat.le_refl _), List.take_of_length_le (by omega)]
/-! ### sizes for the wide operators -/
theorem divW {i j : Int} (b : Nat) (h : 0 < j) (hb : j.natAbs < 2 ^ b) (h0 : 0 < b := by decide) (h9 : b ≤ 9000 := by decide) : CDivW i j := wide_div h hb h0 h9
theorem mulW {i j : Int} (a b : Nat) (ha : i.natAbs < 2 ^ a) (hb : j.natAbs < 2 ^ b) (h0 : 0 < a := by decide) (h1 : 0 < b := by decide) (h : a + b ≤ 1000000 := by decide) : CMulW i j := wide_mul ha hb h0 h1 h
/-! ### the inverse's loop -/
structure EInv (n m one other factor former : Int) : Prop where
  one0 : 0 < one
  oth0 : 0 ≤ other
  one_le : one ≤ m
  oth_le : other ≤ m
  d1 : m ∣ factor * n - one
  d2 : m ∣ former * n - other
  g : Int.gcd one other = 1
  f1 : factor.natAbs ≤ m.natAbs
  bnd : former.natAbs * one.natAbs + factor.natAbs * other.natAbs ≤ m.natAbs
theorem EInv.start {n m : Int} (hm : 0 < m) (hg : Int.gcd n m = 1) : EInv n m m (n % m) 0 1 := by
  have h1 := Int.emod_nonneg n (show m ≠ 0 by omega)
  have h2 := Int.emod_lt_of_pos n hm
  refine ⟨hm, h1, Int.le_refl _, by omega, ?_, ?_, ?_, by simp, by simp⟩
  · rw [Int.zero_mul, Int.zero_sub]; exact Int.dvd_neg.mpr (Int.dvd_refl _)
  · rw [Int.one_mul]; exact Int.dvd_self_sub_emod
  · rw [Int.emod_def, Int.gcd_sub_mul_left_right, Int.gcd_comm]; exact hg
theorem EInv.former_le {n m one other factor former : Int} (e : EInv n m one other factor former) : former.natAbs ≤ m.natAbs := by
  have h1 := e.bnd
  have h2 : former.natAbs * 1 ≤ former.natAbs * one.natAbs := Nat.mul_le_mul_left _ (by have := e.one0; omega)
  omega
theorem EInv.step {n m one other factor former : Int} (e : EInv n m one other factor former) (h : other ≠ 0) :
    EInv n m other (one - one / other * other) former (factor - one / other * former) := by
  have o0 := e.oth0
  have hp : 0 < other := by omega
  have er : one - one / other * other = one % other := by
    rw [Int.mul_comm, Int.emod_def]
  have r0 := Int.emod_nonneg one h
  have r1 := Int.emod_lt_of_pos one hp
  have q0 : 0 ≤ one / other := Int.ediv_nonneg (by have := e.one0; omega) o0
  rw [er]
  refine ⟨hp, r0, e.oth_le, by have := e.oth_le; omega, e.d2, ?_, ?_, e.former_le, ?_⟩
  · have z := Int.dvd_sub e.d1 (Int.dvd_trans e.d2 (Int.dvd_mul_left (one / other) (former * n - other)))
    refine KM.dvd_eq z ?_
    rw [← er, Int.sub_mul, Int.mul_sub, Int.mul_assoc]
    omega
  · rw [Int.emod_def, Int.gcd_sub_mul_left_right, Int.gcd_comm]; exact e.g
  · -- |factor - q former| * other + |former| * (one % other) <= m
    have b := e.bnd
    have t1 : (factor - one / other * former).natAbs ≤ factor.natAbs + (one / other).natAbs * former.natAbs := by
      have z := Int.natAbs_sub_le factor (one / other * former)
      rw [Int.natAbs_mul] at z
      exact z
    have t2 : (factor - one / other * former).natAbs * other.natAbs ≤ (factor.natAbs + (one / other).natAbs * former.natAbs) * other.natAbs := Nat.mul_le_mul_right _ t1
    have t3 : (one % other).natAbs + (one / other).natAbs * other.natAbs = one.natAbs := by
      have z := Int.emod_add_mul_ediv one other
      have z1 : ((one % other).natAbs : Int) = one % other := by omega
      have z2 : ((one / other).natAbs : Int) = one / other := by omega
      have z3 : (other.natAbs : Int) = other := by omega
      have z4 : (one.natAbs : Int) = one := by have := e.one0; omega
      have z5 : (((one % other).natAbs + (one / other).natAbs * other.natAbs : Nat) : Int) = ((one.natAbs : Nat) : Int) := by
        rw [Int.natCast_add, Int.natCast_mul, z1, z2, z3, z4, Int.mul_comm]
        exact z
      exact Int.ofNat.inj z5
    have t4 : (factor.natAbs + (one / other).natAbs * former.natAbs) * other.natAbs + former.natAbs * (one % other).natAbs = former.natAbs * one.natAbs + factor.natAbs * other.natAbs := by
      rw [← t3, Nat.add_mul, Nat.mul_add, Nat.mul_comm (one / other).natAbs former.natAbs, Nat.mul_assoc former.natAbs]
      omega
    omega
theorem EInv.done {n m one factor former : Int} (hm : 0 < m) (e : EInv n m one 0 factor former) : KM.Inver n m (factor % m) := by
  have h1 : one = 1 := by
    have g := e.g
    rw [Int.gcd_zero_right] at g
    have := e.one0
    omega
  refine ⟨Int.emod_nonneg _ (by omega), Int.emod_lt_of_pos _ hm, ?_⟩
  have d1 := e.d1
  rw [h1] at d1
  have d2 : m ∣ factor - factor % m := Int.dvd_self_sub_emod
  have d3 := Int.dvd_trans d2 (Int.dvd_mul_left n (factor - factor % m))
  refine KM.dvd_eq (Int.dvd_sub d1 d3) ?_
  rw [Int.mul_sub, Int.mul_comm n factor]
  omega
/-! ### conflicts, row by row -/
def confTo (l : Bk) (i : Nat) : List (Nat × Nat) := (List.range i).flatMap (KM.confRow l)
def rowTo (l : Bk) (i j : Nat) : List (Nat × Nat) := (((List.range j).map fun t => i + 1 + t).filter fun j => !KM.fitb (l.getD i (0, 0)) (l.getD j (0, 0))).map fun j => (i, j)
theorem confTo_succ (l : Bk) (i : Nat) : confTo l (i + 1) = confTo l i ++ KM.confRow l i := by
  unfold confTo
  rw [List.range_succ, List.flatMap_append]
  simp
theorem rowTo_succ (l : Bk) (i j : Nat) : rowTo l i (j + 1) = rowTo l i j ++ (if KM.fitb (l.getD i (0, 0)) (l.getD (i + 1 + j) (0, 0)) = true then [] else [(i, i + 1 + j)]) := by
  unfold rowTo
  rw [List.range_succ, List.map_append, List.filter_append, List.map_append]
  congr 1
  show List.map _ (List.filter _ [i + 1 + j]) = _
  rw [List.filter_cons]
  by_cases h : KM.fitb (l.getD i (0, 0)) (l.getD (i + 1 + j) (0, 0)) = true
  · rw [h]; rfl
  · have h' : KM.fitb (l.getD i (0, 0)) (l.getD (i + 1 + j) (0, 0)) = false := by
      cases e : KM.fitb (l.getD i (0, 0)) (l.getD (i + 1 + j) (0, 0)) with
      | true => exact absurd e h
      | false => rfl
    rw [h']; rfl
theorem rowTo_length (l : Bk) (i j : Nat) : (rowTo l i j).length ≤ j := by
  unfold rowTo
  rw [List.length_map]
  refine Nat.le_trans (List.length_filter_le _ _) ?_
  rw [List.length_map, List.length_range]
  exact Nat.le_refl _
theorem confRow_rowTo (l : Bk) (i : Nat) : KM.confRow l i = rowTo l i (l.length - (i + 1)) := rfl
theorem confTo_length (l : Bk) : ∀ i, (confTo l i).length ≤ i * l.length
  | 0 => Nat.zero_le _
  | i + 1 => by
    rw [confTo_succ, List.length_append]
    have h1 := confTo_length l i
    have h2 := rowTo_length l i (l.length - (i + 1))
    rw [← confRow_rowTo] at h2
    rw [Nat.succ_mul]
    omega
theorem natPairs_append (a b : List (Nat × Nat)) : natPairs (a ++ b) = natPairs a ++ natPairs b := List.map_append
theorem natPairs_length (a : List (Nat × Nat)) : (natPairs a).length = a.length := List.length_map ..
theorem take_more {α : Type} {l : List α} {i : Nat} {x : α} (h : l[i]? = some x) : l.take (i + 1) = l.take i ++ [x] := by
  rw [List.take_succ, h]; rfl
theorem rgV_get {a b : Int} {i : Nat} {x : V} (h : (rgV a b)[i]? = some x) : x = .int (a + (i : Int)) ∧ i < (b - a).toNat := by
  unfold rgV at h
  rw [List.getElem?_map] at h
  obtain ⟨y, e1, e2⟩ := Option.map_eq_some_iff.mp h
  obtain ⟨h1, h2⟩ := List.getElem?_eq_some_iff.mp e1
  rw [List.getElem_range] at h2
  rw [List.length_range] at h1
  subst h2
  exact ⟨e2.symm, h1⟩
theorem two_pow_nat (b : Nat) : ((2 : Int) ^ b) = ((2 ^ b : Nat) : Int) := by
  rw [Int.natCast_pow]; rfl
theorem abs_lt {i : Int} {b : Nat} (h1 : -(2 ^ b : Nat) < i) (h2 : i < (2 ^ b : Nat)) : i.natAbs < 2 ^ b := by omega
theorem atE {xs : List V} {z : Int} {j : Nat} {v : V} (e : z = (j : Int)) (h : xs[j]? = some v) : atI xs z = some v := by
  rw [e]; exact atI_nat h
theorem atM {l : List Int} {z : Int} {j : Nat} {v : Int} (e : z = (j : Int)) (h : l[j]? = some v) : atI (l.map V.int) z = some (.int v) := atE e (by rw [List.getElem?_map, h]; rfl)
theorem map_get {l : List Int} {i : Nat} {x : V} (h : (l.map V.int)[i]? = some x) : ∃ v, l[i]? = some v ∧ x = .int v := by
  rw [List.getElem?_map] at h
  obtain ⟨v, e1, e2⟩ := Option.map_eq_some_iff.mp h
  exact ⟨v, e1, e2.symm⟩
end KR

namespace KR
open PySem L2
/-- a def that may raise -/
def HasX (P : Program) (w : World) (K : PySem.W.Frag) (mg : Str → Option Value) (base : Heap) (x : Str) (k : Nat) (ps : List Str) (sp : Sp) : Prop :=
  ∃ (f : Addr) (fd : FuncData), mg x = some (.ref f) ∧ PySem.W.keepIn K (.ref f) = true ∧ Binds K fd ps [] ∧ FnOk P w K mg base (L2.CX P w) k f fd ps sp
/-- a def whose last parameter is 40 where it is not given -/
def HasD (P : Program) (w : World) (K : PySem.W.Frag) (mg : Str → Option Value) (base : Heap) (x : Str) (k : Nat) (ps : List Str) (sp : Sp) : Prop :=
  ∃ (f : Addr) (fd : FuncData) (t : Tok), mg x = some (.ref f) ∧ PySem.W.keepIn K (.ref f) = true ∧ Binds K fd ps [] ∧ Binds K fd ps [.int 40 t] ∧ FnOk P w K mg base CX0 k f fd ps sp
def DfnD (K : PySem.W.Frag) (mg : Str → Option Value) (x : Str) (st : Stmt) (ps : List Str) : Prop :=
  ∃ (f : Addr) (fd : FuncData) (t : Tok), mg x = some (.ref f) ∧ FunD K x x (defArgs st) (defBody st) (defScope st) [.int 40] [] f fd ∧ Binds K fd ps [] ∧ Binds K fd ps [.int 40 t]
section
variable {P : Program} {w : World} {K : PySem.W.Frag} {mg : Str → Option Value} {base : Heap}
theorem Dfn.hasX {x : Str} {st : Stmt} {ps : List Str} {k : Nat} {sp : Sp} (d : Dfn K mg x st ps) (h : ∀ f fd, Fun K x x st f fd → FnOk P w K mg base (L2.CX P w) k f fd ps sp) : HasX P w K mg base x k ps sp := by
  obtain ⟨f, fd, m, F, b⟩ := d
  exact ⟨f, fd, m, F.kp, b, h f fd F⟩
theorem DfnD.has {x : Str} {st : Stmt} {ps : List Str} {k : Nat} {sp : Sp} (d : DfnD K mg x st ps) (h : ∀ f fd, FunD K x x (defArgs st) (defBody st) (defScope st) [.int 40] [] f fd → FnOk P w K mg base CX0 k f fd ps sp) : HasD P w K mg base x k ps sp := by
  obtain ⟨f, fd, t, m, F, b, b1⟩ := d
  exact ⟨f, fd, t, m, F.kp, b, b1, h f fd F⟩
end
section
variable {X : Cx} {x : Str} {k : Nat} {ps : List Str} {sp : Sp} {e : Expr} {es : List Expr} {t : TA} {p pos : Pos} {E : XK}
/-- called where it lets nothing out -/
theorem pe_hasX (h : HasX X.prog X.w X.K X.mg X.base x k ps sp) (hr : Room k X.A) (ha : PA X (e :: es) t) (hg : Gl X x := by rfl) (hdb : (x == ("__debug__" : Str)) = false := by decide)
    (he : starEach (e :: es) X.env = (false, eval e X.env) :: starEach es X.env := by rfl) (hpl : (backTo pos (starEach es X.env)).any (·.1) = false := by rfl) : PE X (.Call (.Name x p) (e :: es) [] pos) (tCall sp [] E0 t) := by
  obtain ⟨f, fd, m, kp, b, F⟩ := h
  exact pe_call F hr hg m kp b .nil passL ha hdb he hpl
/-- called where what it lets out is taken -/
theorem pe_hasE (h : HasX X.prog X.w X.K X.mg X.base x k ps sp) (hr : Room k X.A) (tk : Takes X (fun cls d _ H => E cls d H)) (ha : PA X (e :: es) t) (hg : Gl X x := by rfl) (hdb : (x == ("__debug__" : Str)) = false := by decide)
    (he : starEach (e :: es) X.env = (false, eval e X.env) :: starEach es X.env := by rfl) (hpl : (backTo pos (starEach es X.env)).any (·.1) = false := by rfl) : PE X (.Call (.Name x p) (e :: es) [] pos) (tCall sp [] E t) := by
  obtain ⟨f, fd, m, kp, b, F⟩ := h
  exact pe_call F hr hg m kp b .nil (passes_call tk fun _ _ _ _ h => h) ha hdb he hpl
theorem pe_hasD2 (h : HasD X.prog X.w X.K X.mg X.base x k ps sp) (hr : Room k X.A) (ha : PA X (e :: es) t) (hg : Gl X x := by rfl) (hdb : (x == ("__debug__" : Str)) = false := by decide)
    (he : starEach (e :: es) X.env = (false, eval e X.env) :: starEach es X.env := by rfl) (hpl : (backTo pos (starEach es X.env)).any (·.1) = false := by rfl) : PE X (.Call (.Name x p) (e :: es) [] pos) (tCall sp [] E0 t) := by
  obtain ⟨f, fd, _, m, kp, b, _, F⟩ := h
  exact pe_call F hr hg m kp b .nil pass0 ha hdb he hpl
theorem pe_hasD1 (h : HasD X.prog X.w X.K X.mg X.base x k ps sp) (hr : Room k X.A) (ha : PA X (e :: es) t) (hg : Gl X x := by rfl) (hdb : (x == ("__debug__" : Str)) = false := by decide)
    (he : starEach (e :: es) X.env = (false, eval e X.env) :: starEach es X.env := by rfl) (hpl : (backTo pos (starEach es X.env)).any (·.1) = false := by rfl) : PE X (.Call (.Name x p) (e :: es) [] pos) (tCall sp [.int 40] E0 t) := by
  obtain ⟨f, fd, t, m, kp, _, b, F⟩ := h
  exact pe_call F hr hg m kp b (.cons ⟨t, rfl⟩ .nil) pass0 ha hdb he hpl
end
end KR

namespace KL
open PySem PySem.Calls PyProof.Rows L2
/-! ### list(enumerate(l)), turn by turn -/
/-- the enumerate at e over the list's iterator at it, where i items were taken; no tuple of it stands at q -/
def EnS (h : Heap) (e it q : Addr) (i : Nat) : Prop :=
  (i = 0 ∧ IsEnum h e it ((0 : Nat) : Int) .none) ∨ ∃ (old : Value) (T : Addr) (f : Bool) (oT : Obj), IsEnumHeld h e it ((i : Nat) : Int) old T f ∧ h.get? T = some oT ∧ T ≠ e ∧ T ≠ it ∧ T ≠ q
theorem EnS.at {h h' : Heap} {e it q : Addr} {i : Nat} (k : ∀ b o, b ≠ q → h.get? b = some o → h'.get? b = some o) (he : e ≠ q) : EnS h e it q i → EnS h' e it q i
  | .inl ⟨h0, x⟩ => .inl ⟨h0, k e _ he x⟩
  | .inr ⟨old, T, f, oT, x, y, z1, z2, z3⟩ => .inr ⟨old, T, f, oT, k e _ he x, k T _ z3 y, z1, z2, z3⟩
section
variable {P : Program} {w : World} {A : Around} {E : Value → Shared → Prop} {s : Shared} {e it l q : Addr} {i : Nat} {items : Array Value}
theorem en_take {x : Value} {Q : Option Value → Shared → Prop} (st : EnS s.heap e it q i) (hit : s.heap.IsListIter it l i) (hl : s.heap.IsList l items) (hx : items[i]? = some x) (hne : e ≠ it) (hq : q < s.heap.objs.size)
    (k : ∀ h', EnS h' e it q (i + 1) → h'.IsListIter it l (i + 1) → h'.get? s.heap.objs.size = some { cls := .type "tuple", data := .seq #[.int i s.toks, x] } → (∀ b o, b ≠ e → b ≠ it → s.heap.get? b = some o → h'.get? b = some o) →
      Q (some (.ref s.heap.objs.size)) { s with heap := h', toks := s.toks + 1 }) : wpAny (model P w) A (pyNext (.ref e)) Q E s := by
  have ec : ((i + 1 : Nat) : Int) = (i : Int) + 1 := by omega
  rcases st with ⟨rfl, he⟩ | ⟨old, T, f, oT, he, hT, n1, n2, n3⟩
  · have hel : e < s.heap.objs.size := Heap.lt_size he
    have hil : it < s.heap.objs.size := by
      obtain ⟨_, z, _⟩ := hit
      exact Heap.lt_size z
    exact wpAny_pyNext_enum_item he hit hl hx hne fun h' a b c _ kp => k h' (.inr ⟨_, _, false, _, (by rw [ec]; exact a), c, Nat.ne_of_gt hel, Nat.ne_of_gt hil, Nat.ne_of_gt hq⟩) b c kp
  · exact wpAny_pyNext_enum_item_held he hT n1 n2 hit hl hx hne fun h' a b c _ kp => k h' (.inr ⟨_, _, true, _, (by rw [ec]; exact a), kp T _ n1 n2 hT, n1, n2, n3⟩) b c kp
theorem en_stop {Q : Option Value → Shared → Prop} (hh : A.handled = none) (st : EnS s.heap e it q i) (hit : s.heap.IsListIter it l i) (hl : s.heap.IsList l items) (hx : items[i]? = none)
    (k : ∀ h', Heap.ExtBut it s.heap h' → Q none { s with heap := h' }) : wpAny (model P w) A (pyNext (.ref e)) Q E s := by
  rcases st with ⟨rfl, he⟩ | ⟨old, T, f, oT, he, _⟩
  · exact wpAny_pyNext_enum_end hh he hit hl hx k
  · exact wpAny_pyNext_enum_end_held hh he hit hl hx k
theorem en_room {Q : Bool → Shared → Prop} (hT : s.TypeIs (.ref e) "enumerate") (k : Q true s) : wpAny (model P w) A (Builtin.List.listLengthHint (.ref e)) Q E s := by
  unfold Builtin.List.listLengthHint
  refine wpAny_bind (wpAny_specialOf hT (am_miss_of_fast (by decide +kernel)) (wpAny_bind (wpAny_specialOf hT (am_miss_of_fast (by decide +kernel)) ?_)))
  exact wpAny_pure k
end
section
variable {X : Cx} {pins : List (Addr × Obj)} {σ : L2.St} {H0 : Hp} {A1 : Around} {e it a q : Addr} {xs : List V} {Rs : Result → Shared → Prop}
/-- the first i tuples -/
def EnT (H : Hp) (xs : List V) (ts : List Addr) (i : Nat) : Prop := ts.length = i ∧ ∀ j x, j < i → xs[j]? = some x → ∃ t, ts[j]? = some t ∧ H t = some (.tup [.int (j : Nat), x])
theorem en_run (hh : A1.handled = none) (hne : e ≠ it) (hS : SqL X.K H0 a xs) (h0 : H0 q = none) (hz : xs.length ≤ 1000)
    (fin : ∀ H s ts, Inv X pins σ H s → Same H0 H → H q = some (.lst (ts.map V.ref)) → EnT H xs ts xs.length → Rs (.ok (.ret .none)) s) :
    ∀ (k i : Nat) (H : Hp) (s : Shared) (ts : List Addr), xs.length - i = k → i ≤ xs.length → Inv X pins σ H s → Same H0 H → H q = some (.lst (ts.map V.ref)) → EnT H xs ts i → EnS s.heap e it q i → s.heap.IsListIter it a i →
      (∀ b ∈ [e, it], FpOk X pins H b) → codeAny (model X.prog X.w) A1 (.builtin "list.extend.loop" ⟨[.ref q, .ref e, .none], []⟩) Rs s := by
  intro k
  induction k with
  | zero =>
    intro i H s ts hk hi I sm hq ht st hit hf
    have ei : i = xs.length := by omega
    subst ei
    obtain ⟨its, rv, pl, _⟩ := I.list (Same.seq sm hS)
    refine codeAny_builtin PySem.F.entry_extend_loop ?_; rw [Around.under_plainId PySem.F.plain_extend_loop _]
    show wpAny _ A1.in1 (pyNext (.ref e) >>= _) _ _ s
    have el := rv.length
    refine wpAny_bind (en_stop (A := A1.in1) hh st hit pl.isList (by simp; omega) fun h' eb => wpAny_pure (fin H _ ts ?_ sm hq ht))
    obtain ⟨f0, f1, f2, f3, f4, f5⟩ := hf it (by simp)
    exact I.turned (t' := s.toks) (fun b o hb z => eb b o hb z) f0 f1 f3 f4 f5
  | succ k ih =>
    intro i H s ts hk hi I sm hq ht st hit hf
    have hlt : i < xs.length := by omega
    obtain ⟨its, rv, pl, _⟩ := I.list (Same.seq sm hS)
    obtain ⟨x, hx⟩ : ∃ x, xs[i]? = some x := ⟨_, List.getElem?_eq_getElem hlt⟩
    obtain ⟨u, hu, ru⟩ := rv.get hx
    obtain ⟨_, js, m, _, _, gq⟩ := I.lstM hq
    have hqs : q < s.heap.objs.size := Heap.lt_size gq
    have fe := hf e (by simp)
    have fi := hf it (by simp)
    have nqe : e ≠ q := fun z => by
      have y := fe.1
      rw [z, hq] at y
      cases y
    have nqi : it ≠ q := fun z => by
      have y := fi.1
      rw [z, hq] at y
      cases y
    refine codeAny_builtin PySem.F.entry_extend_loop ?_; rw [Around.under_plainId PySem.F.plain_extend_loop _]
    show wpAny _ A1.in1 (pyNext (.ref e) >>= _) _ _ s
    refine wpAny_bind (en_take (A := A1.in1) st hit pl.isList (x := u) (by simpa using hu) hne hqs fun h' st' hit' hT kp => ?_)
    have new : ObjOk X.prog X.w (upd H s.heap.objs.size (.tup [.int (i : Nat), x])) h' s.heap.objs.size (.tup [.int (i : Nat), x]) :=
      ⟨by show 2 ≤ sizeLine; decide, [.int i s.toks, u], .cons ⟨_, rfl⟩ (.cons ru .nil), ⟨_, hT, rfl, _, rfl⟩⟩
    have I1 := I.turnedNew (t' := s.toks + 1) (ch := [e, it]) (fun b ob hb z => kp b ob (fun y => hb (by simp [y])) (fun y => hb (by simp [y])) z) hf (Nat.le_refl _) new
    have ft : H s.heap.objs.size = none := I.hok.fresh (Nat.le_refl _)
    have nqt : q ≠ s.heap.objs.size := Nat.ne_of_lt hqs
    have hq1 : upd H s.heap.objs.size (.tup [.int (i : Nat), x]) q = some (.lst (ts.map V.ref)) := (upd_ne nqt).trans hq
    obtain ⟨_, js1, m1, r1, l1, g1⟩ := I1.lstM hq1
    have g1' : h'.get? q = some { cls := .type "list", data := .seq js1.toArray m1 } := g1
    have tl := ht.1
    rw [List.length_map] at l1
    show wpAny _ A1.in1 (updateSeq q (·.push (Value.ref s.heap.objs.size)) >>= _) _ _ _
    refine wpAny_bind (wpAny_updateSeq g1' rfl (wpAny_pure ⟨plainId_quiet PySem.F.plain_extend_loop _, ?_⟩) (by rw [List.size_toArray, sizeLine_eq]; omega) (by show (js1.toArray.push _).size ≤ sizeLine + 1; rw [Array.size_push, List.size_toArray, sizeLine_eq]; omega))
    have I2 := I1.lset (f := (·.push (Value.ref s.heap.objs.size))) (its' := js1 ++ [Value.ref s.heap.objs.size]) (ys := (ts ++ [s.heap.objs.size]).map V.ref) (t' := s.toks + 1) hq1 g1 (by simp) (by rw [List.map_append]; exact r1.append (.cons rfl .nil)) (by rw [List.length_map, List.length_append, List.length_singleton, sizeLine_eq]; omega)
    have old : ∀ b o, b ≠ q → h'.get? b = some o → (h'.update q (Obj.mapSeq (·.push (Value.ref s.heap.objs.size)))).get? b = some o := fun b o hb z => (Heap.get?_update_other _ _ (Ne.symm hb)).trans z
    refine ih (i + 1) _ _ (ts ++ [s.heap.objs.size]) (by omega) hlt I2 ?_ upd_same ⟨by rw [List.length_append, tl]; rfl, fun j y hj hy => ?_⟩ (st'.at old nqe) (hit'.at fun o z => old it o nqi z) fun b hb => ?_
    · exact KR.Same.mut (Same.trans sm (fun b o z => by rw [upd_ne (ne_of_none z ft)]; exact z)) h0
    · by_cases hji : j < i
      · obtain ⟨t, e1, e2⟩ := ht.2 j y hji hy
        refine ⟨t, by rw [List.getElem?_append_left (by omega)]; exact e1, ?_⟩
        rw [upd_ne (ne_of e2 hq (by intro z; cases z)), upd_ne (ne_of_none e2 ft)]
        exact e2
      · have ej : j = i := by omega
        subst ej
        rw [hx] at hy
        cases hy
        refine ⟨s.heap.objs.size, by rw [← tl]; simp, ?_⟩
        rw [upd_ne (Ne.symm nqt)]
        exact upd_same
    · have fb := hf b hb
      refine ⟨?_, fb.2⟩
      have hb' : b = e ∨ b = it := by simpa using hb
      have hbs : b < s.heap.objs.size := by
        rcases hb' with z | z
        · rw [z]
          rcases st with ⟨_, y⟩ | ⟨_, _, _, _, y, _⟩
          · exact Heap.lt_size y
          · exact Heap.lt_size y
        · rw [z]
          obtain ⟨_, y, _⟩ := hit
          exact Heap.lt_size y
      rw [upd_ne (by rcases hb' with z | z <;> rw [z] <;> assumption), upd_ne (Nat.ne_of_lt hbs)]
      exact fb.1
end
section
variable {X : Cx} {pins : List (Addr × Obj)} {σ : L2.St} {H : Hp} {s : Shared} {e it a : Addr} {xs : List V} {Q : VK}
/-- list(e), e an enumerate over the list at a -/
theorem en_list (hd : X.A.handled = none) (I : Inv X pins σ H s) (he : IsEnum s.heap e it ((0 : Nat) : Int) .none) (hit : s.heap.IsListIter it a 0) (hne : e ≠ it) (hf : ∀ b ∈ [e, it], FpOk X pins H b) (hS : SqL X.K H a xs) (hz : xs.length ≤ 1000)
    (k : ∀ (H' : Hp) (p : Addr) (ts : List Addr), Same H H' → H p = none → H' p = some (.lst (ts.map V.ref)) → EnT H' xs ts xs.length → Q (.ref p) H') :
    wpAny (model X.prog X.w) X.A (call (.type "list") [.ref e]) (EP X pins σ Q) X.xe s := by
  have fr : H s.heap.objs.size = none := I.hok.fresh (Nat.le_refl _)
  have bl : ∀ b ∈ [e, it], b < s.heap.objs.size := fun b hb => by
    have hb' : b = e ∨ b = it := by simpa using hb
    rcases hb' with z | z
    · rw [z]; exact Heap.lt_size he
    · rw [z]
      obtain ⟨_, y, _⟩ := hit
      exact Heap.lt_size y
  have l1 := bl e (by simp)
  have l2 := bl it (by simp)
  refine callType_codes (Q₁ := fun o t => o = .ref s.heap.objs.size ∧ t = { s with heap := s.heap.push { cls := .type "list", data := .seq #[] } }) PySem.F.called_list (PySem.F.typeCall_list_1 _) PySem.F.entry_list_init (code_list_new _ ⟨rfl, rfl⟩) fun o t ht => ?_
  obtain ⟨rfl, rfl⟩ := ht
  have g0 : (s.heap.push { cls := .type "list", data := .seq #[] }).get? s.heap.objs.size = some { cls := .type "list", data := .seq #[] } := Heap.get?_push_size _ rfl
  refine ⟨⟨_, g0, rfl⟩, PySem.F.args_list_init_2 _ _, ?_⟩
  have I1 : Inv X pins σ (upd H s.heap.objs.size (.lst [])) { s with heap := s.heap.push { cls := .type "list", data := .seq #[] } } := I.lnew (its := []) (t' := s.toks) .nil (Nat.zero_le _)
  have he1 : IsEnum (s.heap.push { cls := .type "list", data := .seq #[] }) e it ((0 : Nat) : Int) .none := Heap.get?_push_of_some _ he
  have hit1 : (s.heap.push { cls := .type "list", data := .seq #[] }).IsListIter it a 0 := hit.at fun o z => Heap.get?_push_of_some _ z
  generalize hq : s.heap.objs.size = q at *
  generalize s.heap.push { cls := .type "list", data := .seq #[] } = h1 at *
  have up : ∀ (h : Heap) (f : Obj → Obj) (b : Addr) (o : Obj), b ≠ q → h.get? b = some o → (h.update q f).get? b = some o := fun h f b o hb z => (Heap.get?_update_other _ _ (Ne.symm hb)).trans z
  have neq : e ≠ q := Nat.ne_of_lt l1
  have niq : it ≠ q := Nat.ne_of_lt l2
  show wpAny _ _ (do let old ← Builtin.List.listItems (.ref q); Builtin.List.listUpdate (.ref q) (fun _ => #[]); letGo old.toList.reverse; Builtin.List.listExtendWith (.ref q) (.ref e) .none) _ _ _
  refine wpAny_bind ?_
  unfold Builtin.List.listItems
  refine wpAny_bind (wpAny_seqItems g0 rfl (wpAny_pure ?_))
  show wpAny _ _ (updateSeq q (fun _ => #[]) >>= fun _ => letGo (#[] : Array Value).toList.reverse >>= fun _ => Builtin.List.listExtendWith (.ref q) (.ref e) .none) _ _ _
  refine wpAny_bind (wpAny_updateSeq g0 rfl (wpAny_bind (wpAny_letGo ?_)))
  have I2 := I1.lset (f := fun _ => #[]) (its := []) (its' := []) (ys := []) (t' := s.toks) upd_same g0 rfl .nil (Nat.zero_le _)
  have he2 : IsEnum (h1.update q (Obj.mapSeq fun _ => #[])) e it ((0 : Nat) : Int) .none := up _ _ _ _ neq he1
  have hit2 : (h1.update q (Obj.mapSeq fun _ => #[])).IsListIter it a 0 := hit1.at fun o z => up _ _ _ _ niq z
  rw [L2.upd_upd] at I2
  have hq2 : upd H q (.lst []) q = some (.lst (([] : List Addr).map V.ref)) := upd_same
  generalize h1.update q (Obj.mapSeq fun _ => #[]) = h2 at *
  have hT : Shared.TypeIs { s with heap := h2 } (.ref e) "enumerate" := ⟨_, he2, rfl⟩
  have ff : ∀ b ∈ [e, it], FpOk X pins (upd H q (.lst [])) b := fun b hb => ⟨(upd_ne (Nat.ne_of_lt (bl b hb))).trans (hf b hb).1, (hf b hb).2⟩
  have go : ∀ h3, Inv X pins σ (upd H q (.lst [])) { s with heap := h3 } → IsEnum h3 e it ((0 : Nat) : Int) .none → h3.IsListIter it a 0 → codeAny (model X.prog X.w) X.A.in1 (.builtin "list.extend.loop" ⟨[.ref q, .ref e, .none], []⟩) (wants (fun r t => r = .none ∧ EP X pins σ Q (.ref q) t) X.xe) { s with heap := h3 } := fun h3 J h he3 =>
    en_run (A1 := X.A.in1) hd hne hS fr hz (fun H' t ts J' sm hp ht => ⟨rfl, .ref q, H', J', rfl, k H' q ts sm fr hp ht⟩) xs.length 0 _ _ [] (Nat.sub_zero _) (Nat.zero_le _) J (KR.Same.new fr) upd_same ⟨rfl, fun j x hj => absurd hj (Nat.not_lt_zero _)⟩ (.inl ⟨rfl, h⟩) he3 ff
  unfold Builtin.List.listExtendWith
  refine wpAny_bind (wpAny_typeOf (T := "enumerate") hT ?_)
  have c1 : Builtin.List.listSameRef (.ref q) (.ref e) = false := by simp [Builtin.List.listSameRef, Ne.symm neq]
  have c2 : (Value.type "enumerate" == Value.type "list") = false := by decide
  have c3 : (Value.type "enumerate" == Value.type "tuple") = false := by decide
  simp only [c1, c2, c3, Bool.or_false, Bool.false_eq_true, if_false]
  refine wpAny_bind (wpAny_pyIter_enum he2 (wpAny_bind (wpAny_holding (en_room hT ?_))))
  refine wpAny_ite_split (fun _ => ?_) (fun _ => wpAny_pure ⟨plainId_quiet PySem.F.plain_extend_loop _, go h2 I2 he2 hit2⟩)
  obtain ⟨_, js, m, r0, _, g2⟩ := I2.lstM hq2
  cases r0
  refine wpAny_bind (wpAny_rule (wpAny_bind ?_))
  show wpAny _ _ (updateSeq q (·.push .none) >>= fun _ => updateSeq q (·.pop)) _ _ _
  have g2' : h2.get? q = some { cls := .type "list", data := .seq #[] m } := g2
  have g3 := Heap.get?_update_self (Obj.mapSeq (·.push Value.none)) g2' rfl
  refine wpAny_bind (wpAny_updateSeq g2' rfl (wpAny_updateSeq g3 rfl ?_ (by show 1 ≤ sizeLine; rw [sizeLine_eq]; decide) (by show 0 ≤ sizeLine + 1; exact Nat.zero_le _)))
  have I3 := I2.lset (f := (·.push Value.none)) (its' := [Value.none]) (ys := [.non]) (t' := s.toks) hq2 g2 (by simp) (.cons rfl .nil) (by rw [List.length_singleton, sizeLine_eq]; decide)
  obtain ⟨_, js3, m3, r3, _, g4⟩ := I3.lstM upd_same
  obtain ⟨u3, rfl, ru3⟩ := r3.one
  have I4 := I3.lset (f := (·.pop)) (its := [u3]) (its' := []) (ys := []) (t' := s.toks) upd_same g4 (by rfl) .nil (Nat.zero_le _)
  rw [L2.upd_upd, L2.upd_upd] at I4
  exact wpAny_pure ⟨plainId_quiet PySem.F.plain_extend_loop _, go _ I4 (up _ _ _ _ neq (up _ _ _ _ neq he2)) (hit2.at fun o z => up _ _ _ _ niq (up _ _ _ _ niq z))⟩
end
end KL

namespace KL
open PySem PySem.Spec PyProof.Rows L2
/-! ### set(l) of a list of whole numbers, told by SetR (so that its members may be sorted) -/
abbrev Z0 (w : World) : Obj := { cls := .type "set", dict := none, data := .set #[] 0 (.fresh 0 0 (!w.params.followText "set-order")) }
abbrev HZ (w : World) (h : Heap) : Heap := h.push (Z0 w)
section
variable {P : Program} {w : World} {A : Around} {E : Value → Shared → Prop} {s : Shared} {l : Addr} {items : Array Value} {ns : List Int}
/-- what is left behind the set's own start -/
def ZEnd (w : World) (E : Value → Shared → Prop) (s : Shared) (ns : List Int) : Result → Shared → Prop := wants (fun r t => r = .none ∧ ∃ h' tk c, t = { s with heap := h', toks := tk } ∧ SetR w h' s.heap.objs.size (fun j => decide (j ∈ ns)) c ∧ c ≤ ns.length ∧ ∀ b o, s.heap.get? b = some o → h'.get? b = some o) E
theorem set_start (hh : A.handled = none) (hl : s.heap.IsList l items) (hit : IntsAre items.toList ns) (hb : ns.length + 1 < scanBound) :
    wpAny (model P w) A.in1 (Builtin.«set.__init__» ⟨[.ref s.heap.objs.size, .ref l], []⟩)
      (fun fin s' => match fin with | .done f => ZEnd w E s ns (.ok f) s' | .again c' => c'.quiet = true ∧ codeAny (model P w) A c' (ZEnd w E s ns) s') (fun e s' => ZEnd w E s ns (.error e) s') { s with heap := HZ w s.heap } := by
  have sz : items.size = ns.length := by
    have z := IntsAre.length hit
    rwa [Array.length_toList] at z
  obtain ⟨⟨oc, od, odt, osl⟩, g0, k0, nl, d0⟩ := hl
  obtain rfl : oc = .type "list" := k0
  obtain rfl : odt = .seq items nl := d0
  have g1 : (HZ w s.heap).get? l = some { cls := .type "list", dict := od, data := .seq items nl, slots := osl } := Heap.get?_push_of_some _ g0
  have gS : (HZ w s.heap).get? s.heap.objs.size = some (Z0 w) := Heap.get?_push_size _ rfl
  have hT : Shared.TypeIs { s with heap := HZ w s.heap } (.ref s.heap.objs.size) "set" := ⟨_, gS, rfl⟩
  have u1 := F.sub_list_set
  have u2 := F.sub_list_frozenset
  have u3 : (Value.type "list" == Value.type "dict") = false := by decide
  have isl : (HZ w s.heap).IsList l items := ⟨_, g1, rfl, nl, rfl⟩
  have lS : l < s.heap.objs.size := Heap.lt_size g0
  unfold Builtin.«set.__init__» noKeywords Builtin.Frozenset.updateFrom
  generalize hPI : pyIter = PI
  wp_walk
  subst hPI
  refine wpAny_pyIter_list isl (wpAny_bind (wpAny_runValue ?_))
  have nI : l ≠ (HZ w s.heap).objs.size := by
    rw [Heap.size_push]
    exact Nat.ne_of_lt (Nat.lt_succ_of_lt lS)
  have nS : s.heap.objs.size ∉ [(HZ w s.heap).objs.size, l] := by
    rw [Heap.size_push]
    simp only [List.mem_cons, List.not_mem_nil, or_false, not_or]
    exact ⟨Nat.ne_of_lt (Nat.lt_succ_self _), Nat.ne_of_gt lS⟩
  have vals : ∀ (i : Nat) (v : Value), items[i]? = some v → ∃ k t, ns[i]? = some k ∧ v = .int k t := fun i v hv => by
    have hi : i < ns.length := by
      obtain ⟨z, _⟩ := Array.getElem?_eq_some_iff.mp hv
      omega
    obtain ⟨t, e⟩ := IntsAre.int_at hit i v (by rw [Array.getElem?_toList]; exact hv)
    refine ⟨ns[i], t, List.getElem?_eq_getElem hi, e.trans ?_⟩
    rw [List.getD_eq_getElem?_getD, List.getElem?_eq_getElem hi]
    rfl
  refine set_update_ints ((Walks.list (show A.in1.in1.handled = none by simp [hh]) _ l nI items).toS) s.heap.objs.size nS ns sz hb vals (items.size - 0) 0 _ (by omega) (Nat.zero_le _) ⟨⟨_, Heap.get?_push_size _ rfl, rfl, rfl⟩, isl.push _⟩
    ⟨0, Nat.le_refl 0, setR_new_at (Heap.get?_push_of_some _ gS)⟩ fun s' c' hm hc' hS' => ?_
  obtain ⟨h', g2, d', tk', os'⟩ := s'
  obtain rfl : g2 = s.gens := hm.gens
  obtain rfl : d' = s.drawn := hm.drawn
  obtain rfl : os' = s.os := hm.os
  rw [sz] at hc'
  show wpAny _ _ _ _ _ _
  refine wpAny_pure (show wpAny _ _ (ret Value.none) _ _ _ from wpAny_pure ⟨rfl, h', tk', c', rfl, hS', hc', fun b o e => hm.heap b o ?_ (Heap.get?_push_of_some _ (Heap.get?_push_of_some _ e))⟩)
  have bl : b < s.heap.objs.size := Heap.lt_size e
  have bz : (HZ w s.heap).objs.size = s.heap.objs.size + 1 := Heap.size_push ..
  show b ∉ [s.heap.objs.size, (HZ w s.heap).objs.size]
  rw [bz]
  simp only [List.mem_cons, List.not_mem_nil, or_false, not_or]
  exact ⟨Nat.ne_of_lt bl, Nat.ne_of_lt (Nat.lt_succ_of_lt bl)⟩
theorem set_of_list {Q : Value → Shared → Prop} (hh : A.handled = none) (hl : s.heap.IsList l items) (hit : IntsAre items.toList ns) (hb : ns.length + 1 < scanBound)
    (k : ∀ (h' : Heap) (tk c : Nat), SetR w h' s.heap.objs.size (fun j => decide (j ∈ ns)) c → c ≤ ns.length → (∀ b o, s.heap.get? b = some o → h'.get? b = some o) → Q (.ref s.heap.objs.size) { s with heap := h', toks := tk }) :
    wpAny (model P w) A (call (.type "set") [.ref l]) Q E s := by
  obtain ⟨c0, tl, hmro⟩ := F.called_set.mro
  have v1 := F.called_set.made
  have v2 := F.called_set.sub
  refine wpAny_call (codeAny_of_tree (show wpAny _ _ (callAny (.type "set") _) _ _ _ from wpAny_pure ⟨Code.quiet_builtin _ (by decide +kernel), codeAny_builtin F.entry_type_call ?_⟩))
  rw [Around.under_plain (weight_type_call_type "set" [.ref l] []) rfl]
  have v3 := F.called_set.notType
  have v4 := F.called_set.canCreate
  have v5 := F.typeCall_set_1 (.ref l)
  repeat (any_goals (first | assumption | wp_step))
  refine codeAny_mono (code_set_led1 (.ref l) (E := E) (Q₁ := fun o t => o = .ref s.heap.objs.size ∧ t = { s with heap := HZ w s.heap }) ⟨rfl, rfl⟩) fun r t hr => ?_
  match r, hr with
  | .error e, hr => exact hr
  | .ok .next, hr => exact hr.elim
  | .ok .brk, hr => exact hr.elim
  | .ok .cont, hr => exact hr.elim
  | .ok (.ret o), ⟨e1, e2⟩ =>
    subst e1 e2
    have gS : (HZ w s.heap).get? s.heap.objs.size = some (Z0 w) := Heap.get?_push_size _ rfl
    have hT : Shared.TypeIs { s with heap := HZ w s.heap } (.ref s.heap.objs.size) "set" := ⟨_, gS, rfl⟩
    have v6 := F.called_set.init.lookup
    have v7 := F.called_set.init.bind (.ref s.heap.objs.size)
    repeat (any_goals (first | assumption | wp_step))
    refine codeAny_mono (codeAny_call_builtin F.called_set.init.plain F.entry_set_init (check_set_init_1 hT (set_start (P := P) (E := E) (A := A.in1) (by simp [hh]) hl hit hb))) fun r2 t2 h2 => ?_
    match r2, h2 with
    | .error e, h2 => exact h2
    | .ok .next, h2 => exact h2.elim
    | .ok .brk, h2 => exact h2.elim
    | .ok .cont, h2 => exact h2.elim
    | .ok (.ret r), ⟨e1, h', tk, c', e2, hS, hc, kp⟩ =>
      subst e1 e2
      repeat (any_goals (first | assumption | wp_step))
      exact k _ _ _ hS hc kp
end
end KL

namespace KR
open PySem L2
/-- list(enumerate(l)) -/
def tListEnum (K : PySem.W.Frag) (te : TE) : TE := fun σ H Q => te σ H fun x H1 => ∃ (a : Addr) (xs : List V), x = .ref a ∧ SqL K H1 a xs ∧ xs.length ≤ 1000 ∧
  ∀ (H' : Hp) (p : Addr) (ts : List Addr), Same H1 H' → H1 p = none → H' p = some (.lst (ts.map V.ref)) → ts.length = xs.length → (∀ i x, xs[i]? = some x → ∃ t, ts[i]? = some t ∧ H' t = some (.tup [.int (i : Nat), x])) → Q (.ref p) H'
theorem pe_listEnum {X : Cx} {K : PySem.W.Frag} {e : Expr} {te : TE} {p p2 pos pos2 : Pos} (hb : X.mg "list" = none) (hn : X.mg "enumerate" = none) (he : PE X e te) (hc : X.calm = true := by rfl) (hg : Gl X "list" := by rfl) (hg2 : Gl X "enumerate" := by rfl) (hK : X.K = K := by rfl)
    (hs : starEach [.Call (.Name "enumerate" p2) [e] [] pos2] X.env = (false, eval (.Call (.Name "enumerate" p2) [e] [] pos2) X.env) :: starEach [] X.env := by rfl)
    (hs2 : starEach [e] X.env = [(false, eval e X.env)] := by rfl) :
    PE X (.Call (.Name "list" p) [.Call (.Name "enumerate" p2) [e] [] pos2] [] pos) (tListEnum K te) := by
  subst hK
  refine ⟨fun pins s σ H Q I h => ?_⟩
  refine PyProof.Rows.Call_ (ld_blt I hg hb PyProof.Rows.boot_list (PyProof.Rows.callWith_type1 (PyProof.Rows.args_cons ?_ hs) hs rfl))
  refine PyProof.Rows.Call_ (ld_blt I hg2 hn PyProof.Rows.boot_enumerate (PyProof.Rows.callWith_type1 (PyProof.Rows.args_cons (thn (he.run pins s σ H _ I h) fun v s1 ⟨x, H1, I1, r1, q1⟩ => PyProof.Rows.args_nil ?_) hs2) hs2 rfl))
  obtain ⟨a, xs, rfl, hS, hz, k⟩ := q1
  cases r1
  obtain ⟨its, rv, pl, _⟩ := I1.list hS
  refine call_enumerate_list pl.isList fun h' hE hit hsz hk => PyProof.Rows.args_nil ?_
  have I2 : Inv X pins σ H1 { s1 with heap := h' } := I1.kept (t' := s1.toks) hk
  refine KL.en_list (I1.ok.hd hc) I2 hE hit (Nat.succ_ne_self _) (fun b hb => ?_) hS hz fun H' p ts sm hp hq ht => k H' p ts sm hp hq ht.1 fun i x hx => ht.2 i x (List.getElem?_eq_some_iff.mp hx).1 hx
  have hle : s1.heap.objs.size ≤ b := by
    have hb' : b = s1.heap.objs.size + 1 ∨ b = s1.heap.objs.size := by simpa using hb
    rcases hb' with z | z <;> rw [z] <;> omega
  exact I1.fpOk hle (I1.hok.fresh hle)
/-- sorted(set(l)) of whole numbers -/
def tSortedSet (K : PySem.W.Frag) (te : TE) : TE := fun σ H Q => te σ H fun x H1 => ∃ (a : Addr) (ns : List Int), x = .ref a ∧ SqL K H1 a (ns.map V.int) ∧ ns.length < 64 ∧
  ∀ (H' : Hp) (p : Addr) (ms : List Int), Same H1 H' → H1 p = none → H' p = some (.lst (ms.map V.int)) → ms.Pairwise (· < ·) → (∀ k, k ∈ ms ↔ k ∈ ns) → ms.length ≤ ns.length → Q (.ref p) H'
theorem pe_sortedSet {X : Cx} {K : PySem.W.Frag} {e : Expr} {te : TE} {p p2 pos pos2 : Pos} (hb : X.mg "sorted" = none) (hn : X.mg "set" = none) (he : PE X e te) (hc : X.calm = true := by rfl) (hg : Gl X "sorted" := by rfl) (hg2 : Gl X "set" := by rfl) (hK : X.K = K := by rfl)
    (hs : starEach [.Call (.Name "set" p2) [e] [] pos2] X.env = (false, eval (.Call (.Name "set" p2) [e] [] pos2) X.env) :: starEach [] X.env := by rfl)
    (hs2 : starEach [e] X.env = [(false, eval e X.env)] := by rfl) :
    PE X (.Call (.Name "sorted" p) [.Call (.Name "set" p2) [e] [] pos2] [] pos) (tSortedSet K te) := by
  subst hK
  refine ⟨fun pins s σ H Q I h => ?_⟩
  refine PyProof.Rows.Call_ (ld_blt I hg hb PyProof.Rows.boot_sorted (PyProof.Rows.callWith_builtin1 (PyProof.Rows.args_cons ?_ hs) hs rfl))
  refine PyProof.Rows.Call_ (ld_blt I hg2 hn PyProof.Rows.boot_set (PyProof.Rows.callWith_type1 (PyProof.Rows.args_cons (thn (he.run pins s σ H _ I h) fun v s1 ⟨x, H1, I1, r1, q1⟩ => PyProof.Rows.args_nil ?_) hs2) hs2 rfl))
  obtain ⟨a, ns, rfl, hS, hz, k⟩ := q1
  cases r1
  obtain ⟨its, rv, pl, _⟩ := I1.list hS
  have hi : PyProof.Rows.IntsAre its.toArray.toList ns := ints_of_vals rv
  refine KL.set_of_list (I1.ok.hd hc) pl.isList hi (by unfold scanBound; omega) fun h' tk c R1 hcn hk => PyProof.Rows.args_nil ?_
  have I2 : Inv X pins σ H1 { s1 with heap := h', toks := tk } := I1.kept hk
  refine sorted_set R1 (I1.ok.hd hc) (by omega) fun s' p out c2 ms k2 g o hp hgp hms hpw hm hl => ?_
  have fr : H1 p = none := I2.hok.fresh hp
  have hlen : (ms.map V.int).length ≤ sizeLine := by rw [List.length_map, hl, sizeLine_eq]; omega
  have J : Inv X pins σ (upd H1 p (.lst (ms.map V.int))) s' := I2.call' (ch := []) o (Un.laid k2 hp fr) (I2.hok.laid k2 hp ⟨hlen, out.toList, c2, vals_of_ints hms, hgp⟩) (by rw [g]; exact I2.bare) (fun _ z => nomatch z)
  exact ⟨.ref p, _, J, rfl, k _ p ms (Same.new fr) fr upd_same hpw (fun z => by rw [hm z, decide_eq_true_eq]) (by omega)⟩
section
variable {K : PySem.W.Frag} {te : TE} {σ : L2.St} {H : Hp} {Q : VK} {a : Addr}
theorem r_listEnum : tListEnum K te σ H Q = te σ H fun x H1 => ∃ (a : Addr) (xs : List V), x = .ref a ∧ SqL K H1 a xs ∧ xs.length ≤ 1000 ∧
  ∀ (H' : Hp) (p : Addr) (ts : List Addr), Same H1 H' → H1 p = none → H' p = some (.lst (ts.map V.ref)) → ts.length = xs.length → (∀ i x, xs[i]? = some x → ∃ t, ts[i]? = some t ∧ H' t = some (.tup [.int (i : Nat), x])) → Q (.ref p) H' := rfl
theorem r_sortedSet : tSortedSet K te σ H Q = te σ H fun x H1 => ∃ (a : Addr) (ns : List Int), x = .ref a ∧ SqL K H1 a (ns.map V.int) ∧ ns.length < 64 ∧
  ∀ (H' : Hp) (p : Addr) (ms : List Int), Same H1 H' → H1 p = none → H' p = some (.lst (ms.map V.int)) → ms.Pairwise (· < ·) → (∀ k, k ∈ ms ↔ k ∈ ns) → ms.length ≤ ns.length → Q (.ref p) H' := rfl
/-- the tuples of list(enumerate(l)), l of ints: the book en 0 l -/
theorem enum_prs {H' : Hp} {l : List Int} {ts : List Addr} (hl : ts.length = (l.map V.int).length) (h : ∀ i x, (l.map V.int)[i]? = some x → ∃ t, ts[i]? = some t ∧ H' t = some (.tup [.int (i : Nat), x])) : Prs H' (ts.map V.ref) (KM.en 0 l) := by
  have aux : ∀ (l : List Int) (ts : List Addr) (s : Nat), ts.length = l.length → (∀ i v, l[i]? = some v → ∃ t, ts[i]? = some t ∧ H' t = some (.tup [.int ((s + i : Nat) : Int), .int v])) → Prs H' (ts.map V.ref) (KM.en (s : Int) l) := by
    intro l
    induction l with
    | nil =>
      intro ts s hl _
      cases ts with
      | nil => exact .nil
      | cons _ _ => cases hl
    | cons v l ih =>
      intro ts s hl h
      cases ts with
      | nil => cases hl
      | cons t ts =>
        obtain ⟨t', e1, e2⟩ := h 0 v rfl
        have e1' : t = t' := Option.some.inj e1
        subst e1'
        refine .cons ⟨t, rfl, e2⟩ ?_
        have z := ih ts (s + 1) (Nat.succ.inj hl) fun i u hu => by
          obtain ⟨t2, f1, f2⟩ := h (i + 1) u hu
          refine ⟨t2, f1, ?_⟩
          have e : s + 1 + i = s + (i + 1) := by omega
          rw [e]
          exact f2
        have e : ((s + 1 : Nat) : Int) = (s : Int) + 1 := by omega
        rw [e] at z
        exact z
  rw [List.length_map] at hl
  have z := aux l ts 0 hl fun i v hv => by
    obtain ⟨t, f1, f2⟩ := h i (.int v) (by rw [List.getElem?_map, hv]; rfl)
    refine ⟨t, f1, ?_⟩
    rw [Nat.zero_add]
    exact f2
  exact z
end
section
variable {σ : L2.St} {H : Hp} {Q : VK} {te ta tb : TE} {tg : L2.St → Hp → (Int → Int → Hp → Prop) → Prop} {R : Int → Int → Hp → Prop}
theorem r_lstRg : tLstRg tg σ H Q = tg σ H fun a b H1 => RgOk a b ∧ ∀ q, H1 q = none → Q (.ref q) (upd H1 q (.lst (rgV a b))) := rfl
theorem r_rg2 : tRg2 ta tb σ H R = ta σ H fun x H1 => tb σ H1 fun y H2 => ∃ i j, x = .int i ∧ y = .int j ∧ R i j H2 := rfl
theorem r_ints2 {i j : Int} {P : Int → Int → Prop} : (∃ k l, V.int i = .int k ∧ V.int j = .int l ∧ P k l) ↔ P i j := ⟨fun ⟨_, _, e1, e2, h⟩ => by cases e1; cases e2; exact h, fun h => ⟨_, _, rfl, rfl, h⟩⟩
end
/-! ### books of stretches -/
theorem en_mem {s : Int} {l : List Int} {q : Int × Int} (h : q ∈ KM.en s l) : s ≤ q.1 ∧ q.1 < s + (l.length : Int) ∧ q.2 ∈ l := by
  obtain ⟨i, h1, h2⟩ := KM.mem_en.mp h
  have hi := (List.getElem?_eq_some_iff.mp h1).1
  exact ⟨by omega, by omega, List.mem_of_getElem? h1⟩
theorem placeOk_en {s x : Int} {l : List Int} (hl : l.length ≤ 44) (h : x < s ∨ s + (l.length : Int) ≤ x) (hx : (x - s).natAbs < 2 ^ 100) : PlaceOk (KM.en s l) x := by
  refine ⟨by rw [KM.en_length]; exact hl, fun q hq => ?_, fun q hq => ?_⟩
  · obtain ⟨h1, h2, _⟩ := en_mem hq
    omega
  · obtain ⟨h1, h2, _⟩ := en_mem hq
    omega
theorem en_asc : ∀ (l : List Int) (s : Int), (KM.en s l).Pairwise fun x y => x.1 < y.1
  | [], _ => .nil
  | v :: r, s => .cons (fun q hq => by
      have := (en_mem hq).1
      show s < q.1
      omega) (en_asc r (s + 1))
theorem bookOk_en {s : Int} {l : List Int} (hl : l.length ≤ 24) (hs : -(10 ^ 29) ≤ s ∧ s ≤ 10 ^ 29) (hv : ∀ v ∈ l, -(10 ^ 30) ≤ v ∧ v ≤ 10 ^ 30) : BookOk (KM.en s l) := by
  refine ⟨by rw [KM.en_length]; exact hl, fun q hq => ?_, en_asc l s⟩
  obtain ⟨h1, h2, h3⟩ := en_mem hq
  have := hv _ h3
  omega
theorem en_take (s : Int) : ∀ (l : List Int) (i : Nat), (KM.en s l).take i = KM.en s (l.take i)
  | [], i => by simp [KM.en]
  | v :: r, 0 => rfl
  | v :: r, i + 1 => by
    show (s, v) :: (KM.en (s + 1) r).take i = (s, v) :: KM.en (s + 1) (r.take i)
    rw [en_take (s + 1) r i]
/-- the t-th row of differences -/
def dRow (l : List Int) (t : Nat) : List Int := (List.range (l.length - t)).map fun i => KM.D t (KM.vf l) i
theorem dRow_0 (l : List Int) : dRow l 0 = l := by
  unfold dRow
  refine List.ext_getElem? fun i => ?_
  rw [List.getElem?_map]
  cases e : l[i]? with
  | none =>
    have h : l.length ≤ i := List.getElem?_eq_none_iff.mp e
    rw [List.getElem?_eq_none (by rw [List.length_range]; omega)]
    rfl
  | some v =>
    have h : i < l.length := (List.getElem?_eq_some_iff.mp e).1
    rw [List.getElem?_eq_getElem (by rw [List.length_range]; omega), List.getElem_range]
    show some (KM.vf l i) = some v
    unfold KM.vf
    rw [List.getD_eq_getElem?_getD, e]
    rfl
theorem dRow_length (l : List Int) (t : Nat) : (dRow l t).length = l.length - t := by
  unfold dRow
  rw [List.length_map, List.length_range]
theorem dRow_get (l : List Int) (t i : Nat) (h : i < l.length - t) : (dRow l t)[i]? = some (KM.D t (KM.vf l) i) := by
  unfold dRow
  rw [List.getElem?_map, List.getElem?_eq_getElem (by rw [List.length_range]; exact h), List.getElem_range]
  rfl
theorem range_more {α : Type} (f : Nat → α) (i : Nat) : (List.range (i + 1)).map f = (List.range i).map f ++ [f i] := by
  rw [List.range_succ, List.map_append]
  rfl
end KR

namespace KR
open PySem L2
/-! ### sizes -/
theorem bits_le {x : Int} {b : Nat} (h0 : 0 < b) (h : x.natAbs < 2 ^ b) : Builtin.Int.intBits x ≤ b := by
  have z := PySem.Flt.log2_lt_of h0 h
  unfold Builtin.Int.intBits
  split <;> omega
theorem cp10 {k : Int} (h0 : 0 ≤ k) (h : k ≤ 1000) : CPowW 10 k := by
  have z : Builtin.Int.intBits 10 ≤ 4 := bits_le (by decide) (by decide)
  refine ⟨h0, ?_⟩
  have z2 : (Builtin.Int.intBits 10 : Int) * k ≤ 4 * k := Int.mul_le_mul_of_nonneg_right (by omega) h0
  omega
theorem cp3 {i : Int} (h : i.natAbs < 2 ^ 1000) : CPowW i 3 := by
  have z : Builtin.Int.intBits i ≤ 1000 := bits_le (by decide) h
  refine ⟨by decide, ?_⟩
  omega
theorem mulS {i j : Int} (hi : i.natAbs < 2 ^ 200) (hj : j.natAbs < 2 ^ 200) : CMulW i j := mulW 200 200 hi hj
/-! ### places of lists -/
theorem atI_ints (l : List Int) {r : Int} (h0 : 0 ≤ r) (h1 : r < l.length) : ∃ v, v ∈ l ∧ atI (l.map V.int) r = some (.int v) := by
  have hr : r.toNat < l.length := by omega
  refine ⟨l[r.toNat], List.getElem_mem hr, atM (j := r.toNat) (by omega) (List.getElem?_eq_getElem hr)⟩
theorem atI_getD (l : List Int) {r : Int} (h0 : 0 ≤ r) (h1 : r < l.length) : atI (l.map V.int) r = some (.int (l.getD r.toNat 0)) := by
  have hr : r.toNat < l.length := by omega
  refine atM (j := r.toNat) (by omega) ?_
  rw [List.getD_eq_getElem?_getD, List.getElem?_eq_getElem hr]
  rfl
/-! ### the purse and the rest -/
theorem off_keep {p q : Addr} {H H1 : Hp} (e : off p H1 = off p H) (h : q ≠ p) : H1 q = H q := by
  have z := congrFun e q
  rw [off_ne h, off_ne h] at z
  exact z
theorem same_of {H H' : Hp} (e : H' = H) : Same H H' := by rw [e]; exact Same.refl _
theorem PurseAt.ne {H : Hp} {p q : Addr} {n : Nat} (hp : PurseAt H p n) (h : H q = none) : q ≠ p := by
  obtain ⟨a, b, c, e, _⟩ := hp
  exact (ne_of_none e h).symm
theorem grow_new {H0 H : Hp} {p q : Addr} {o : HO} (s : Same (off p H0) (off p H)) (h : H q = none) : Same (off p H0) (off p (upd H q o)) := s.trans (Same.off (Same.new h))
theorem grow_mut {G H : Hp} {p q : Addr} {o : HO} (s : Same G (off p H)) (h : G q = none) (hq : q ≠ p) : Same G (off p (upd H q o)) := by
  rw [off_upd_ne hq]
  exact Same.mut s h
theorem PurseAt.upd {H : Hp} {p q : Addr} {n : Nat} {o : HO} (hp : PurseAt H p n) (hq : q ≠ p) : PurseAt (upd H q o) p n := by
  obtain ⟨a, b, c, e, r⟩ := hp
  exact ⟨a, b, c, by rw [upd_ne (Ne.symm hq)]; exact e, r⟩
theorem BkAt.of_off {H : Hp} {p a : Addr} {l : Bk} (h : BkAt (off p H) a l) : BkAt H a l := h.mono off_sub
theorem RowAt.of_off {H : Hp} {p a : Addr} {R : Rw} (h : RowAt (off p H) a R) : RowAt H a R := h.mono off_sub
theorem IL.of_off {H : Hp} {p a : Addr} {l : List Int} (h : IL (off p H) a l) : IL H a l := h.mono off_sub
/-- a statement ahead of another one, whose reading is hidden -/
theorem seq_opaque {ts us : TS} {D : Ends} {σ : L2.St} {H : Hp} (h : ∀ U : L2.St → Hp → Prop, (∀ σ' H', us D σ' H' → U σ' H') → ts { D with nx := U } σ H) : tSeq ts us D σ H := h (us D) fun _ _ h => h
/-! ### a row's values -/
theorem ff_bound {x : Int} {b : Nat} : ∀ (k : Nat), (∀ t : Nat, t < k → (x - (t : Int)).natAbs ≤ 2 ^ b) → (KM.ff x k).natAbs ≤ 2 ^ (b * k)
  | 0, _ => by
    rw [Nat.mul_zero]
    show (1 : Int).natAbs ≤ 2 ^ 0
    decide
  | k + 1, h => by
    show (KM.ff x k * (x - (k : Int))).natAbs ≤ _
    rw [Int.natAbs_mul, Nat.mul_succ, Nat.pow_add]
    exact Nat.mul_le_mul (ff_bound k fun t ht => h t (by omega)) (h k (by omega))
theorem fac_small {k : Nat} (h : k ≤ 9) : (KM.fac k).natAbs < 2 ^ 60 := by
  have z : ∀ k : Fin 10, (KM.fac k.1).natAbs < 2 ^ 60 := by decide
  exact z ⟨k, by omega⟩
theorem ring_bin (w x : Int) (k : Nat) : w * KM.ff x k / KM.fac k = w * KM.bin x k := by
  have hp := KM.fac_pos k
  rw [← KM.bin_eq, Int.mul_comm w, Int.mul_assoc, Int.mul_ediv_cancel_left _ (by omega), Int.mul_comm]
theorem Prs.set {H : Hp} {v : V} {q : Int × Int} (e : IsTp H v q) : ∀ {xs : List V} {l : Bk} (i : Nat), Prs H xs l → Prs H (xs.set i v) (l.set i q)
  | _, _, _, .nil => .nil
  | _, _, 0, .cons _ t => .cons e t
  | _, _, i + 1, .cons r t => .cons r (Prs.set e i t)
theorem bent_set {l l' : Bk} (hB : Bent l l') {j : Nat} (hj : j < l'.length) {v : Int} (hv : -(10 ^ 30) ≤ v ∧ v ≤ 10 ^ 30) : Bent l (l'.set j ((l'.getD j (0, 0)).1, v)) := by
  have gs : ∀ i, (l'.set j ((l'.getD j (0, 0)).1, v)).getD i (0, 0) = if i = j then ((l'.getD j (0, 0)).1, v) else l'.getD i (0, 0) := fun i => by
    by_cases e : i = j
    · rw [if_pos e, e, List.getD_eq_getElem?_getD, List.getElem?_set_self hj]
      rfl
    · rw [if_neg e, List.getD_eq_getElem?_getD, List.getElem?_set_ne (Ne.symm e), ← List.getD_eq_getElem?_getD]
  refine ⟨by rw [List.length_set]; exact hB.len, fun i hi => ?_, fun i hi => ?_⟩
  · rw [gs]
    by_cases e : i = j
    · rw [if_pos e, ← hB.pl i hi, e]
    · rw [if_neg e]; exact hB.pl i hi
  · rw [gs]
    by_cases e : i = j
    · rw [if_pos e]; exact .inr hv
    · rw [if_neg e]; exact hB.val i hi
theorem inV_ints (z : Int) : ∀ l : List Int, inV (.int z) (l.map V.int) = decide (z ∈ l)
  | [] => by simp [inV]
  | a :: l => by
    have ih := inV_ints z l
    unfold inV at ih ⊢
    rw [List.map_cons, List.any_cons, ih]
    show ((a == z) || _) = _
    by_cases h : a = z
    · simp [h]
    · have h' : ¬ z = a := fun e => h e.symm
      simp [h, h']
theorem flat_ints : ∀ l : List Int, (l.map V.int).all flatV = true
  | [] => rfl
  | a :: l => by
    rw [List.map_cons, List.all_cons, flat_ints l]
    rfl
theorem notInL {K : PySem.W.Frag} {H : Hp} {a : Addr} {l : List Int} {z : Int} {Q : VK} (h : H a = some (.lst (l.map V.int))) (q : Q (.bl (!decide (z ∈ l))) H) : rIn K true (.int z) (.ref a) H Q :=
  ⟨a, _, rfl, .inl (SqL.of h), rfl, flat_ints l, by rw [inV_ints]; exact q⟩
end KR

namespace KR
open PySem L2 PyProof.Rows
/-- what the top has written of Unfit, at C, and its base -/
structure TxtX (K : PySem.W.Frag) (mg : Str → Option Value) (C : Addr) : Prop where
  gC : mg "Unfit" = some (.ref C)
  ox : OexC K C
  xf : XfC K C
  n1 : PySem.W.findIn K (.ref C) "first" = some none
  n2 : PySem.W.findIn K (.ref C) "second" = some none
  te : PySem.W.exmOne K (.ref C) (.ref C) = some true
  ini : ∃ (fI : Addr) (fd : FuncData), PySem.W.findIn K (.ref C) "__init__" = some (some (.ref fI)) ∧ PySem.W.typeIn K (.ref fI) = some (.type "function") ∧ Fun K "__init__" "Unfit.__init__" (inClass (topS 5) 0) fI fd ∧ Binds K fd ["self", "first", "second"] []
  re : ∃ R : Addr, mg "RestError" = some (.ref R) ∧ PySem.W.specialIn K (.ref R) "__getattribute__" = some (some (.builtin "type.__getattribute__")) ∧ PySem.W.typeIn K (.ref R) = some (.type "type") ∧ PySem.W.readsIn K R (.type "type") = true ∧
    PySem.W.findCls K (.ref R) (.type "type") "__init__" = some (.val (.builtin "ValueError.__init__"))
/-- R.__init__(self, ..), R an own class over ValueError -/
theorem pe_reinit {X : Cx} {x : Str} {R : Addr} {e : Expr} {es : List Expr} {ta : TA} {p1 p2 pos : Pos} {pl : Sem Bool} (hm : X.mg x = some (.ref R)) (hga : PySem.W.specialIn X.K (.ref R) "__getattribute__" = some (some (.builtin "type.__getattribute__")))
    (hty : PySem.W.typeIn X.K (.ref R) = some (.type "type")) (hrd : PySem.W.readsIn X.K R (.type "type") = true) (hfc : PySem.W.findCls X.K (.ref R) (.type "type") "__init__" = some (.val (.builtin "ValueError.__init__"))) (ha : PA X (e :: es) ta) (hg : Gl X x := by rfl) (hdb : (x == ("__debug__" : Str)) = false := by decide)
    (hc : eval (.Call (.Attribute (.Name x p1) "__init__" p2) (e :: es) [] pos) X.env = (do
      let ov ← eval (.Name x p1) X.env
      standAt p2.atName
      let (f, first) ← holding [ov] (getMethod ov "__init__" pl)
      callWith pos f first (backTo pos (starEach (e :: es) X.env)) (backToKw pos (keywordEach [] X.env))) := by rfl)
    (he : starEach (e :: es) X.env = (false, eval e X.env) :: starEach es X.env := by rfl) (hpl : (backTo pos (starEach es X.env)).any (·.1) = false := by rfl) :
    PE X (.Call (.Attribute (.Name x p1) "__init__" p2) (e :: es) [] pos) (tVeI X.K ta) := by
  refine ⟨fun pins s σ H Q I h => ?_⟩
  refine PySem.W.methodCall_KW (ld_glob I hg hm ?_ hdb) hc
  obtain ⟨m, fr⟩ := I.fr
  refine PySem.W.method_of_cls fr I.ok.mod.kin hga (PySem.W.cls_val fr I.ok.mod.kin hty hrd hfc (by decide +kernel) ?_)
  show wpAny _ _ (callWith pos (Value.builtin "ValueError.__init__") [] (backTo pos (starEach (e :: es) X.env)) []) _ _ _
  refine PyProof.Rows.callWith_method1 (thn (ha.run pos pins _ σ H _ (I.tok _) h) fun us s1 ⟨vs, H1, I1, r1, a, C, ws, ev, hl, T, ea, q⟩ => ?_) he hpl
  subst ev
  cases r1 with
  | @cons _ u0 _ ur ra rw' =>
    obtain rfl : u0 = Value.ref a := ra
    have hlen : ur.length ≤ sizeLine := by
      rw [← Paired.length rw', sizeLine_eq]
      omega
    exact oinit_ok T I1 ea hlen fun s' J => ⟨.non, H1, J, rfl, q⟩
/-- Unfit's own __init__ -/
def spUInit (C : Addr) : Sp := fun vs H Q _ => ∃ (a : Addr) (i j : Int), vs = [.ref a, .int i, .int j] ∧ H a = some (exo a C none) ∧
  ∀ dx, H dx = none → dx ≠ a → Q .non (upd (upd (upd H dx (exd dx [("first", .int i)])) a (exo a C (some dx))) dx (exd dx [("second", .int j), ("first", .int i)]))
section
variable {P : Program} {w : World} {K : PySem.W.Frag} {mg : Str → Option Value} {base : Heap} {C : Addr}
theorem sc_uinit : FnScope ["self", "first", "second"] ["self", "first", "second"] (defScope (inClass (topS 5) 0)) := ⟨rfl, rfl, rfl, by decide +kernel, rfl, by decide +kernel, by decide +kernel⟩
theorem ok_uinit (TX : TxtX K mg C) {fI : Addr} {fd : FuncData} (F : Fun K "__init__" "Unfit.__init__" (inClass (topS 5) 0) fI fd) : FnOk P w K mg base CX0 1 fI fd ["self", "first", "second"] (spUInit C) := by
  obtain ⟨R, hm, hga, hty, hrd, hfc⟩ := TX.re
  refine F.ok sc_uinit (fun vs H Q E h => ?_) (fun cdv A outer s H vs Q E hr h => ?_)
  · obtain ⟨a, i, j, rfl, _⟩ := h
    rfl
  · obtain ⟨a, i, j, rfl, ha, k⟩ := h
    refine ⟨_, pss_cons (ps_expr (pe_reinit hm hga hty hrd hfc (pa_cons (pv 0) (pa_cons pe_str pa_nil)))) (pss_cons (ps_ost (pv 0) (pv 1)) (pss_one (ps_ost (pv 0) (pv 2)))), ?_⟩
    refine ⟨_, rfl, a, C, _, rfl, by decide, TX.ox, ha, ?_⟩
    refine ⟨_, rfl, _, rfl, a, C, rfl, TX.ox, TX.n1, .inl ⟨ha, fun dx hdx hne => ?_⟩⟩
    refine ⟨_, rfl, _, rfl, a, C, rfl, TX.ox, TX.n2, .inr ⟨dx, _, upd_same, (upd_ne hne).trans upd_same, by show 1 ≤ 900; decide, ?_⟩⟩
    exact k dx hdx hne
end
/-! ### what stands beside the purse -/
theorem tup_off {H : Hp} {p t : Addr} {n : Nat} {xs : List V} (hp : PurseAt H p n) (h : H t = some (.tup xs)) : off p H t = some (.tup xs) := by
  obtain ⟨a, b, c, e, _⟩ := hp
  rw [off_ne (ne_of h e (by intro z; cases z))]
  exact h
theorem Prs.to_off {H : Hp} {p : Addr} {n : Nat} (hp : PurseAt H p n) : ∀ {xs : List V} {l : Bk}, Prs H xs l → Prs (off p H) xs l
  | _, _, .nil => .nil
  | _, _, .cons ⟨t, e, h⟩ r => .cons ⟨t, e, tup_off hp h⟩ (Prs.to_off hp r)
theorem BkAt.to_off {H : Hp} {p a : Addr} {n : Nat} {l : Bk} (hp : PurseAt H p n) (ha : a ≠ p) : BkAt H a l → BkAt (off p H) a l := fun ⟨xs, h, q⟩ => ⟨xs, by rw [off_ne ha]; exact h, q.to_off hp⟩
theorem CV.to_off {H : Hp} {p : Addr} {n : Nat} {v : V} (hp : PurseAt H p n) : ∀ {l : List (Nat × Nat)}, CV H v l → CV (off p H) v l
  | [], h => h
  | _ :: _, ⟨t, e, h⟩ => ⟨t, e, tup_off hp h⟩
theorem CV.none_iff {H : Hp} {v : V} : ∀ {l : List (Nat × Nat)}, CV H v l → (v = .non ↔ l = [])
  | [], h => ⟨fun _ => rfl, fun _ => h⟩
  | q :: r, ⟨t, e, h⟩ => ⟨fun z => (by rw [e] at z; cases z), fun z => (by cases z)⟩
theorem two_prs {H : Hp} {a t1 t2 : Addr} {q1 q2 : Int × Int} (h : H a = some (.lst [.ref t1, .ref t2])) (h1 : H t1 = some (.tup [.int q1.1, .int q1.2])) (h2 : H t2 = some (.tup [.int q2.1, .int q2.2])) : BkAt H a [q1, q2] :=
  ⟨_, h, .cons ⟨t1, rfl, h1⟩ (.cons ⟨t2, rfl, h2⟩ .nil)⟩
end KR

namespace KR
open PySem L2 PyProof.Rows
/-- what «except S» names holds of S itself -/
theorem exm_same {K : PySem.W.Frag} {S : Addr} (hB : PySem.W.subIn K (.ref S) (.type "BaseException") = some true) (hI : PySem.W.isClsIn K S = true) (hT : PySem.W.typeIn K (.ref S) = some (.type "type")) (hS : PySem.W.subIn K (.ref S) (.ref S) = some true) :
    PySem.W.exmOne K (.ref S) (.ref S) = some true := by
  unfold PySem.W.isClsIn at hI
  simp [PySem.W.exmOne, PySem.W.kitCls, hB, hI, hT, hS]
/-- a def with the default 40 -/
theorem dfnD_mk {K : PySem.W.Frag} {mg : Str → Option Value} {x : Str} {st : Stmt} {ps : List Str} {f T : Addr} {oc dc pm cd ct kV : Value} {od an : Option Addr} {sl : Array (Option Value)} {o : Obj} {t : Tok} {m : Nat} (hm : mg x = some (.ref f))
    (hl : K.lookup f = some ⟨oc, od, .func (PySem.W.fnOf x x (defArgs st) (defBody st) (defScope st) (.ref T) kV dc pm an cd ct), sl⟩) (hc : PySem.W.codeIn K cd x = true) (hk : PySem.W.keepIn K (.ref f) = true) (hT : K.lookup T = some o) (hd : o.data = .seq #[.int 40 t] m)
    (n : Nat) (hn : n + 1 = ps.length)
    (h2 : ∀ (T : Addr) (kV doc pm : Value) (an : Option Addr) (cdv ct : Value) (us its : List Value), us.length = n + 1 → its.length = 1 → ∃ k, bindArgs (PySem.W.fnOf x x (defArgs st) (defBody st) (defScope st) (.ref T) kV doc pm an cdv ct) ⟨us, []⟩ = seqItems? (.ref T) >>= k ∧ k (some its.toArray) = pure (ps.zip (us ++ its.drop 1)))
    (h1 : ∀ (T : Addr) (kV doc pm : Value) (an : Option Addr) (cdv ct : Value) (us its : List Value), us.length = n → its.length = 1 → ∃ k, bindArgs (PySem.W.fnOf x x (defArgs st) (defBody st) (defScope st) (.ref T) kV doc pm an cdv ct) ⟨us, []⟩ = seqItems? (.ref T) >>= k ∧ k (some its.toArray) = pure (ps.zip (us ++ its.drop 0))) :
    DfnD K mg x st ps := by
  have F : FunD K x x (defArgs st) (defBody st) (defScope st) [.int 40] [] f _ := ⟨⟨oc, od, _, kV, dc, pm, an, cd, ct, sl, rfl, hl, hc, .inr ⟨(fun z => nomatch z), T, o, [.int 40 t], m, rfl, hT, hd, .cons ⟨t, rfl⟩ .nil⟩, .inl rfl⟩, hk⟩
  obtain ⟨ds, hv, b2⟩ := F.binds1 (ps := ps) (n + 1) 1 (fun z => nomatch z) (by rw [← hn]; rfl) h2
  obtain ⟨es, hw, b1⟩ := F.binds1 (ps := ps) n 0 (fun z => nomatch z) (by rw [← hn]; rfl) h1
  cases hv
  cases hw with
  | cons r rr =>
    cases rr
    obtain ⟨t', rfl⟩ := r
    exact ⟨f, _, t', hm, F, b2, b1⟩
/-! ### how great a row's values are -/
def SN : Nat → (Nat → Nat) → Nat
  | 0, _ => 0
  | n + 1, f => SN n f + f n
theorem SN_mono (f : Nat → Nat) : ∀ {n m : Nat}, n ≤ m → SN n f ≤ SN m f := by
  intro n m h
  induction h with
  | refl => exact Nat.le_refl _
  | step _ ih => exact Nat.le_trans ih (Nat.le_add_right _ _)
theorem S_le {f : Nat → Int} {g : Nat → Nat} : ∀ n : Nat, (∀ k, k < n → (f k).natAbs ≤ g k) → (KM.S n f).natAbs ≤ SN n g
  | 0, _ => Nat.le_refl _
  | n + 1, h => by
    have ih := S_le n fun k hk => h k (Nat.lt_succ_of_lt hk)
    have z := h n (Nat.lt_succ_self n)
    show (KM.S n f + f n).natAbs ≤ SN n g + g n
    exact Nat.le_trans (Int.natAbs_add_le _ _) (Nat.add_le_add ih z)
theorem ff_le {x : Int} {B : Nat} : ∀ k : Nat, (∀ t : Nat, t < k → (x - (t : Int)).natAbs ≤ B) → (KM.ff x k).natAbs ≤ B ^ k
  | 0, _ => Nat.le_refl _
  | k + 1, h => by
    show (KM.ff x k * (x - (k : Int))).natAbs ≤ _
    rw [Int.natAbs_mul, Nat.pow_succ]
    exact Nat.mul_le_mul (ff_le k fun t ht => h t (Nat.lt_succ_of_lt ht)) (h k (Nat.lt_succ_self k))
theorem bin_le {x : Int} {B k : Nat} (h : ∀ t : Nat, t < k → (x - (t : Int)).natAbs ≤ B) : (KM.bin x k).natAbs ≤ B ^ k := by
  have e := congrArg Int.natAbs (KM.bin_eq x k)
  rw [Int.natAbs_mul] at e
  have p : 1 ≤ (KM.fac k).natAbs := by
    have := KM.fac_pos k
    omega
  have z : 1 * (KM.bin x k).natAbs ≤ (KM.fac k).natAbs * (KM.bin x k).natAbs := Nat.mul_le_mul_right _ p
  have y := ff_le (x := x) (B := B) k h
  omega
def cap (top far : Nat) (k : Nat) : Nat := (if k = 0 then 10 ^ 28 else top) * (KM.W k * (far + 100) ^ k)
theorem cap_ok : ∀ s ∈ styles, SN (s.2.2 + 1) (cap s.1.toNat s.2.1.toNat) ≤ 10 ^ 30 ∧ 0 ≤ s.1 ∧ s.2.2 ≤ 8 ∧ 12 ≤ s.2.1 := by decide +kernel
theorem row_bound {R : Rw} (h : RwOk R) {x : Int} (h1 : -30 ≤ x) (h2 : x ≤ R.far + 23) : -(10 ^ 30) ≤ KM.row R.own R.sh x ∧ KM.row R.own R.sh x ≤ 10 ^ 30 := by
  obtain ⟨top, deg, hs, l1, l2, o0, ok⟩ := h.by_
  obtain ⟨c1, c2, c3, c4⟩ := cap_ok _ hs
  have c1 : SN (deg + 1) (cap top.toNat R.far.toNat) ≤ 10 ^ 30 := c1
  have c2 : 0 ≤ top := c2
  have c3 : deg ≤ 8 := c3
  have c4 : 12 ≤ R.far := c4
  have sh := h.sh
  have z : (KM.row R.own R.sh x).natAbs ≤ SN R.own.length (cap top.toNat R.far.toNat) := by
    refine S_le _ fun k hk => ?_
    rw [Int.natAbs_mul, Int.natAbs_mul, Int.natAbs_natCast]
    unfold cap
    refine Nat.mul_le_mul ?_ (Nat.mul_le_mul_left _ (bin_le fun t ht => by omega))
    by_cases e : k = 0
    · rw [if_pos e, e]
      omega
    · rw [if_neg e]
      have := ok k (by omega) hk
      omega
  have y := SN_mono (cap top.toNat R.far.toNat) (show R.own.length ≤ deg + 1 from l2)
  omega
theorem same_behind {H H1 H2 : Hp} {p : Addr} (s : Same H H1) (h : H p = none) (g : Same (off p H1) (off p H2)) : Same H H2 := fun a o e => by
  have n : a ≠ p := ne_of_none e h
  have z : off p H1 a = some o := by
    rw [off_ne n]
    exact s _ _ e
  exact (off_some (g _ _ z)).2
end KR

namespace KR
open PySem L2
local macro_rules | `(tactic| walk_at "rd") => `(tactic| try simp only [r_var, r_c, r_op, r_un, r_rI, r_rI0, r_rU, r_eq, r_ne, r_neB, r_test, r_tB, r_isbl, r_some, r_chain, r_and, r_or, r_not, r_andV, r_orV, r_notV, r_if, r_nil, r_cons, r_tup, r_lst, r_call, r_callB, r_bm, r_sl, r_noPart, r_part, r_isint, r_isref, r_yes,
  r_seq, r_next, r_asg, r_par, r_two, r_par3, r_three, r_ret, r_retN, r_ifS, r_drop, r_never, r_gName, r_gNil, r_gCons, r_gSub, r_for, r_lc, r_abs, r_max2, r_min2, r_int1, r_revL, r_iList, r_iTup, r_iRng1, r_iRng2, r_l1, r_l2, sz0, sz1, sz2, sz3, sz4, sz5, sz6, sz8, true_and, r_iEnum, r_iZip, r_listEnum, r_sortedSet, Int.reduceToNat, r_lstRg, r_rg2, r_ints2, List.getElem?_cons_zero, List.getElem?_cons_succ, List.set_cons_zero, List.set_cons_succ, List.append_nil, List.cons_append, List.nil_append, Bool.not_true, Bool.not_false, if_true, if_false, Bool.false_eq_true, wipe])
local macro_rules | `(tactic| walk_at "st") => `(tactic| simp only [L2.start, List.map_cons, List.map_nil, List.length_cons, List.length_nil, Nat.reduceAdd, Nat.reduceSub, Nat.zero_add, List.replicate_succ, List.replicate_zero, List.cons_append, List.nil_append, List.append_nil])
section
variable {P : Program} {w : World} {K : PySem.W.Frag} {mg : Str → Option Value} {base : Heap}

theorem sc_is_integer : FnScope ["thing"] ["thing"] (defScope (topS 9)) := ⟨rfl, rfl, rfl, by decide +kernel, rfl, by decide +kernel, by decide +kernel⟩
theorem ok_is_integer (T : Txt K mg) (dn : Dfn K mg "is_integer" (topS 9) ["thing"]) : Has P w K mg base "is_integer" 1 ["thing"] spIsInt := by
  refine dn.has fun f fd F => ?_
  have nd := sc_is_integer.nd
  refine F.ok sc_is_integer (fun vs H Q E h => ?_) (fun cdv A outer s H vs Q E hr h => ?_)
  · obtain ⟨i, rfl, k⟩ := h
    rfl
  · obtain ⟨i, rfl, k⟩ := h
    refine ⟨_, 
      (pss_one (ps_ret (pe_and (pe_callB (call_isiK' (K := K)) (by rfl) T.b_isinstance (by decide +kernel) (pa_cons (pv 0) (pa_cons (pe_bltn (v := .ty "int") rfl T.b_int (by decide +kernel) rfl) pa_nil))) (pe_one (pe_not (pe_callB (call_isiK' (K := K)) (by rfl) T.b_isinstance (by decide +kernel) (pa_cons (pv 0) (pa_cons (pe_bltn (v := .ty "bool") rfl T.b_bool (by decide +kernel) rfl) pa_nil)))))))), ?_⟩
    walk_at "st"
    walk_at "rd"
    refine ⟨_, _, _, _, true, rfl, .ty _, .base (.int _), kit_ty (by decide +kernel), ?_⟩
    walk_at "rd"
    refine ⟨_, _, _, _, false, rfl, .ty _, .base (.int _), kit_ty (by decide +kernel), ?_⟩
    walk_at "rd"
    exact k
theorem sc_is_told : FnScope ["thing"] ["thing"] (defScope (topS 10)) := ⟨rfl, rfl, rfl, by decide +kernel, rfl, by decide +kernel, by decide +kernel⟩
theorem ok_is_told (T : Txt K mg) (dn : Dfn K mg "is_told" (topS 10) ["thing"]) (h_is_integer : Has P w K mg base "is_integer" 1 ["thing"] spIsInt) : Has P w K mg base "is_told" 2 ["thing"] spTold := by
  refine dn.has fun f fd F => ?_
  have nd := sc_is_told.nd
  refine F.ok sc_is_told (fun vs H Q E h => ?_) (fun cdv A outer s H vs Q E hr h => ?_)
  · obtain ⟨i, rfl, h1, h2, k⟩ := h
    rfl
  · obtain ⟨i, rfl, h1, h2, k⟩ := h
    refine ⟨_, 
      (pss_one (ps_ret (pe_and (pe_has h_is_integer (hr.mono (by decide)) (pa_cons (pv 0) pa_nil)) (pe_one (pe_chain op_le op_le (pe_un un_neg (pe_gi T.c_MOST)) (pv 0) (pe_gi T.c_MOST)))))), ?_⟩
    walk_at "st"
    walk_at "rd"
    refine ⟨_, rfl, ?_⟩
    walk_at "rd"
    have e1 : decide (-(10 ^ 30 : Int) ≤ i) = true := decide_eq_true h1
    have e2 : decide (i ≤ (10 ^ 30 : Int)) = true := decide_eq_true h2
    simp only [e1, e2, if_true]
    exact k
theorem sc_is_item : FnScope ["thing"] ["thing"] (defScope (topS 11)) := ⟨rfl, rfl, rfl, by decide +kernel, rfl, by decide +kernel, by decide +kernel⟩
theorem ok_is_item (T : Txt K mg) (dn : Dfn K mg "is_item" (topS 11) ["thing"]) (h_is_told : Has P w K mg base "is_told" 2 ["thing"] spTold) : Has P w K mg base "is_item" 3 ["thing"] spItem := by
  refine dn.has fun f fd F => ?_
  have nd := sc_is_item.nd
  refine F.ok sc_is_item (fun vs H Q E h => ?_) (fun cdv A outer s H vs Q E hr h => ?_)
  · obtain ⟨t, a, b, rfl, h1, ⟨ha1, ha2, hb1, hb2⟩, k⟩ := h
    rfl
  · obtain ⟨t, a, b, rfl, h1, ⟨ha1, ha2, hb1, hb2⟩, k⟩ := h
    refine ⟨_, 
      (pss_one (ps_ret (pe_and (pe_callB (call_isiK' (K := K)) (by rfl) T.b_isinstance (by decide +kernel) (pa_cons (pv 0) (pa_cons (pe_bltn (v := .ty "tuple") rfl T.b_tuple (by decide +kernel) rfl) pa_nil))) (pe_and (pe_cmpR op_eq (pe_callB (call_lenK (K := K)) (by rfl) T.b_len (by decide +kernel) (pa_cons (pv 0) pa_nil)) pe_int (nomark _)) (pe_and (pe_has h_is_told (hr.mono (by decide)) (pa_cons (pe_ix (ix_tupK (K := K)) (pv 0) pe_int (fun _ _ => rfl)) pa_nil)) (pe_one (pe_has h_is_told (hr.mono (by decide)) (pa_cons (pe_ix (ix_tupK (K := K)) (pv 0) pe_int (fun _ _ => rfl)) pa_nil)))))))), ?_⟩
    walk_at "st"
    walk_at "rd"
    refine ⟨_, _, _, _, true, rfl, .ty _, .base (.tup h1), kit_ty (by decide +kernel), ?_⟩
    walk_at "rd"
    refine lenT h1 ?_
    walk_at "rd"
    refine ifT rfl ?_
    refine ixT h1 rfl ?_
    refine ⟨a, rfl, ha1, ha2, ?_⟩
    walk_at "rd"
    refine ixT h1 rfl ?_
    exact ⟨b, rfl, hb1, hb2, k⟩
theorem sc_is_book : FnScope ["thing", "one", "other", "item"] ["thing"] (defScope (topS 12)) := ⟨rfl, rfl, rfl, by decide +kernel, rfl, by decide +kernel, by decide +kernel⟩
theorem ok_is_book (T : Txt K mg) (dn : Dfn K mg "is_book" (topS 12) ["thing"]) (h_is_item : Has P w K mg base "is_item" 3 ["thing"] spItem) : Has P w K mg base "is_book" 4 ["thing"] spIsBook := by
  refine dn.has fun f fd F => ?_
  have nd := sc_is_book.nd
  refine F.ok sc_is_book (fun vs H Q E h => ?_) (fun cdv A outer s H vs Q E hr h => ?_)
  · obtain ⟨a, l, rfl, hb, ok, k⟩ := h
    rfl
  · obtain ⟨a, l, rfl, hb, ok, k⟩ := h
    refine ⟨_, 
      (pss_cons (ps_if (PW.pt (pw_or (pt_not (pt_val (pe_callB (call_isiK' (K := K)) (by rfl) T.b_isinstance (by decide +kernel) (pa_cons (pv 0) (pa_cons (pe_bltn (v := .ty "list") rfl T.b_list (by decide +kernel) rfl) pa_nil))))) (pw_or (pt_cmpR op_gt (pe_callB (call_lenK (K := K)) (by rfl) T.b_len (by decide +kernel) (pa_cons (pv 0) pa_nil)) (pe_gi T.c_MOST_ITEMS) (nomark _)) (pw_or1 (pt_not (pt_val (pe_callB (cr_allK (K := K)) (by rfl) T.b_all (by decide +kernel) (pa_cons (pe_lc (own := [("item", 3)]) rfl nd (pi_listK (K := K) (pv 0)) (blkOk_by (own := [("item", 3)]) (N := ["thing", "one", "other", "item"]) (sc := defScope (topS 12)) (by decide +kernel)) (fun _ _ _ _ _ => (pg_name (i := 3) nd rfl (Or.inl rfl) (Or.inr rfl))) (fun _ _ _ _ _ => pts_nil) (fun _ _ _ _ _ => (pe_has h_is_item (hr.mono (by decide)) (pa_cons (pv 3) pa_nil)))) pa_nil)))))))) 
        (pss_one (ps_ret pe_bl)) pss_nil) 
      (pss_one (ps_ret (pe_callB (cr_allK (K := K)) (by rfl) T.b_all (by decide +kernel) (pa_cons (pe_lc (own := [("one", 1), ("other", 2)]) rfl nd (pi_zipK (K := K) T.b_zip (pa_cons (pv 0) (pa_cons (pe_slice (sl_listK (K := K)) (pv 0) (po_some pe_int) po_none) pa_nil))) (blkOk_by (own := [("one", 1), ("other", 2)]) (N := ["thing", "one", "other", "item"]) (sc := defScope (topS 12)) (by decide +kernel)) (fun _ _ _ _ _ => (pg_tupK (K := K) (n := 2) (pgs_cons (pg_name (i := 1) nd rfl (Or.inl rfl) (Or.inr rfl)) (pgs_cons (pg_name (i := 2) nd rfl (Or.inl rfl) (Or.inr rfl)) pgs_nil)))) (fun _ _ _ _ _ => pts_nil) (fun _ _ _ _ _ => (pe_cmpR op_lt (pe_ix (ix_tupK (K := K)) (pv 1) pe_int (fun _ _ => rfl)) (pe_ix (ix_tupK (K := K)) (pv 2) pe_int (fun _ _ => rfl)) (nomark _)))) pa_nil))))), ?_⟩
    walk_at "st"
    obtain ⟨xs, hx, hpr⟩ := hb
    have hlen := Paired.length hpr
    have hl24 := ok.len
    walk_at "rd"
    refine ⟨_, _, _, _, true, rfl, .ty _, .base (.lst hx), kit_ty (by decide +kernel), ?_⟩
    walk_at "rd"
    refine lenL hx ?_
    walk_at "rd"
    refine ifF (decide_eq_false (by omega)) ?_
    refine ⟨⟨_, SqL.of hx⟩, fun D hD => ?_⟩
    refine lcMap (walk_list (xs := xs)) (fun i H' acc => acc = (List.replicate i true).map V.bl) hD (fun _ => rfl) (fun H' s => SqL.of (s _ _ hx)) ?_ ?_
    · rintro i x H1 H' acc hi s1 hacc hl ha ⟨rfl, hxi⟩
      obtain ⟨t, q, hq, rfl, ht⟩ := hpr.get hxi
      walk_at "rd"
      refine ⟨t, q.1, q.2, rfl, s1 _ _ ht, ok.bnd q (List.mem_of_getElem? hq), ?_⟩
      exact lcEnd s1 hacc hl (by omega) hD (Same.refl _) (by rw [ha, List.replicate_succ', List.map_append]; rfl)
    · intro H1 acc s1 hacc hl ha
      subst ha
      have hx1 := s1 _ _ hx
      refine ⟨D, _, rfl, SqL.of hacc, ?_⟩
      have e : (List.replicate xs.length true).all id = true := by simp
      rw [e]
      walk_at "rd"
      refine slL hx1 fun p2 hp2 => ?_
      have s2 := Same.newT s1 (o := .lst (cutV xs (some 1) none)) hp2
      have hx2 := s2 _ _ hx
      have ec : cutV xs (some 1) none = xs.drop 1 := cut_from xs 1
      rw [ec] at hx2 s2 ⊢
      refine ⟨a, p2, xs, xs.drop 1, rfl, SqL.of hx2, SqL.of upd_same, fun D2 hD2 => ?_⟩
      have hn2 : a ≠ p2 := ne_of_none hx1 hp2
      refine lcMap (walk_zip (xs := xs) (ys := xs.drop 1) (n := xs.length - 1) (by rw [List.length_drop]; omega)) (fun i H' acc => acc = (List.replicate i true).map V.bl) hD2 (fun _ => rfl) (fun H' s => ⟨SqL.of (s _ _ hx2), SqL.of (s _ _ upd_same)⟩) ?_ ?_
      · rintro i v H3 H' acc hi s3 hacc hl ha ⟨T1, x, y, rfl, hT, rfl, hxi, hyi⟩
        have hxi : xs[i]? = some x := hxi
        have hyi : (xs.drop 1)[i]? = some y := hyi
        rw [List.getElem?_drop, Nat.add_comm] at hyi
        obtain ⟨t1, q1, hq1, rfl, ht1⟩ := hpr.get hxi
        obtain ⟨t2, q2, hq2, rfl, ht2⟩ := hpr.get hyi
        have s4 := Same.newT (Same.trans s2 s3) (o := .tup [V.ref t1, V.ref t2]) hT
        refine gtup upd_same ?_
        walk_at "rd"
        refine ixT (s4 _ _ ht1) rfl (ixT (s4 _ _ ht2) rfl ?_)
        walk_at "rd"
        have lt : q1.1 < q2.1 := by
          obtain ⟨h1, e1⟩ := List.getElem?_eq_some_iff.mp hq1
          obtain ⟨h2, e2⟩ := List.getElem?_eq_some_iff.mp hq2
          have z := List.pairwise_iff_getElem.mp ok.asc i (i + 1) h1 h2 (Nat.lt_succ_self i)
          rw [e1, e2] at z
          exact z
        rw [decide_eq_true lt]
        exact lcEnd s3 hacc hl (by omega) hD2 (Same.new hT) (by rw [ha, List.replicate_succ', List.map_append]; rfl)
      · intro H3 acc s3 hacc hl ha
        subst ha
        refine ⟨D2, _, rfl, SqL.of hacc, ?_⟩
        have e : (List.replicate (xs.length - 1) true).all id = true := by simp
        rw [e]
        exact k _ (Same.trans s2 s3)
theorem sc_need_book : FnScope ["book"] ["book"] (defScope (topS 13)) := ⟨rfl, rfl, rfl, by decide +kernel, rfl, by decide +kernel, by decide +kernel⟩
theorem ok_need_book (T : Txt K mg) (dn : Dfn K mg "need_book" (topS 13) ["book"]) (h_is_book : Has P w K mg base "is_book" 4 ["thing"] spIsBook) : Has P w K mg base "need_book" 5 ["book"] spNeedBook := by
  refine dn.has fun f fd F => ?_
  have nd := sc_need_book.nd
  refine F.ok sc_need_book (fun vs H Q E h => ?_) (fun cdv A outer s H vs Q E hr h => ?_)
  · obtain ⟨a, l, rfl, hb, ok, k⟩ := h
    rfl
  · obtain ⟨a, l, rfl, hb, ok, k⟩ := h
    refine ⟨_, 
      (pss_one (ps_if (pt_not (pt_val (pe_has h_is_book (hr.mono (by decide)) (pa_cons (pv 0) pa_nil)))) 
        (pss_one ps_never) pss_nil)), ?_⟩
    walk_at "st"
    walk_at "rd"
    refine ⟨a, l, rfl, hb, ok, fun H' s => ?_⟩
    walk_at "rd"
    exact k H' s
theorem sc_divisor_of : FnScope ["one", "other"] ["one", "other"] (defScope (topS 14)) := ⟨rfl, rfl, rfl, by decide +kernel, rfl, by decide +kernel, by decide +kernel⟩
theorem ok_divisor_of (T : Txt K mg) (dn : Dfn K mg "divisor_of" (topS 14) ["one", "other"]) : Has P w K mg base "divisor_of" 1 ["one", "other"] spGcd := by
  refine dn.has fun f fd F => ?_
  have nd := sc_divisor_of.nd
  refine F.ok sc_divisor_of (fun vs H Q E h => ?_) (fun cdv A outer s H vs Q E hr h => ?_)
  · obtain ⟨a, b, rfl, k⟩ := h
    rfl
  · obtain ⟨a, b, rfl, k⟩ := h
    refine ⟨_, 
      (pss_cons (ps_while PassesOwn.never (pt_cmpR op_ne (pv 1) pe_int (nomark _)) 
        (pss_one (ps_par (i := 0) (j := 1) rfl nd rfl rfl (by decide) rfl rfl (pa_cons (pv 1) (pa_cons (pe_op op_mod (pv 0) (pv 1)) pa_nil)) (by rfl)))) 
      (pss_one (ps_ret (pv 0)))), ?_⟩
    walk_at "st"
    rw [r_seq]
    refine ⟨fun m σ H' => ∃ x y : Nat, σ = [some (.int x), some (.int y)] ∧ H' = H ∧ Nat.gcd x y = Nat.gcd a b ∧ m = y, ⟨b, a, b, rfl, rfl, rfl, rfl⟩, ?_⟩
    rintro m σ H' ⟨x, y, rfl, rfl, e, hm⟩
    walk_at "rd"
    by_cases hy : y = 0
    · subst hy
      have ex : x = Nat.gcd a b := by rw [← e, Nat.gcd_zero_right]
      simp only [Int.natCast_zero, decide_true, Bool.not_true, Bool.false_eq_true, if_false]
      rw [ex]
      exact k
    · have hy' : ¬ (y : Int) = 0 := by omega
      simp only [hy', decide_false, Bool.not_false, if_true]
      have hlt : x % y < y := Nat.mod_lt _ (by omega)
      refine ⟨_, fun σ' H' h => h, by omega, x % y, by omega, y, x % y, ?_, rfl, ?_, rfl⟩
      · rw [Int.natCast_emod]
      · rw [← e, Nat.gcd_comm x y, Nat.gcd_rec y x, Nat.gcd_comm]
theorem sc_multiple_of : FnScope ["numbers", "found", "number"] ["numbers"] (defScope (topS 15)) := ⟨rfl, rfl, rfl, by decide +kernel, rfl, by decide +kernel, by decide +kernel⟩
theorem ok_multiple_of (T : Txt K mg) (dn : Dfn K mg "multiple_of" (topS 15) ["numbers"]) (h_divisor_of : Has P w K mg base "divisor_of" 1 ["one", "other"] spGcd) : Has P w K mg base "multiple_of" 2 ["numbers"] spLcm := by
  refine dn.has fun f fd F => ?_
  have nd := sc_multiple_of.nd
  refine F.ok sc_multiple_of (fun vs H Q E h => ?_) (fun cdv A outer s H vs Q E hr h => ?_)
  · obtain ⟨a, k, rfl, hk, ha, q⟩ := h
    rfl
  · obtain ⟨a, k, rfl, hk, ha, q⟩ := h
    refine ⟨_, 
      (pss_cons (ps_set (i := 1) nd rfl (Or.inl rfl) pe_int (hf := Or.inr rfl)) 
      (pss_cons (ps_for PassesOwn.never rfl (pi_listK (K := K) (pv 0)) (pg_name (i := 2) nd rfl (Or.inl rfl) (Or.inr rfl)) 
        (pss_cons (ps_if (pt_cmpR op_eq (pv 2) pe_int (nomark _)) 
          (pss_one (ps_ret pe_int)) pss_nil) 
        (pss_one (ps_set (i := 1) nd rfl (Or.inl rfl) (pe_op op_mulW (pe_op op_fdivW (pv 1) (pe_has h_divisor_of (hr.mono (by decide)) (pa_cons (pv 1) (pa_cons (pe_callB call_absK (by rfl) T.b_abs (by decide +kernel) (pa_cons (pv 2) pa_nil)) pa_nil)))) (pe_callB call_absK (by rfl) T.b_abs (by decide +kernel) (pa_cons (pv 2) pa_nil))) (hf := Or.inr rfl))))) 
      (pss_one (ps_ret (pv 1))))), ?_⟩
    walk_at "st"
    walk_at "rd"
    refine ⟨⟨_, SqL.of ha⟩, ?_⟩
    refine forW (walk_list (xs := rgV 1 (k + 1))) (fun i σ H' => i ≤ k ∧ H' = H ∧ ∃ u, σ = [some (.ref a), some (.int (KM.W i : Nat)), u]) ⟨Nat.zero_le _, rfl, none, rfl⟩ (fun i σ H' _ h => by rw [h.2.1]; exact SqL.of ha) ?_ ?_
    · rintro i x σ H1 H' hi ⟨hik, rfl, u, rfl⟩ ⟨rfl, hxi⟩
      obtain ⟨rfl, hi2⟩ := rgV_get hxi
      have hik' : i < k := by omega
      walk_at "rd"
      refine ifF (decide_eq_false (by omega)) ?_
      have en : ((1 + (i : Int)).natAbs : Nat) = i + 1 := by omega
      rw [en]
      refine ⟨KM.W i, i + 1, rfl, ?_⟩
      have wi := KM.W_small i (by omega)
      have wp := KM.W_pos i
      have gp : 0 < Nat.gcd (KM.W i) (i + 1) := Nat.gcd_pos_of_pos_left _ wp
      have gl : Nat.gcd (KM.W i) (i + 1) ≤ KM.W i := Nat.gcd_le_left _ wp
      have ed : ((KM.W i : Nat) : Int) / ((Nat.gcd (KM.W i) (i + 1) : Nat) : Int) = ((KM.W i / Nat.gcd (KM.W i) (i + 1) : Nat) : Int) := by rw [Int.natCast_ediv]
      have el : KM.W i / Nat.gcd (KM.W i) (i + 1) ≤ KM.W i := Nat.div_le_self _ _
      have em : ((KM.W i : Nat) : Int) / ((Nat.gcd (KM.W i) (i + 1) : Nat) : Int) * ((i + 1 : Nat) : Int) = ((KM.W (i + 1) : Nat) : Int) := by
        rw [ed, ← Int.natCast_mul]
        have z : KM.W i / Nat.gcd (KM.W i) (i + 1) * (i + 1) = KM.W (i + 1) := by
          show _ = Nat.lcm (KM.W i) (i + 1)
          refine Nat.eq_of_mul_eq_mul_left gp ?_
          rw [Nat.gcd_mul_lcm, ← Nat.mul_assoc, Nat.mul_div_cancel' (Nat.gcd_dvd_left _ _)]
        rw [z]
      walk_at "rd"
      refine ⟨divW 60 (by omega) (by omega), mulW 60 60 (by rw [ed, Int.natAbs_natCast]; exact Nat.lt_of_le_of_lt el wi) (by omega), by omega, some (.int (1 + (i : Int))), ?_⟩
      rw [em]
    · rintro σ H1 ⟨hik, rfl, u, rfl⟩
      walk_at "rd"
      have e : (rgV 1 ((k : Int) + 1)).length = k := by rw [rgV_length]; omega
      rw [e]
      exact q
theorem sc_divides : FnScope ["number", "other"] ["number", "other"] (defScope (topS 16)) := ⟨rfl, rfl, rfl, by decide +kernel, rfl, by decide +kernel, by decide +kernel⟩
theorem ok_divides (T : Txt K mg) (dn : Dfn K mg "divides" (topS 16) ["number", "other"]) : Has P w K mg base "divides" 1 ["number", "other"] spDivides := by
  refine dn.has fun f fd F => ?_
  have nd := sc_divides.nd
  refine F.ok sc_divides (fun vs H Q E h => ?_) (fun cdv A outer s H vs Q E hr h => ?_)
  · obtain ⟨n, o, rfl, k⟩ := h
    rfl
  · obtain ⟨n, o, rfl, k⟩ := h
    refine ⟨_, 
      (pss_one (ps_ret (pe_ifExp (pt_cmpR op_eq (pv 0) pe_int (nomark _)) (pe_cmpR op_eq (pv 1) pe_int (nomark _)) (pe_cmpR op_eq (pe_op op_modN (pv 1) (pv 0)) pe_int (nomark _))))), ?_⟩
    walk_at "st"
    walk_at "rd"
    by_cases hn : n = 0
    · subst hn
      simp only [decide_true, if_true]
      have e : decide (o = 0) = decide ((0 : Int) ∣ o) := decide_eq_decide.mpr ⟨fun h => h ▸ Int.dvd_refl 0, fun h => Int.zero_dvd.mp h⟩
      rw [e]
      exact k
    · simp only [hn, decide_false, Bool.false_eq_true, if_false]
      refine ⟨hn, ?_⟩
      have e : decide (o.fmod n = 0) = decide (n ∣ o) := decide_eq_decide.mpr ⟨fun h => Int.dvd_of_fmod_eq_zero h, fun h => Int.fmod_eq_zero_of_dvd h⟩
      rw [e]
      exact k
theorem sc_do_fit : FnScope ["one", "other"] ["one", "other"] (defScope (topS 17)) := ⟨rfl, rfl, rfl, by decide +kernel, rfl, by decide +kernel, by decide +kernel⟩
theorem ok_do_fit (T : Txt K mg) (dn : Dfn K mg "do_fit" (topS 17) ["one", "other"]) (h_divides : Has P w K mg base "divides" 1 ["number", "other"] spDivides) : Has P w K mg base "do_fit" 2 ["one", "other"] spDoFit := by
  refine dn.has fun f fd F => ?_
  have nd := sc_do_fit.nd
  refine F.ok sc_do_fit (fun vs H Q E h => ?_) (fun cdv A outer s H vs Q E hr h => ?_)
  · obtain ⟨t1, t2, x, y, rfl, h1, h2, k⟩ := h
    rfl
  · obtain ⟨t1, t2, x, y, rfl, h1, h2, k⟩ := h
    refine ⟨_, 
      (pss_one (ps_ret (pe_has h_divides (hr.mono (by decide)) (pa_cons (pe_op op_sub (pe_ix (ix_tupK (K := K)) (pv 0) pe_int (fun _ _ => rfl)) (pe_ix (ix_tupK (K := K)) (pv 1) pe_int (fun _ _ => rfl))) (pa_cons (pe_op op_sub (pe_ix (ix_tupK (K := K)) (pv 0) pe_int (fun _ _ => rfl)) (pe_ix (ix_tupK (K := K)) (pv 1) pe_int (fun _ _ => rfl))) pa_nil))))), ?_⟩
    walk_at "st"
    walk_at "rd"
    refine ixT h1 rfl (ixT h2 rfl ?_)
    walk_at "rd"
    refine ixT h1 rfl (ixT h2 rfl ?_)
    walk_at "rd"
    exact ⟨_, _, rfl, k⟩
theorem sc_conflicts_in : FnScope ["book", "found", "first", "one", "second"] ["book"] (defScope (topS 18)) := ⟨rfl, rfl, rfl, by decide +kernel, rfl, by decide +kernel, by decide +kernel⟩
theorem ok_conflicts_in (T : Txt K mg) (dn : Dfn K mg "conflicts_in" (topS 18) ["book"]) (h_do_fit : Has P w K mg base "do_fit" 2 ["one", "other"] spDoFit) : Has P w K mg base "conflicts_in" 3 ["book"] spConfs := by
  refine dn.has fun f fd F => ?_
  have nd := sc_conflicts_in.nd
  refine F.ok sc_conflicts_in (fun vs H Q E h => ?_) (fun cdv A outer s H vs Q E hr h => ?_)
  · obtain ⟨a, l, rfl, hb, hl, k⟩ := h
    rfl
  · obtain ⟨a, l, rfl, hb, hl, k⟩ := h
    refine ⟨_, 
      (pss_cons (ps_set (i := 1) nd rfl (Or.inl rfl) (pe_lst pa_nil) (hf := Or.inr rfl)) 
      (pss_cons (ps_for PassesOwn.never rfl (pi_enumK (K := K) T.b_enumerate (pa_cons (pv 0) pa_nil)) (pg_tupK (K := K) (n := 2) (pgs_cons (pg_name (i := 2) nd rfl (Or.inr rfl) (Or.inl rfl)) (pgs_cons (pg_name (i := 3) nd rfl (Or.inr rfl) (Or.inl rfl)) pgs_nil))) 
        (pss_one (ps_expr (pe_bm PySem.F.plainAttrs_list PySem.F.slot_list_extend PySem.F.type_list_extend mt_extend (pv 1) (pa_cons (pe_lc (own := [("second", 4)]) rfl nd (pi_range2 rfl T.b_range (pa_cons (pe_op op_add (pv 2) pe_int) (pa_cons (pe_callB (call_lenK (K := K)) (by rfl) T.b_len (by decide +kernel) (pa_cons (pv 0) pa_nil)) pa_nil))) (blkOk_by (own := [("second", 4)]) (N := ["book", "found", "first", "one", "second"]) (sc := defScope (topS 18)) (by decide +kernel)) (fun _ _ _ _ _ => (pg_name (i := 4) nd rfl (Or.inl rfl) (Or.inr rfl))) (fun _ _ _ _ _ => (pts_one (pt_not (pt_val (pe_has h_do_fit (hr.mono (by decide)) (pa_cons (pv 3) (pa_cons (pe_ix (ix_listK (K := K)) (pv 0) (pv 4) (fun _ _ => rfl)) pa_nil))))))) (fun _ _ _ _ _ => (pe_tup (pa_cons (pv 2) (pa_cons (pv 4) pa_nil))))) pa_nil))))) 
      (pss_one (ps_ret (pv 1))))), ?_⟩
    walk_at "st"
    obtain ⟨xs, hx, hpr⟩ := hb
    have hlen := Paired.length hpr
    walk_at "rd"
    refine fun p hp => ⟨a, xs, rfl, SqL.of (Same.new hp _ _ hx), ?_⟩
    refine forW (walk_enum (xs := xs)) (fun i σ H' => i ≤ l.length ∧ Same H H' ∧ (∃ u v, σ = [some (.ref a), some (.ref p), u, v, none]) ∧ ∃ acc, H' p = some (.lst acc) ∧ Prs H' acc (natPairs (confTo l i)))
      ⟨Nat.zero_le _, Same.new hp, ⟨none, none, rfl⟩, [], upd_same, .nil⟩ (fun i σ H' _ h => SqL.of (h.2.1 _ _ hx)) ?_ ?_
    · rintro i v σ H1 H' hi ⟨hil, s1, ⟨u2, u3, rfl⟩, acc, hacc, hpa⟩ ⟨T1, y, x, rfl, hT, rfl, hy, hxi⟩
      have hy : V.int (i : Nat) = y := Option.some.inj hy
      subst hy
      have hxi : xs[i]? = some x := hxi
      obtain ⟨t, q, hq, rfl, ht⟩ := hpr.get hxi
      have s2 := Same.newT s1 (o := .tup [V.int (i : Nat), V.ref t]) hT
      have hil' : i < l.length := (List.getElem?_eq_some_iff.mp hq).1
      have eq : l.getD i (0, 0) = q := by rw [List.getD_eq_getElem?_getD, hq]; rfl
      have hacc2 := Same.new (o := .tup [V.int (i : Nat), V.ref t]) hT _ _ hacc
      have hpa2 := hpa.mono (Same.new (o := .tup [V.int (i : Nat), V.ref t]) hT)
      have hT1 : upd H1 T1 (.tup [V.int (i : Nat), V.ref t]) T1 = some (.tup [V.int (i : Nat), V.ref t]) := upd_same
      refine gtup hT1 ?_
      generalize upd H1 T1 (.tup [V.int (i : Nat), V.ref t]) = H2 at *
      walk_at "rd"
      refine ⟨ty_lst hacc2, lenL (s2 _ _ hx) ?_⟩
      walk_at "rd"
      refine ⟨by omega, fun D hD => ?_⟩
      have nDp : p ≠ D := ne_of_none hacc2 hD
      refine lcW walk_range (fun j H3 => Same H2 H3 ∧ ∃ acc', H3 D = some (.lst acc') ∧ Prs H3 acc' (natPairs (rowTo l i j))) ⟨Same.new hD, [], upd_same, .nil⟩ (fun _ _ _ _ => trivial) ?_ ?_
      · rintro j v H3 H4 hj ⟨s3, acc', hacc', hpa'⟩ ⟨rfl, rfl⟩
        have hj' : i + 1 + j < l.length := by omega
        obtain ⟨t2, hx2, ht2⟩ := hpr.at hj'
        have hrl := rowTo_length l i j
        have hal : acc'.length ≤ 100 := by
          have := Paired.length hpa'
          rw [natPairs_length] at this
          omega
        walk_at "rd"
        refine ixL (s3 _ _ (s2 _ _ hx)) (atE (j := i + 1 + j) (by omega) hx2) ?_
        refine ⟨t, t2, q, l.getD (i + 1 + j) (0, 0), rfl, s3 _ _ (s2 _ _ ht), s3 _ _ (s2 _ _ ht2), ?_⟩
        walk_at "rd"
        cases ef : KM.fitb q (l.getD (i + 1 + j) (0, 0)) with
        | true =>
          refine ifF rfl ?_
          refine ⟨s3, acc', hacc', ?_⟩
          rw [rowTo_succ, eq, ef, if_pos rfl, List.append_nil]
          exact hpa'
        | false =>
          refine ifT rfl ?_
          intro p3 hp3
          refine ⟨acc', Same.new hp3 _ _ hacc', Nat.lt_of_le_of_lt hal (by decide), Same.mut (Same.newT s3 hp3) hD, acc' ++ [V.ref p3], upd_same, ?_⟩
          rw [rowTo_succ, eq, ef, if_neg Bool.false_ne_true, natPairs_append]
          have h5 := (hpa'.mono (Same.new (o := .tup [V.int (i : Int), V.int ((i : Int) + 1 + (j : Int))]) hp3)).snoc (v := .ref p3) (q := ((i : Int), ((i + 1 + j : Nat) : Int))) ⟨p3, rfl, by
            have e5 : ((i + 1 + j : Nat) : Int) = (i : Int) + 1 + (j : Int) := by omega
            rw [e5]
            exact upd_same⟩
          exact Prs.updL (Same.new hp3 _ _ hacc') h5
      · rintro H3 ⟨s3, acc', hacc', hpa'⟩
        have en : ((xs.length : Int) - ((i : Int) + 1)).toNat = l.length - (i + 1) := by omega
        rw [en, ← confRow_rowTo] at hpa'
        have l1 := confTo_length l i
        have l2 := rowTo_length l i (l.length - (i + 1))
        rw [← confRow_rowTo] at l2
        have l3 := Paired.length hpa
        have l4 := Paired.length hpa'
        rw [natPairs_length] at l3 l4
        have l5 : i * l.length ≤ 100 * 100 := Nat.mul_le_mul (by omega) hl
        refine ⟨p, D, acc, acc', rfl, rfl, s3 _ _ hacc2, hacc', Nat.le_trans (show acc.length + acc'.length ≤ 20000 by omega) (by decide), ?_⟩
        refine ⟨by omega, Same.mut (Same.trans s2 s3) hp, ⟨_, _, rfl⟩, _, upd_same, ?_⟩
        rw [confTo_succ, natPairs_append]
        exact Prs.updL (s3 _ _ hacc2) ((hpa2.mono s3).append hpa')
    · rintro σ H1 ⟨hil, s1, ⟨u2, u3, rfl⟩, acc, hacc, hpa⟩
      walk_at "rd"
      rw [hlen] at hpa
      exact k _ p s1 ⟨acc, hacc, hpa⟩
theorem sc_conflict_in : FnScope ["book", "found"] ["book"] (defScope (topS 19)) := ⟨rfl, rfl, rfl, by decide +kernel, rfl, by decide +kernel, by decide +kernel⟩
theorem ok_conflict_in (T : Txt K mg) (dn : Dfn K mg "conflict_in" (topS 19) ["book"]) (h_conflicts_in : Has P w K mg base "conflicts_in" 3 ["book"] spConfs) : Has P w K mg base "conflict_in" 4 ["book"] spConfIn := by
  refine dn.has fun f fd F => ?_
  have nd := sc_conflict_in.nd
  refine F.ok sc_conflict_in (fun vs H Q E h => ?_) (fun cdv A outer s H vs Q E hr h => ?_)
  · obtain ⟨a, l, rfl, hb, hl, k⟩ := h
    rfl
  · obtain ⟨a, l, rfl, hb, hl, k⟩ := h
    refine ⟨_, 
      (pss_cons (ps_set (i := 1) nd rfl (Or.inl rfl) (pe_has h_conflicts_in (hr.mono (by decide)) (pa_cons (pv 0) pa_nil)) (hf := Or.inr rfl)) 
      (pss_one (ps_ret (pe_ifExp (pt_cmpR (op_neDK (K := K) hr.units) (pv 1) (pe_lst pa_nil) (nomark _)) (pe_ix (ix_listK (K := K)) (pv 1) pe_int (fun _ _ => rfl)) pe_non)))), ?_⟩
    walk_at "st"
    walk_at "rd"
    refine ⟨a, l, rfl, hb, hl, fun H1 p s1 hp => ?_⟩
    walk_at "rd"
    refine fun p2 hp2 => ?_
    refine ne_Bk (hp.mono (Same.new hp2)) (⟨[], upd_same, .nil⟩ : BkAt _ _ []) ?_
    walk_at "rd"
    have sN := s1.trans (Same.new (o := .lst []) hp2)
    have hp' := hp.mono (Same.new (o := .lst []) hp2)
    cases e : KM.conf l with
    | nil =>
      rw [e] at hp'
      have z : (!decide (natPairs [] = [])) = false := by decide
      rw [z]
      refine iteF ?_
      refine k _ _ sN ?_
      rw [e]
      rfl
    | cons q r =>
      rw [e] at hp'
      have z : (!decide (natPairs (q :: r) = [])) = true := by simp [natPairs]
      rw [z]
      refine iteT ?_
      obtain ⟨xs, hx, hpr⟩ := hp'
      have h0 := hpr.at (i := 0) (by simp [natPairs])
      obtain ⟨t, ht1, ht2⟩ := h0
      refine ixL hx (atI_nat (j := 0) ht1) ?_
      refine k _ _ sN ?_
      rw [e]
      exact ⟨t, rfl, ht2⟩
theorem sc_need_fitting : FnScope ["book", "conflict"] ["book"] (defScope (topS 20)) := ⟨rfl, rfl, rfl, by decide +kernel, rfl, by decide +kernel, by decide +kernel⟩
theorem ok_need_fitting (T : Txt K mg) (dn : Dfn K mg "need_fitting" (topS 20) ["book"]) (h_conflict_in : Has P w K mg base "conflict_in" 4 ["book"] spConfIn) : Has P w K mg base "need_fitting" 5 ["book"] spNeedFit := by
  refine dn.has fun f fd F => ?_
  have nd := sc_need_fitting.nd
  refine F.ok sc_need_fitting (fun vs H Q E h => ?_) (fun cdv A outer s H vs Q E hr h => ?_)
  · obtain ⟨a, l, rfl, hb, hl, hF, k⟩ := h
    rfl
  · obtain ⟨a, l, rfl, hb, hl, hF, k⟩ := h
    refine ⟨_, 
      (pss_cons (ps_set (i := 1) nd rfl (Or.inl rfl) (pe_has h_conflict_in (hr.mono (by decide)) (pa_cons (pv 0) pa_nil)) (hf := Or.inr rfl)) 
      (pss_one (ps_if (pt_cmpR op_notN (pv 1) pe_non (nomark _)) 
        (pss_one ps_never) pss_nil))), ?_⟩
    walk_at "st"
    walk_at "rd"
    refine ⟨a, l, rfl, hb, hl, fun H1 v s1 hv => ?_⟩
    rw [KM.conf_nil.mpr hF] at hv
    cases hv
    walk_at "rd"
    exact k H1 s1
theorem sc_need_possible : FnScope ["book"] ["book"] (defScope (topS 21)) := ⟨rfl, rfl, rfl, by decide +kernel, rfl, by decide +kernel, by decide +kernel⟩
theorem ok_need_possible (T : Txt K mg) (dn : Dfn K mg "need_possible" (topS 21) ["book"]) (h_need_book : Has P w K mg base "need_book" 5 ["book"] spNeedBook) (h_need_fitting : Has P w K mg base "need_fitting" 5 ["book"] spNeedFit) : Has P w K mg base "need_possible" 6 ["book"] spNeedPoss := by
  refine dn.has fun f fd F => ?_
  have nd := sc_need_possible.nd
  refine F.ok sc_need_possible (fun vs H Q E h => ?_) (fun cdv A outer s H vs Q E hr h => ?_)
  · obtain ⟨a, l, rfl, hb, ok, hF, k⟩ := h
    rfl
  · obtain ⟨a, l, rfl, hb, ok, hF, k⟩ := h
    refine ⟨_, 
      (pss_cons (ps_expr (pe_has h_need_book (hr.mono (by decide)) (pa_cons (pv 0) pa_nil))) 
      (pss_one (ps_expr (pe_has h_need_fitting (hr.mono (by decide)) (pa_cons (pv 0) pa_nil))))), ?_⟩
    walk_at "st"
    walk_at "rd"
    refine ⟨a, l, rfl, hb, ok, fun H1 s1 => ?_⟩
    walk_at "rd"
    refine ⟨a, l, rfl, hb.mono s1, Nat.le_trans ok.len (by decide), hF, fun H2 s2 => ?_⟩
    walk_at "rd"
    exact k H2 (s1.trans s2)
theorem sc_conflict_of : FnScope ["book"] ["book"] (defScope (topS 22)) := ⟨rfl, rfl, rfl, by decide +kernel, rfl, by decide +kernel, by decide +kernel⟩
theorem ok_conflict_of (T : Txt K mg) (dn : Dfn K mg "conflict_of" (topS 22) ["book"]) (h_need_book : Has P w K mg base "need_book" 5 ["book"] spNeedBook) (h_conflict_in : Has P w K mg base "conflict_in" 4 ["book"] spConfIn) : Has P w K mg base "conflict_of" 6 ["book"] spConfOf := by
  refine dn.has fun f fd F => ?_
  have nd := sc_conflict_of.nd
  refine F.ok sc_conflict_of (fun vs H Q E h => ?_) (fun cdv A outer s H vs Q E hr h => ?_)
  · obtain ⟨a, l, rfl, hb, ok, k⟩ := h
    rfl
  · obtain ⟨a, l, rfl, hb, ok, k⟩ := h
    refine ⟨_, 
      (pss_cons (ps_expr (pe_has h_need_book (hr.mono (by decide)) (pa_cons (pv 0) pa_nil))) 
      (pss_one (ps_ret (pe_has h_conflict_in (hr.mono (by decide)) (pa_cons (pv 0) pa_nil))))), ?_⟩
    walk_at "st"
    walk_at "rd"
    refine ⟨a, l, rfl, hb, ok, fun H1 s1 => ?_⟩
    walk_at "rd"
    exact ⟨a, l, rfl, hb.mono s1, Nat.le_trans ok.len (by decide), fun H2 v s2 hv => k H2 v (s1.trans s2) hv⟩
theorem sc_all_conflicts : FnScope ["book"] ["book"] (defScope (topS 23)) := ⟨rfl, rfl, rfl, by decide +kernel, rfl, by decide +kernel, by decide +kernel⟩
theorem ok_all_conflicts (T : Txt K mg) (dn : Dfn K mg "all_conflicts" (topS 23) ["book"]) (h_need_book : Has P w K mg base "need_book" 5 ["book"] spNeedBook) (h_conflicts_in : Has P w K mg base "conflicts_in" 3 ["book"] spConfs) : Has P w K mg base "all_conflicts" 6 ["book"] spAllConf := by
  refine dn.has fun f fd F => ?_
  have nd := sc_all_conflicts.nd
  refine F.ok sc_all_conflicts (fun vs H Q E h => ?_) (fun cdv A outer s H vs Q E hr h => ?_)
  · obtain ⟨a, l, rfl, hb, ok, k⟩ := h
    rfl
  · obtain ⟨a, l, rfl, hb, ok, k⟩ := h
    refine ⟨_, 
      (pss_cons (ps_expr (pe_has h_need_book (hr.mono (by decide)) (pa_cons (pv 0) pa_nil))) 
      (pss_one (ps_ret (pe_has h_conflicts_in (hr.mono (by decide)) (pa_cons (pv 0) pa_nil))))), ?_⟩
    walk_at "st"
    walk_at "rd"
    refine ⟨a, l, rfl, hb, ok, fun H1 s1 => ?_⟩
    walk_at "rd"
    exact ⟨a, l, rfl, hb.mono s1, Nat.le_trans ok.len (by decide), fun H2 v s2 hv => k H2 v (s1.trans s2) hv⟩
theorem sc_inverse_of : FnScope ["number", "modulus", "one", "other", "factor", "former", "share"] ["number", "modulus"] (defScope (topS 25)) := ⟨rfl, rfl, rfl, by decide +kernel, rfl, by decide +kernel, by decide +kernel⟩
theorem ok_inverse_of (T : Txt K mg) (dn : Dfn K mg "inverse_of" (topS 25) ["number", "modulus"]) : Has P w K mg base "inverse_of" 1 ["number", "modulus"] spInv := by
  refine dn.has fun f fd F => ?_
  have nd := sc_inverse_of.nd
  refine F.ok sc_inverse_of (fun vs H Q E h => ?_) (fun cdv A outer s H vs Q E hr h => ?_)
  · obtain ⟨n, m, rfl, hm, hm2, hn, hg, k⟩ := h
    rfl
  · obtain ⟨n, m, rfl, hm, hm2, hn, hg, k⟩ := h
    refine ⟨_, 
      (pss_cons (ps_asg (pe_tup (pa_cons (pv 1) (pa_cons (pe_op op_mod (pv 0) (pv 1)) (pa_cons pe_int (pa_cons pe_int pa_nil))))) (pg_tupK (K := K) (n := 4) (pgs_cons (pg_name (i := 2) nd rfl (Or.inl rfl) (Or.inr rfl)) (pgs_cons (pg_name (i := 3) nd rfl (Or.inl rfl) (Or.inr rfl)) (pgs_cons (pg_name (i := 4) nd rfl (Or.inl rfl) (Or.inr rfl)) (pgs_cons (pg_name (i := 5) nd rfl (Or.inl rfl) (Or.inr rfl)) pgs_nil)))))) 
      (pss_cons (ps_while PassesOwn.never (pt_cmpR op_ne (pv 3) pe_int (nomark _)) 
        (pss_cons (ps_set (i := 6) nd rfl (Or.inl rfl) (pe_op op_fdivW (pv 2) (pv 3)) (hf := Or.inr rfl)) 
        (pss_one (ps_asg (pe_tup (pa_cons (pv 3) (pa_cons (pe_op op_sub (pv 2) (pe_op op_mulW (pv 6) (pv 3))) (pa_cons (pv 5) (pa_cons (pe_op op_sub (pv 4) (pe_op op_mulW (pv 6) (pv 5))) pa_nil))))) (pg_tupK (K := K) (n := 4) (pgs_cons (pg_name (i := 2) nd rfl (Or.inl rfl) (Or.inr rfl)) (pgs_cons (pg_name (i := 3) nd rfl (Or.inl rfl) (Or.inr rfl)) (pgs_cons (pg_name (i := 4) nd rfl (Or.inl rfl) (Or.inr rfl)) (pgs_cons (pg_name (i := 5) nd rfl (Or.inl rfl) (Or.inr rfl)) pgs_nil))))))))) 
      (pss_one (ps_ret (pe_op op_mod (pv 4) (pv 1)))))), ?_⟩
    walk_at "st"
    walk_at "rd"
    refine ⟨hm, fun p hp => gtup upd_same ?_⟩
    walk_at "rd"
    rw [two_pow_nat] at hm2
    refine ⟨fun z σ H' => ∃ one other factor former u, σ = [some (.int n), some (.int m), some (.int one), some (.int other), some (.int factor), some (.int former), u] ∧ Same H H' ∧ EInv n m one other factor former ∧ z = other.toNat,
      ⟨_, m, n % m, 0, 1, none, rfl, Same.new hp, EInv.start hm hg, rfl⟩, ?_⟩
    rintro z σ H' ⟨one, other, factor, former, u, rfl, s1, e, hz⟩
    walk_at "rd"
    by_cases ho : other = 0
    · subst ho
      refine ifF (by simp) ?_
      exact ⟨hm, k _ _ s1 (e.done hm)⟩
    · refine ifT (by simp [ho]) ?_
      have e' := e.step ho
      have b1 := e.one_le
      have b2 := e.oth_le
      have b3 := e.one0
      have b4 := e.oth0
      have b5 := e.former_le
      have op : 0 < other := by omega
      have q0 : 0 ≤ one / other := Int.ediv_nonneg (by omega) b4
      have q1 : one / other ≤ one := Int.ediv_le_self _ (by omega)
      refine ⟨_, fun σ' H' h => h, divW 5000 op (by omega), mulW 5000 5000 (by omega) (by omega), mulW 5000 5000 (by omega) (by omega), fun p2 hp2 => gtup upd_same ?_⟩
      walk_at "rd"
      refine ⟨_, ?_, other, _, former, _, some (.int (one / other)), rfl, Same.newT s1 hp2, e', rfl⟩
      have r1 := e'.oth0
      have r2 : one - one / other * other < other := by
        have z := Int.emod_lt_of_pos one op
        rw [Int.emod_def, Int.mul_comm] at z
        exact z
      omega
theorem sc_met : FnScope ["one", "other", "divisor", "part", "rounds"] ["one", "other"] (defScope (topS 26)) := ⟨rfl, rfl, rfl, by decide +kernel, rfl, by decide +kernel, by decide +kernel⟩
theorem ok_met (T : Txt K mg) (dn : Dfn K mg "met" (topS 26) ["one", "other"]) (h_divisor_of : Has P w K mg base "divisor_of" 1 ["one", "other"] spGcd) (h_inverse_of : Has P w K mg base "inverse_of" 1 ["number", "modulus"] spInv) : Has P w K mg base "met" 2 ["one", "other"] spMet := by
  refine dn.has fun f fd F => ?_
  have nd := sc_met.nd
  refine F.ok sc_met (fun vs H Q E h => ?_) (fun cdv A outer s H vs Q E hr h => ?_)
  · obtain ⟨t1, t2, r1, r2, m1, m2, rfl, h1, h2, hm1, hm2, z1, z2, l1, u1, l2, u2, k⟩ := h
    rfl
  · obtain ⟨t1, t2, r1, r2, m1, m2, rfl, h1, h2, hm1, hm2, z1, z2, l1, u1, l2, u2, k⟩ := h
    refine ⟨_, 
      (pss_cons (ps_set (i := 2) nd rfl (Or.inl rfl) (pe_has h_divisor_of (hr.mono (by decide)) (pa_cons (pe_ix (ix_tupK (K := K)) (pv 0) pe_int (fun _ _ => rfl)) (pa_cons (pe_ix (ix_tupK (K := K)) (pv 1) pe_int (fun _ _ => rfl)) pa_nil))) (hf := Or.inr rfl)) 
      (pss_cons (ps_set (i := 3) nd rfl (Or.inl rfl) (pe_op op_fdivW (pe_ix (ix_tupK (K := K)) (pv 1) pe_int (fun _ _ => rfl)) (pv 2)) (hf := Or.inr rfl)) 
      (pss_cons (ps_set (i := 4) nd rfl (Or.inl rfl) (pe_op op_mod (pe_op op_mulW (pe_op op_fdivW (pe_op op_sub (pe_ix (ix_tupK (K := K)) (pv 1) pe_int (fun _ _ => rfl)) (pe_ix (ix_tupK (K := K)) (pv 0) pe_int (fun _ _ => rfl))) (pv 2)) (pe_has h_inverse_of (hr.mono (by decide)) (pa_cons (pe_op op_fdivW (pe_ix (ix_tupK (K := K)) (pv 0) pe_int (fun _ _ => rfl)) (pv 2)) (pa_cons (pv 3) pa_nil)))) (pv 3)) (hf := Or.inr rfl)) 
      (pss_one (ps_ret (pe_tup (pa_cons (pe_op op_add (pe_ix (ix_tupK (K := K)) (pv 0) pe_int (fun _ _ => rfl)) (pe_op op_mulW (pe_ix (ix_tupK (K := K)) (pv 0) pe_int (fun _ _ => rfl)) (pv 4))) (pa_cons (pe_op op_mulW (pe_ix (ix_tupK (K := K)) (pv 0) pe_int (fun _ _ => rfl)) (pv 3)) pa_nil)))))))), ?_⟩
    walk_at "st"
    walk_at "rd"
    refine ixT h1 rfl (ixT h2 rfl ?_)
    refine ⟨m1, m2, rfl, ?_⟩
    walk_at "rd"
    refine ixT h2 rfl ?_
    have hg : 0 < Nat.gcd m1 m2 := Nat.gcd_pos_of_pos_left _ hm1
    have g1 : Nat.gcd m1 m2 ≤ m1 := Nat.gcd_le_left _ hm1
    have g2 : Nat.gcd m1 m2 ≤ m2 := Nat.gcd_le_right _ hm2
    have gd2 : (m2 : Int) / ((Nat.gcd m1 m2 : Nat) : Int) = ((m2 / Nat.gcd m1 m2 : Nat) : Int) := by rw [Int.natCast_ediv]
    have gd1 : (m1 : Int) / ((Nat.gcd m1 m2 : Nat) : Int) = ((m1 / Nat.gcd m1 m2 : Nat) : Int) := by rw [Int.natCast_ediv]
    have p2 : 0 < m2 / Nat.gcd m1 m2 := Nat.div_pos g2 hg
    have p2' : m2 / Nat.gcd m1 m2 ≤ m2 := Nat.div_le_self _ _
    have p1' : m1 / Nat.gcd m1 m2 ≤ m1 := Nat.div_le_self _ _
    have co : Int.gcd ((m1 / Nat.gcd m1 m2 : Nat) : Int) ((m2 / Nat.gcd m1 m2 : Nat) : Int) = 1 := by
      rw [Int.gcd_natCast_natCast]
      exact Nat.gcd_div_gcd_div_gcd_of_pos_left hm1
    have cg : ∀ i : Int, CDivW i ((Nat.gcd m1 m2 : Nat) : Int) := fun i => divW 5000 (by omega) (by rw [Int.natAbs_natCast]; exact Nat.lt_of_le_of_lt g1 z1)
    walk_at "rd"
    refine ⟨cg _, ixT h2 rfl (ixT h1 rfl ?_)⟩
    walk_at "rd"
    refine ⟨cg _, ixT h1 rfl ?_⟩
    walk_at "rd"
    refine ⟨cg _, ?_⟩
    rw [gd1, gd2]
    refine ⟨_, _, rfl, Int.ofNat_lt.mpr p2, ?_, Int.natCast_nonneg _, co, fun H1 inv s1 hinv => ?_⟩
    · rw [two_pow_nat]
      have z3 : m2 < 2 ^ 5000 := Nat.lt_trans z2 (Nat.pow_lt_pow_right (by decide) (by decide))
      have z4 := Nat.lt_of_le_of_lt p2' z3
      exact Int.ofNat_lt.mpr z4
    walk_at "rd"
    obtain ⟨i0, im, iv⟩ := id hinv
    have h1' := s1 _ _ h1
    have ab : ((r2 - r1) / ((Nat.gcd m1 m2 : Nat) : Int)).natAbs < 2 ^ 5001 := by
      have z5 : ((r2 - r1) / ((Nat.gcd m1 m2 : Nat) : Int)).natAbs ≤ (r2 - r1).natAbs := Int.natAbs_ediv_le_natAbs _ _
      have z6 : m2 < 2 ^ 5000 := Nat.lt_trans z2 (Nat.pow_lt_pow_right (by decide) (by decide))
      have z7 : (2 : Nat) ^ 5001 = 2 ^ 5000 * 2 := Nat.pow_succ ..
      omega
    have bi : inv.natAbs < 2 ^ 5000 := by
      have z6 : m2 < 2 ^ 5000 := Nat.lt_trans z2 (Nat.pow_lt_pow_right (by decide) (by decide))
      omega
    have r0 := Int.emod_nonneg ((r2 - r1) / ((Nat.gcd m1 m2 : Nat) : Int) * inv) (show ((m2 / Nat.gcd m1 m2 : Nat) : Int) ≠ 0 by omega)
    have r9 := Int.emod_lt_of_pos ((r2 - r1) / ((Nat.gcd m1 m2 : Nat) : Int) * inv) (show 0 < ((m2 / Nat.gcd m1 m2 : Nat) : Int) by omega)
    refine ⟨mulW 5001 5000 ab bi, by omega, ixT h1' rfl (ixT h1' rfl ?_)⟩
    walk_at "rd"
    have bm : (m1 : Int).natAbs < 2 ^ 5000 := by rw [Int.natAbs_natCast]; exact z1
    refine ⟨mulW 5000 200 bm (by omega), ixT h1' rfl ?_⟩
    walk_at "rd"
    refine ⟨mulW 5000 200 bm (by omega), fun p hp => ?_⟩
    exact k _ p inv (Same.newT s1 hp) hinv upd_same
theorem sc_class_by : FnScope ["items", "place", "found", "told", "value", "far"] ["items", "place"] (defScope (topS 27)) := ⟨rfl, rfl, rfl, by decide +kernel, rfl, by decide +kernel, by decide +kernel⟩
theorem ok_class_by (T : Txt K mg) (dn : Dfn K mg "class_by" (topS 27) ["items", "place"]) (h_met : Has P w K mg base "met" 2 ["one", "other"] spMet) : Has P w K mg base "class_by" 3 ["items", "place"] spClsBy := by
  refine dn.has fun f fd F => ?_
  have nd := sc_class_by.nd
  refine F.ok sc_class_by (fun vs H Q E h => ?_) (fun cdv A outer s H vs Q E hr h => ?_)
  · obtain ⟨a, l, x, rfl, hb, hF, hp, k⟩ := h
    rfl
  · obtain ⟨a, l, x, rfl, hb, hF, hp, k⟩ := h
    refine ⟨_, 
      (pss_cons (ps_set (i := 2) nd rfl (Or.inl rfl) (pe_tup (pa_cons pe_int (pa_cons pe_int pa_nil))) (hf := Or.inr rfl)) 
      (pss_cons (ps_for PassesOwn.never rfl (pi_listK (K := K) (pv 0)) (pg_tupK (K := K) (n := 2) (pgs_cons (pg_name (i := 3) nd rfl (Or.inl rfl) (Or.inr rfl)) (pgs_cons (pg_name (i := 4) nd rfl (Or.inl rfl) (Or.inr rfl)) pgs_nil))) 
        (pss_cons (ps_if (pt_cmpR op_eq (pv 3) (pv 1) (nomark _)) 
          (pss_one (ps_ret (pe_tup (pa_cons (pv 4) (pa_cons pe_int pa_nil))))) pss_nil) 
        (pss_cons (ps_set (i := 5) nd rfl (Or.inl rfl) (pe_callB call_absK (by rfl) T.b_abs (by decide +kernel) (pa_cons (pe_op op_sub (pv 1) (pv 3)) pa_nil)) (hf := Or.inr rfl)) 
        (pss_one (ps_set (i := 2) nd rfl (Or.inl rfl) (pe_has h_met (hr.mono (by decide)) (pa_cons (pv 2) (pa_cons (pe_tup (pa_cons (pe_op op_mod (pv 4) (pv 5)) (pa_cons (pv 5) pa_nil))) pa_nil))) (hf := Or.inr rfl)))))) 
      (pss_one (ps_ret (pv 2))))), ?_⟩
    walk_at "st"
    obtain ⟨xs, hx, hpr⟩ := hb
    have hlen := Paired.length hpr
    walk_at "rd"
    refine fun p0 hp0 => ⟨⟨_, SqL.of (Same.new hp0 _ _ hx)⟩, ?_⟩
    refine forW (walk_list (xs := xs)) (fun i σ H' => i ≤ l.length ∧ Same H H' ∧ ∃ u3 u4 u5 t r m, σ = [some (.ref a), some (.int x), some (.ref t), u3, u4, u5] ∧ H' t = some (.tup [.int r, .int m]) ∧ KM.Cls (l.take i) x r m)
      ⟨Nat.zero_le _, Same.new hp0, none, none, none, p0, 0, 1, rfl, upd_same, KM.Cls.nil x⟩ (fun i σ H' _ h => SqL.of (h.2.1 _ _ hx)) ?_ ?_
    · rintro i v σ H1 H' hi ⟨hil, s1, u3, u4, u5, t, r, m, rfl, ht, hc⟩ ⟨rfl, hxi⟩
      obtain ⟨tq, q, hq, rfl, htq⟩ := hpr.get hxi
      have htq' := s1 _ _ htq
      refine gtup htq' ?_
      walk_at "rd"
      have hql : q ∈ l := List.mem_of_getElem? hq
      have hne := hp.ne q hql
      have hsz := hp.sz q hql
      have hpos : 0 < (x - q.1).natAbs := by omega
      refine ifF (decide_eq_false (fun z => hne z.symm)) ?_
      refine ⟨by omega, fun p2 hp2 => ?_⟩
      have s2 := Same.newT s1 (o := .tup [.int (q.2 % ((x - q.1).natAbs : Int)), .int ((x - q.1).natAbs : Int)]) hp2
      have ht2 : upd H' p2 (.tup [.int (q.2 % ((x - q.1).natAbs : Int)), .int ((x - q.1).natAbs : Int)]) t = some (.tup [.int r, .int (KM.lcmd (l.take i) x : Nat)]) := by
        rw [← hc.mod]
        exact Same.new hp2 _ _ ht
      have htk : ∀ z ∈ l.take i, z ∈ l := fun z hz => List.mem_of_mem_take hz
      have lp : 0 < KM.lcmd (l.take i) x := KM.lcmd_pos fun z hz => hp.ne z (htk z hz)
      have lle : KM.lcmd (l.take i) x ≤ 2 ^ (110 * (l.take i).length) := KM.lcmd_le (fun z hz => by have := hp.ne z (htk z hz); omega) fun z hz => hp.sz z (htk z hz)
      have ltl : 110 * (l.take i).length < 5000 := by rw [List.length_take]; have := hp.len; omega
      have lz : KM.lcmd (l.take i) x < 2 ^ 5000 := Nat.lt_of_le_of_lt lle (Nat.pow_lt_pow_right (by decide) ltl)
      have hi' := hc.hi
      rw [hc.mod] at hi'
      have e0 := Int.emod_nonneg q.2 (show ((x - q.1).natAbs : Int) ≠ 0 by omega)
      have e1 := Int.emod_lt_of_pos q.2 (show 0 < ((x - q.1).natAbs : Int) by omega)
      refine ⟨t, p2, r, _, KM.lcmd (l.take i) x, (x - q.1).natAbs, rfl, ht2, upd_same, lp, hpos, lz, Nat.lt_trans hsz (Nat.pow_lt_pow_right (by decide) (by decide)), hc.lo, hi', e0, e1, fun H3 p3 inv s3 hinv hp3 => ?_⟩
      walk_at "rd"
      have em := take_more hq
      rw [← hc.mod] at hp3
      refine ⟨by have := (List.getElem?_eq_some_iff.mp hq).1; omega, Same.trans s2 s3, _, _, _, p3, _, _, rfl, hp3, ?_⟩
      rw [em]
      exact hc.snoc (by rw [← em]; exact fun u hu v hv => hF u (List.mem_of_mem_take hu) v (List.mem_of_mem_take hv)) (by rw [← em]; exact fun u hu => hp.ne u (List.mem_of_mem_take hu)) hinv
    · rintro σ H1 ⟨hil, s1, u3, u4, u5, t, r, m, rfl, ht, hc⟩
      walk_at "rd"
      rw [hlen, List.take_length] at hc
      exact k _ t r m s1 ht hc
theorem sc_class_at : FnScope ["book", "place"] ["book", "place"] (defScope (topS 28)) := ⟨rfl, rfl, rfl, by decide +kernel, rfl, by decide +kernel, by decide +kernel⟩
theorem ok_class_at (T : Txt K mg) (dn : Dfn K mg "class_at" (topS 28) ["book", "place"]) (h_need_possible : Has P w K mg base "need_possible" 6 ["book"] spNeedPoss) (h_class_by : Has P w K mg base "class_by" 3 ["items", "place"] spClsBy) : Has P w K mg base "class_at" 7 ["book", "place"] spClsAt := by
  refine dn.has fun f fd F => ?_
  have nd := sc_class_at.nd
  refine F.ok sc_class_at (fun vs H Q E h => ?_) (fun cdv A outer s H vs Q E hr h => ?_)
  · obtain ⟨a, l, x, rfl, hb, ok, hF, hp, k⟩ := h
    rfl
  · obtain ⟨a, l, x, rfl, hb, ok, hF, hp, k⟩ := h
    refine ⟨_, 
      (pss_cons (ps_expr (pe_has h_need_possible (hr.mono (by decide)) (pa_cons (pv 0) pa_nil))) 
      (pss_one (ps_ret (pe_has h_class_by (hr.mono (by decide)) (pa_cons (pv 0) (pa_cons (pv 1) pa_nil)))))), ?_⟩
    walk_at "st"
    walk_at "rd"
    refine ⟨a, l, rfl, hb, ok, hF, fun H1 s1 => ?_⟩
    walk_at "rd"
    exact ⟨a, l, x, rfl, hb.mono s1, hF, hp, fun H2 t r m s2 ht hc => k H2 t r m (s1.trans s2) ht hc⟩
theorem sc_first_from : FnScope ["own_class", "value", "rest", "modulus"] ["own_class", "value"] (defScope (topS 29)) := ⟨rfl, rfl, rfl, by decide +kernel, rfl, by decide +kernel, by decide +kernel⟩
theorem ok_first_from (T : Txt K mg) (dn : Dfn K mg "first_from" (topS 29) ["own_class", "value"]) : Has P w K mg base "first_from" 1 ["own_class", "value"] spFirst := by
  refine dn.has fun f fd F => ?_
  have nd := sc_first_from.nd
  refine F.ok sc_first_from (fun vs H Q E h => ?_) (fun cdv A outer s H vs Q E hr h => ?_)
  · obtain ⟨t, r, m, rfl, ht, h0, hm, k⟩ := h
    rfl
  · obtain ⟨t, r, m, rfl, ht, h0, hm, k⟩ := h
    refine ⟨_, 
      (pss_cons (ps_asg (pv 0) (pg_tupK (K := K) (n := 2) (pgs_cons (pg_name (i := 2) nd rfl (Or.inl rfl) (Or.inr rfl)) (pgs_cons (pg_name (i := 3) nd rfl (Or.inl rfl) (Or.inr rfl)) pgs_nil)))) 
      (pss_cons (ps_if (pt_cmpR op_eq (pv 3) pe_int (nomark _)) 
        (pss_one (ps_ret (pe_ifExp (pt_cmpR op_ge (pv 2) (pv 1) (nomark _)) (pv 2) pe_non))) pss_nil) 
      (pss_one (ps_ret (pe_op op_add (pv 1) (pe_op op_mod (pe_op op_sub (pv 2) (pv 1)) (pv 3))))))), ?_⟩
    walk_at "st"
    walk_at "rd"
    refine gtup ht ?_
    walk_at "rd"
    have e : ¬ m = 0 := by omega
    simp only [e, decide_false, Bool.false_eq_true, if_false]
    refine ⟨by omega, ?_⟩
    have e2 : (0 : Int) + (r - 0) % m = r := by
      rw [Int.sub_zero, Int.emod_eq_of_lt h0 hm, Int.zero_add]
    rw [e2]
    exact k
theorem sc_next_value : FnScope ["book", "place", "value"] ["book", "place", "value"] (defScope (topS 30)) := ⟨rfl, rfl, rfl, by decide +kernel, rfl, by decide +kernel, by decide +kernel⟩
theorem ok_next_value (T : Txt K mg) (dn : Dfn K mg "next_value" (topS 30) ["book", "place", "value"]) (h_need_possible : Has P w K mg base "need_possible" 6 ["book"] spNeedPoss) (h_first_from : Has P w K mg base "first_from" 1 ["own_class", "value"] spFirst) (h_class_by : Has P w K mg base "class_by" 3 ["items", "place"] spClsBy) : Has P w K mg base "next_value" 7 ["book", "place", "value"] spNextVal := by
  refine dn.has fun f fd F => ?_
  have nd := sc_next_value.nd
  refine F.ok sc_next_value (fun vs H Q E h => ?_) (fun cdv A outer s H vs Q E hr h => ?_)
  · obtain ⟨a, l, x, rfl, hb, ok, hF, hp, k⟩ := h
    rfl
  · obtain ⟨a, l, x, rfl, hb, ok, hF, hp, k⟩ := h
    refine ⟨_, 
      (pss_cons (ps_expr (pe_has h_need_possible (hr.mono (by decide)) (pa_cons (pv 0) pa_nil))) 
      (pss_one (ps_ret (pe_has h_first_from (hr.mono (by decide)) (pa_cons (pe_has h_class_by (hr.mono (by decide)) (pa_cons (pv 0) (pa_cons (pv 1) pa_nil))) (pa_cons (pv 2) pa_nil)))))), ?_⟩
    walk_at "st"
    walk_at "rd"
    refine ⟨a, l, rfl, hb, ok, hF, fun H1 s1 => ?_⟩
    walk_at "rd"
    refine ⟨a, l, x, rfl, hb.mono s1, hF, hp, fun H2 t r m s2 ht hc => ?_⟩
    walk_at "rd"
    exact ⟨t, r, m, rfl, ht, hc.lo, hc.hi, k H2 r m (s1.trans s2) hc⟩
theorem sc_is_stretch : FnScope ["thing", "most", "value"] ["thing", "most"] (defScope (topS 33)) := ⟨rfl, rfl, rfl, by decide +kernel, rfl, by decide +kernel, by decide +kernel⟩
theorem ok_is_stretch (T : Txt K mg) (dn : DfnD K mg "is_stretch" (topS 33) ["thing", "most"]) (h_is_integer : Has P w K mg base "is_integer" 1 ["thing"] spIsInt) : HasD P w K mg base "is_stretch" 2 ["thing", "most"] spIsStretch := by
  refine dn.has fun f fd F => ?_
  have nd := sc_is_stretch.nd
  refine F.ok (CX := CX0) sc_is_stretch (fun vs H Q E h => ?_) (fun cdv A outer s H vs Q E hr h => ?_)
  · obtain ⟨a, l, most, rfl, ha, h1, h2, h3, k⟩ := h
    rfl
  · obtain ⟨a, l, most, rfl, ha, h1, h2, h3, k⟩ := h
    refine ⟨_, PSs.nox (
      (pss_one (ps_ret (pe_and (pe_callB (call_isiK' (K := K)) (by rfl) T.b_isinstance (by decide +kernel) (pa_cons (pv 0) (pa_cons (pe_bltn (v := .ty "list") rfl T.b_list (by decide +kernel) rfl) pa_nil))) (pe_and (pe_chain op_le op_le pe_int (pe_callB (call_lenK (K := K)) (by rfl) T.b_len (by decide +kernel) (pa_cons (pv 0) pa_nil)) (pv 1)) (pe_one (pe_callB (cr_allK (K := K)) (by rfl) T.b_all (by decide +kernel) (pa_cons (pe_lc (own := [("value", 2)]) rfl nd (pi_listK (K := K) (pv 0)) (blkOk_by (own := [("value", 2)]) (N := ["thing", "most", "value"]) (sc := defScope (topS 33)) (by decide +kernel)) (fun _ _ _ _ _ => (pg_name (i := 2) nd rfl (Or.inl rfl) (Or.inr rfl))) (fun _ _ _ _ _ => pts_nil) (fun _ _ _ _ _ => (pe_has h_is_integer (hr.mono (by decide)) (pa_cons (pv 2) pa_nil)))) pa_nil)))))))), ?_⟩
    walk_at "st"
    have ha' : H a = some (.lst (l.map V.int)) := ha
    walk_at "rd"
    refine ⟨_, _, _, _, true, rfl, .ty _, .base (.lst ha'), kit_ty (by decide +kernel), ?_⟩
    walk_at "rd"
    refine lenL ha' ?_
    walk_at "rd"
    refine ifT (decide_eq_true (by rw [List.length_map]; omega)) (ifT (decide_eq_true (by rw [List.length_map]; exact h2)) ?_)
    refine ⟨⟨_, SqL.of ha'⟩, fun D hD => ?_⟩
    refine lcMap (walk_list (xs := l.map V.int)) (fun i H' acc => acc = (List.replicate i true).map V.bl) hD (fun _ => rfl) (fun H' s => SqL.of (s _ _ ha')) ?_ ?_
    · rintro i x H1 H' acc hi s1 hacc hl hA ⟨rfl, hxi⟩
      rw [List.length_map] at hi
      obtain ⟨v, hv, rfl⟩ := map_get hxi
      walk_at "rd"
      refine ⟨v, rfl, ?_⟩
      exact lcEnd s1 hacc hl (by omega) hD (Same.refl _) (by rw [hA, List.replicate_succ', List.map_append]; rfl)
    · intro H1 acc s1 hacc hl hA
      subst hA
      refine ⟨D, _, rfl, SqL.of hacc, ?_⟩
      have e : (List.replicate (l.map V.int).length true).all id = true := by simp
      rw [e]
      exact k _ s1
theorem sc_need_stretch : FnScope ["stretch", "most"] ["stretch", "most"] (defScope (topS 34)) := ⟨rfl, rfl, rfl, by decide +kernel, rfl, by decide +kernel, by decide +kernel⟩
theorem ok_need_stretch (T : Txt K mg) (dn : DfnD K mg "need_stretch" (topS 34) ["stretch", "most"]) (h_is_stretch : HasD P w K mg base "is_stretch" 2 ["thing", "most"] spIsStretch) : HasD P w K mg base "need_stretch" 3 ["stretch", "most"] spNeedStretch := by
  refine dn.has fun f fd F => ?_
  have nd := sc_need_stretch.nd
  refine F.ok (CX := CX0) sc_need_stretch (fun vs H Q E h => ?_) (fun cdv A outer s H vs Q E hr h => ?_)
  · obtain ⟨a, l, most, rfl, ha, h1, h2, h3, k⟩ := h
    rfl
  · obtain ⟨a, l, most, rfl, ha, h1, h2, h3, k⟩ := h
    refine ⟨_, PSs.nox (
      (pss_one (ps_if (pt_not (pt_val (pe_hasD2 h_is_stretch (hr.mono (by decide)) (pa_cons (pv 0) (pa_cons (pv 1) pa_nil))))) 
        (pss_one ps_never) pss_nil))), ?_⟩
    walk_at "st"
    walk_at "rd"
    refine ⟨a, l, most, rfl, ha, h1, h2, h3, fun H1 s1 => ?_⟩
    walk_at "rd"
    exact k H1 s1
theorem sc_items_in : FnScope ["stretch"] ["stretch"] (defScope (topS 35)) := ⟨rfl, rfl, rfl, by decide +kernel, rfl, by decide +kernel, by decide +kernel⟩
theorem ok_items_in (T : Txt K mg) (dn : Dfn K mg "items_in" (topS 35) ["stretch"]) : Has P w K mg base "items_in" 1 ["stretch"] spItems := by
  refine dn.has fun f fd F => ?_
  have nd := sc_items_in.nd
  refine F.ok sc_items_in (fun vs H Q E h => ?_) (fun cdv A outer s H vs Q E hr h => ?_)
  · obtain ⟨a, l, rfl, ha, h1, k⟩ := h
    rfl
  · obtain ⟨a, l, rfl, ha, h1, k⟩ := h
    refine ⟨_, 
      (pss_one (ps_ret (pe_listEnum T.b_list T.b_enumerate (pv 0)))), ?_⟩
    walk_at "st"
    have ha' : H a = some (.lst (l.map V.int)) := ha
    walk_at "rd"
    refine ⟨a, l.map V.int, rfl, SqL.of ha', by rw [List.length_map]; omega, fun H' p ts s1 _ hp hl ht => ?_⟩
    exact k H' p s1 ⟨_, hp, enum_prs hl ht⟩
theorem sc_need_right : FnScope ["stretch", "conflict"] ["stretch"] (defScope (topS 36)) := ⟨rfl, rfl, rfl, by decide +kernel, rfl, by decide +kernel, by decide +kernel⟩
theorem ok_need_right {C : Addr} (T : Txt K mg) (TX : TxtX K mg C) (dn : Dfn K mg "need_right" (topS 36) ["stretch"]) (h_conflict_in : Has P w K mg base "conflict_in" 4 ["book"] spConfIn) (h_items_in : Has P w K mg base "items_in" 1 ["stretch"] spItems) : HasX P w K mg base "need_right" 7 ["stretch"] (spNeedRight C) := by
  refine dn.hasX fun f fd F => ?_
  have nd := sc_need_right.nd
  obtain ⟨fI, fdI, iC, tI, FI, bI⟩ := TX.ini
  have GI : FnOk P w K mg base CX0 1 fI fdI ["self", "first", "second"] (spUInit C) := ok_uinit TX FI
  refine F.okX sc_need_right (fun vs H Q E h => ?_) (fun cdv A outer s H vs Q E hr h => ?_)
  · obtain ⟨a, l, rfl, ha, hl, k1, k2⟩ := h
    rfl
  · obtain ⟨a, l, rfl, ha, hl, k1, k2⟩ := h
    refine ⟨_, 
      (pss_cons (ps_set (i := 1) nd rfl (Or.inl rfl) (pe_has h_conflict_in (hr.mono (by decide)) (pa_cons (pe_has h_items_in (hr.mono (by decide)) (pa_cons (pv 0) pa_nil)) pa_nil)) (hf := Or.inr rfl)) 
      (pss_one (ps_if (pt_cmpR op_notN (pv 1) pe_non (nomark _)) 
        (pss_one (ps_raise rfl (takes_of rfl rfl rfl rfl) (pmk_oex TX.ox iC tI GI (hr.mono (by decide)) bI .nil pass0 rfl TX.gC (pa_cons (pe_ix (ix_tupK (K := K)) (pv 1) pe_int (fun _ _ => rfl)) (pa_cons (pe_ix (ix_tupK (K := K)) (pv 1) pe_int (fun _ _ => rfl)) pa_nil))))) pss_nil))), ?_⟩
    walk_at "st"
    walk_at "rd"
    refine ⟨a, l, rfl, ha, hl, fun H1 p s1 hp => ?_⟩
    walk_at "rd"
    refine ⟨p, _, rfl, hp, by rw [KM.en_length]; exact hl, fun H2 v s2 hv => ?_⟩
    walk_at "rd"
    cases e : KM.conf (KM.en 0 l) with
    | nil =>
      rw [e] at hv
      cases hv
      refine ifF (by simp) ?_
      exact k1 e H2 (Same.trans s1 s2)
    | cons q r =>
      rw [e] at hv
      obtain ⟨t, rfl, ht⟩ := hv
      refine ifT (by simp) ?_
      unfold tMkO
      walk_at "rd"
      refine ixT ht rfl (ixT ht rfl ?_)
      refine ⟨by show 2 ≤ 1000; decide, fun x hx => ⟨x, _, _, rfl, upd_same, fun dx hdx hne => ?_⟩⟩
      rw [upd_ne hne] at hdx
      refine ⟨rfl, dx, _, (upd_ne (Ne.symm hne)).trans upd_same, upd_same, hdx, ?_⟩
      refine k2 q r e _ dx (fun b o hb => ?_) upd_same
      have hb2 := s2 _ _ (s1 _ _ hb)
      have b1 : b ≠ dx := ne_of_none hb2 hdx
      have b2 : b ≠ x := ne_of_none hb2 hx
      rw [upd_ne b1, del_ne b2, upd_ne b1, upd_ne b2, upd_ne b1, upd_ne b2]
      exact hb2
theorem sc_differences_in : FnScope ["stretch", "found", "row", "value", "later"] ["stretch"] (defScope (topS 37)) := ⟨rfl, rfl, rfl, by decide +kernel, rfl, by decide +kernel, by decide +kernel⟩
theorem ok_differences_in (T : Txt K mg) (dn : Dfn K mg "differences_in" (topS 37) ["stretch"]) : Has P w K mg base "differences_in" 1 ["stretch"] spDiffs := by
  refine dn.has fun f fd F => ?_
  have nd := sc_differences_in.nd
  refine F.ok sc_differences_in (fun vs H Q E h => ?_) (fun cdv A outer s H vs Q E hr h => ?_)
  · obtain ⟨a, l, rfl, ha, h1, h2, k⟩ := h
    rfl
  · obtain ⟨a, l, rfl, ha, h1, h2, k⟩ := h
    refine ⟨_, 
      (pss_cons (ps_par (i := 1) (j := 2) rfl nd rfl rfl (by decide) rfl rfl (pa_cons (pe_lst pa_nil) (pa_cons (pe_callTy (call_listK (K := K)) (by rfl) T.b_list (by decide +kernel) (pa_cons (pv 0) pa_nil)) pa_nil)) (by rfl)) 
      (pss_cons (ps_while PassesOwn.never (pt_cmpR (op_neDK (K := K) hr.units) (pv 2) (pe_lst pa_nil) (nomark _)) 
        (pss_cons (ps_expr (pe_bm PySem.F.plainAttrs_list PySem.F.slot_list_append PySem.F.type_list_append mt_append (pv 1) (pa_cons (pe_ix (ix_listK (K := K)) (pv 2) pe_int (fun _ _ => rfl)) pa_nil))) 
        (pss_one (ps_setLc (i := 2) (own := [("value", 3), ("later", 4)]) rfl nd rfl rfl (sw_true rfl rfl rfl (by decide +kernel)) (pi_zipK (K := K) T.b_zip (pa_cons (pv 2) (pa_cons (pe_slice (sl_listK (K := K)) (pv 2) (po_some pe_int) po_none) pa_nil))) (blkOk_by (own := [("value", 3), ("later", 4)]) (N := ["stretch", "found", "row", "value", "later"]) (sc := defScope (topS 37)) (by decide +kernel)) (fun _ _ _ _ _ => (pg_tupK (K := K) (n := 2) (pgs_cons (pg_name (i := 3) nd rfl (Or.inl rfl) (Or.inr rfl)) (pgs_cons (pg_name (i := 4) nd rfl (Or.inl rfl) (Or.inr rfl)) pgs_nil)))) (fun _ _ _ _ _ => pts_nil) (fun _ _ _ _ _ => (pe_op op_sub (pv 4) (pv 3))))))) 
      (pss_one (ps_ret (pv 1))))), ?_⟩
    walk_at "st"
    have ha' : H a = some (.lst (l.map V.int)) := ha
    walk_at "rd"
    intro p hp
    have s0 : Same H (upd H p (.lst [])) := Same.new hp
    refine listOf (s0 _ _ ha') fun r hr => ?_
    have s1 : Same H (upd (upd H p (.lst [])) r (.lst (l.map V.int))) := Same.newT s0 hr
    have npr : p ≠ r := ne_of_none upd_same hr
    refine ⟨fun z σ H' => ∃ t r' u v, z = l.length - t ∧ t ≤ l.length ∧ σ = [some (.ref a), some (.ref p), some (.ref r'), u, v] ∧ Same H H' ∧ p ≠ r' ∧ H' p = some (.lst (((List.range t).map fun i => KM.D i (KM.vf l) 0).map V.int)) ∧ IL H' r' (dRow l t),
      ⟨l.length, 0, r, none, none, rfl, Nat.zero_le _, rfl, s1, npr, ?_, ?_⟩, ?_⟩
    · rw [upd_ne npr]; exact upd_same
    · rw [dRow_0]; exact upd_same
    rintro z σ H1 ⟨t, r', u, v, hz, htl, rfl, sA, npr', hpA, hrA⟩
    have hrA' : H1 r' = some (.lst ((dRow l t).map V.int)) := hrA
    walk_at "rd"
    intro q hq
    have sB : Same H1 (upd H1 q (.lst [])) := Same.new hq
    refine ne_IL (hrA.mono sB) (upd_same : IL _ q []) ?_
    walk_at "rd"
    by_cases ht : t = l.length
    · have e : dRow l t = [] := List.eq_nil_of_length_eq_zero (by rw [dRow_length]; omega)
      refine ifF (by simp [e]) ?_
      refine k _ p (Same.trans sA sB) ?_
      rw [ht] at hpA
      exact sB _ _ hpA
    · have hlt : t < l.length := by omega
      have e : ¬ dRow l t = [] := fun e => by
        have z := dRow_length l t
        rw [e] at z
        simp at z
        omega
      refine ifT (by simp [e]) ?_
      refine ⟨_, fun σ' H' h => h, ty_lst (sB _ _ hpA), ?_⟩
      refine ixL (sB _ _ hrA') (atM (j := 0) rfl (dRow_get l t 0 (by omega))) ?_
      refine ⟨p, _, _, rfl, rfl, sB _ _ hpA, ?_, ?_⟩
      · rw [List.length_map, List.length_map, List.length_range]
        exact Nat.lt_of_lt_of_le (show t < 100 by omega) (by decide)
      walk_at "rd"
      have hpC : upd (upd H1 q (.lst [])) p (.lst (((List.range t).map fun i => KM.D i (KM.vf l) 0).map V.int ++ [V.int (KM.D t (KM.vf l) 0)])) p = some (.lst (((List.range (t + 1)).map fun i => KM.D i (KM.vf l) 0).map V.int)) := by
        rw [range_more, List.map_append]
        exact upd_same
      have npq : p ≠ q := ne_of_none hpA hq
      have nrq : r' ≠ q := ne_of_none hrA' hq
      have hrC : upd (upd H1 q (.lst [])) p (.lst (((List.range t).map fun i => KM.D i (KM.vf l) 0).map V.int ++ [V.int (KM.D t (KM.vf l) 0)])) r' = some (.lst ((dRow l t).map V.int)) := by
        rw [upd_ne (Ne.symm npr'), upd_ne nrq]
        exact hrA'
      have sC : Same H (upd (upd H1 q (.lst [])) p (.lst (((List.range t).map fun i => KM.D i (KM.vf l) 0).map V.int ++ [V.int (KM.D t (KM.vf l) 0)]))) := Same.mut (Same.trans sA sB) hp
      generalize upd (upd H1 q (.lst [])) p (.lst (((List.range t).map fun i => KM.D i (KM.vf l) 0).map V.int ++ [V.int (KM.D t (KM.vf l) 0)])) = H2 at *
      refine slL hrC fun y hy => ?_
      have ec : cutV ((dRow l t).map V.int) (some 1) none = ((dRow l t).map V.int).drop 1 := cut_from _ 1
      rw [ec]
      have sD : Same H2 (upd H2 y (.lst (((dRow l t).map V.int).drop 1))) := Same.new hy
      refine ⟨r', y, _, _, rfl, SqL.of (sD _ _ hrC), SqL.of upd_same, fun Dd hD => ?_⟩
      have nDp : p ≠ Dd := ne_of_none (sD _ _ hpC) hD
      refine lcMap (walk_zip (n := l.length - t - 1) (by rw [List.length_drop, List.length_map, dRow_length]; omega)) (fun i H' acc => acc = ((List.range i).map fun j => KM.D (t + 1) (KM.vf l) j).map V.int) hD (fun _ => rfl) (fun H' s => ⟨SqL.of (s _ _ (sD _ _ hrC)), SqL.of (s _ _ upd_same)⟩) ?_ ?_
      · rintro i x H3 H' acc hi s3 hacc hl hA ⟨T1, x1, x2, rfl, hT, rfl, hx1, hx2⟩
        have hx1 : ((dRow l t).map V.int)[i]? = some x1 := hx1
        have hx2 : (((dRow l t).map V.int).drop 1)[i]? = some x2 := hx2
        rw [List.getElem?_map, dRow_get l t i (by omega)] at hx1
        rw [List.getElem?_drop, List.getElem?_map, dRow_get l t (1 + i) (by omega)] at hx2
        cases hx1
        cases hx2
        refine gtup upd_same ?_
        walk_at "rd"
        refine lcEnd s3 hacc hl (by omega) hD (Same.new hT) ?_
        rw [hA, range_more, List.map_append, Nat.add_comm 1 i]
        rfl
      · intro H3 acc s3 hacc hl hA
        walk_at "rd"
        refine ⟨l.length - (t + 1), by omega, t + 1, Dd, _, _, rfl, by omega, rfl, Same.trans sC (Same.trans sD s3), nDp, s3 _ _ (sD _ _ hpC), ?_⟩
        show H3 Dd = some (.lst ((dRow l (t + 1)).map V.int))
        rw [hacc, hA]
        rfl
theorem sc_differences : FnScope ["stretch"] ["stretch"] (defScope (topS 38)) := ⟨rfl, rfl, rfl, by decide +kernel, rfl, by decide +kernel, by decide +kernel⟩
theorem ok_differences (T : Txt K mg) (dn : Dfn K mg "differences" (topS 38) ["stretch"]) (h_need_stretch : HasD P w K mg base "need_stretch" 3 ["stretch", "most"] spNeedStretch) (h_differences_in : Has P w K mg base "differences_in" 1 ["stretch"] spDiffs) : Has P w K mg base "differences" 4 ["stretch"] spDiffs := by
  refine dn.has fun f fd F => ?_
  have nd := sc_differences.nd
  refine F.ok sc_differences (fun vs H Q E h => ?_) (fun cdv A outer s H vs Q E hr h => ?_)
  · obtain ⟨a, l, rfl, ha, h1, h2, k⟩ := h
    rfl
  · obtain ⟨a, l, rfl, ha, h1, h2, k⟩ := h
    refine ⟨_, 
      (pss_cons (ps_expr (pe_hasD1 h_need_stretch (hr.mono (by decide)) (pa_cons (pv 0) pa_nil))) 
      (pss_one (ps_ret (pe_has h_differences_in (hr.mono (by decide)) (pa_cons (pv 0) pa_nil))))), ?_⟩
    walk_at "st"
    walk_at "rd"
    refine ⟨a, l, 40, rfl, ha, h1, by omega, by decide, fun H1 s1 => ?_⟩
    walk_at "rd"
    exact ⟨a, l, rfl, ha.mono s1, h1, h2, fun H2 p s2 hp => k H2 p (Same.trans s1 s2) hp⟩
theorem sc_stretch_conflict : FnScope ["stretch", "number", "value"] ["stretch"] (defScope (topS 39)) := ⟨rfl, rfl, rfl, by decide +kernel, rfl, by decide +kernel, by decide +kernel⟩
theorem ok_stretch_conflict (T : Txt K mg) (dn : Dfn K mg "stretch_conflict" (topS 39) ["stretch"]) (h_need_stretch : HasD P w K mg base "need_stretch" 3 ["stretch", "most"] spNeedStretch) (h_differences_in : Has P w K mg base "differences_in" 1 ["stretch"] spDiffs) (h_divides : Has P w K mg base "divides" 1 ["number", "other"] spDivides) (h_multiple_of : Has P w K mg base "multiple_of" 2 ["numbers"] spLcm) : Has P w K mg base "stretch_conflict" 4 ["stretch"] spSC := by
  refine dn.has fun f fd F => ?_
  have nd := sc_stretch_conflict.nd
  refine F.ok sc_stretch_conflict (fun vs H Q E h => ?_) (fun cdv A outer s H vs Q E hr h => ?_)
  · obtain ⟨a, l, rfl, ha, h1, h2, k⟩ := h
    rfl
  · obtain ⟨a, l, rfl, ha, h1, h2, k⟩ := h
    refine ⟨_, 
      (pss_cons (ps_expr (pe_hasD1 h_need_stretch (hr.mono (by decide)) (pa_cons (pv 0) pa_nil))) 
      (pss_cons (ps_for PassesOwn.never rfl (pi_enumK (K := K) T.b_enumerate (pa_cons (pe_has h_differences_in (hr.mono (by decide)) (pa_cons (pv 0) pa_nil)) pa_nil)) (pg_tupK (K := K) (n := 2) (pgs_cons (pg_name (i := 1) nd rfl (Or.inl rfl) (Or.inr rfl)) (pgs_cons (pg_name (i := 2) nd rfl (Or.inl rfl) (Or.inr rfl)) pgs_nil))) 
        (pss_one (ps_if (pt_not (pt_val (pe_has h_divides (hr.mono (by decide)) (pa_cons (pe_has h_multiple_of (hr.mono (by decide)) (pa_cons (pe_listRg rfl rfl T.b_list (prg_2 rfl T.b_range pe_int (pe_op op_add (pv 1) pe_int))) pa_nil)) (pa_cons (pv 2) pa_nil))))) 
          (pss_one (ps_ret (pv 1))) pss_nil))) 
      (pss_one (ps_ret pe_non)))), ?_⟩
    walk_at "st"
    walk_at "rd"
    refine ⟨a, l, 40, rfl, ha, h1, by omega, by decide, fun H1 s1 => ?_⟩
    walk_at "rd"
    refine ⟨a, l, rfl, ha.mono s1, h1, h2, fun H2 p s2 hp => ?_⟩
    have hp' : H2 p = some (.lst ((KM.diffs l).map V.int)) := hp
    have ld : (KM.diffs l).length = l.length := by unfold KM.diffs; rw [List.length_map, List.length_range]
    walk_at "rd"
    refine ⟨p, _, rfl, SqL.of hp', ?_⟩
    refine forW (walk_enum (xs := (KM.diffs l).map V.int)) (fun i σ H' => (∃ u v, σ = [some (.ref a), u, v]) ∧ Same H2 H' ∧ ∀ j, j < i → (KM.W j : Int) ∣ KM.D j (KM.vf l) 0)
      ⟨⟨none, none, rfl⟩, Same.refl _, fun j hj => absurd hj (Nat.not_lt_zero _)⟩ (fun i σ H' _ h => SqL.of (h.2.1 _ _ hp')) ?_ ?_
    · rintro i x σ H3 H' hi ⟨⟨u, v, rfl⟩, s3, hW⟩ ⟨T1, y, v', rfl, hT, rfl, hy, hxi⟩
      rw [List.length_map, ld] at hi
      have hy : V.int (i : Nat) = y := Option.some.inj hy
      subst hy
      obtain ⟨d, hd, rfl⟩ := map_get (show ((KM.diffs l).map V.int)[i]? = some v' from hxi)
      have ed : d = KM.D i (KM.vf l) 0 := by
        unfold KM.diffs at hd
        rw [List.getElem?_map, List.getElem?_eq_getElem (by rw [List.length_range]; exact hi), List.getElem_range] at hd
        exact (Option.some.inj hd).symm
      have s4 := Same.newT s3 (o := .tup [V.int (i : Nat), V.int d]) hT
      refine gtup upd_same ?_
      walk_at "rd"
      refine ⟨RgOk.of_le (by decide) (by omega) (by decide) (by omega), fun q hq => ?_⟩
      walk_at "rd"
      refine ⟨q, i, rfl, by omega, upd_same, ?_⟩
      walk_at "rd"
      refine ⟨_, _, rfl, ?_⟩
      walk_at "rd"
      have s5 := Same.newT s4 (o := .lst (rgV 1 ((i : Int) + 1))) hq
      by_cases hdv : ((KM.W i : Nat) : Int) ∣ d
      · refine ifF (by simp [hdv]) ?_
        refine ⟨⟨_, _, rfl⟩, s5, fun j hj => ?_⟩
        by_cases e : j = i
        · rw [e, ← ed]; exact hdv
        · exact hW j (by omega)
      · refine ifT (by simp [hdv]) ?_
        refine k _ _ (Same.trans s1 (Same.trans s2 s5)) (.inr ⟨i, rfl, fun h => ?_⟩)
        rw [ed] at hdv
        exact hdv (h i hi)
    · rintro σ H3 ⟨⟨u, v, rfl⟩, s3, hW⟩
      walk_at "rd"
      rw [List.length_map, ld] at hW
      exact k _ _ (Same.trans s1 (Same.trans s2 s3)) (.inl ⟨rfl, hW⟩)
theorem sc_next_class : FnScope ["stretch"] ["stretch"] (defScope (topS 40)) := ⟨rfl, rfl, rfl, by decide +kernel, rfl, by decide +kernel, by decide +kernel⟩
theorem ok_next_class {C : Addr} (T : Txt K mg) (dn : Dfn K mg "next_class" (topS 40) ["stretch"]) (h_need_stretch : HasD P w K mg base "need_stretch" 3 ["stretch", "most"] spNeedStretch) (h_need_right : HasX P w K mg base "need_right" 7 ["stretch"] (spNeedRight C)) (h_class_by : Has P w K mg base "class_by" 3 ["items", "place"] spClsBy) (h_items_in : Has P w K mg base "items_in" 1 ["stretch"] spItems) : HasX P w K mg base "next_class" 8 ["stretch"] (spNextCls C) := by
  refine dn.hasX fun f fd F => ?_
  have nd := sc_next_class.nd
  refine F.okX sc_next_class (fun vs H Q E h => ?_) (fun cdv A outer s H vs Q E hr h => ?_)
  · obtain ⟨a, l, rfl, ha, h1, h2, k1, k2⟩ := h
    rfl
  · obtain ⟨a, l, rfl, ha, h1, h2, k1, k2⟩ := h
    refine ⟨_, 
      (pss_cons (ps_expr (pe_hasD1 h_need_stretch (hr.mono (by decide)) (pa_cons (pv 0) pa_nil))) 
      (pss_cons (ps_expr (pe_hasE h_need_right (hr.mono (by decide)) (takes_of rfl rfl rfl rfl) (pa_cons (pv 0) pa_nil))) 
      (pss_one (ps_ret (pe_has h_class_by (hr.mono (by decide)) (pa_cons (pe_has h_items_in (hr.mono (by decide)) (pa_cons (pv 0) pa_nil)) (pa_cons (pe_callB (call_lenK (K := K)) (by rfl) T.b_len (by decide +kernel) (pa_cons (pv 0) pa_nil)) pa_nil))))))), ?_⟩
    walk_at "st"
    walk_at "rd"
    refine ⟨a, l, 40, rfl, ha, h1, by omega, by decide, fun H1 s1 => ?_⟩
    walk_at "rd"
    refine ⟨a, l, rfl, ha.mono s1, by omega, fun e H2 s2 => ?_, fun q r e H2 d s2 hd => k2 q r e H2 d (Same.trans s1 s2) hd⟩
    have hF := KM.conf_nil.mp e
    have ha2 : H2 a = some (.lst (l.map V.int)) := ha.mono (Same.trans s1 s2)
    walk_at "rd"
    refine ⟨a, l, rfl, ha2, by omega, fun H3 p s3 hp => ?_⟩
    walk_at "rd"
    refine lenL (s3 _ _ ha2) ?_
    rw [List.length_map]
    refine ⟨p, _, _, rfl, hp, hF, placeOk_en (by omega) (by omega) (by omega), fun H4 t r m s4 ht hc => ?_⟩
    exact k1 hF H4 t r m (Same.trans (Same.trans s1 s2) (Same.trans s3 s4)) ht hc
theorem sc_class_ahead : FnScope ["stretch"] ["stretch"] (defScope (topS 41)) := ⟨rfl, rfl, rfl, by decide +kernel, rfl, by decide +kernel, by decide +kernel⟩
theorem ok_class_ahead {C : Addr} (T : Txt K mg) (dn : Dfn K mg "class_ahead" (topS 41) ["stretch"]) (h_need_stretch : HasD P w K mg base "need_stretch" 3 ["stretch", "most"] spNeedStretch) (h_need_right : HasX P w K mg base "need_right" 7 ["stretch"] (spNeedRight C)) (h_class_by : Has P w K mg base "class_by" 3 ["items", "place"] spClsBy) (h_items_in : Has P w K mg base "items_in" 1 ["stretch"] spItems) : Has P w K mg base "class_ahead" 8 ["stretch"] spClsAhead := by
  refine dn.has fun f fd F => ?_
  have nd := sc_class_ahead.nd
  refine F.ok sc_class_ahead (fun vs H Q E h => ?_) (fun cdv A outer s H vs Q E hr h => ?_)
  · obtain ⟨a, l, rfl, ha, h1, h2, hF, k⟩ := h
    rfl
  · obtain ⟨a, l, rfl, ha, h1, h2, hF, k⟩ := h
    refine ⟨_, 
      (pss_cons (ps_expr (pe_hasD1 h_need_stretch (hr.mono (by decide)) (pa_cons (pv 0) pa_nil))) 
      (pss_cons (ps_expr (pe_hasX h_need_right (hr.mono (by decide)) (pa_cons (pv 0) pa_nil))) 
      (pss_one (ps_ret (pe_has h_class_by (hr.mono (by decide)) (pa_cons (pe_has h_items_in (hr.mono (by decide)) (pa_cons (pv 0) pa_nil)) (pa_cons (pe_un un_neg pe_int) pa_nil))))))), ?_⟩
    walk_at "st"
    walk_at "rd"
    refine ⟨a, l, 40, rfl, ha, h1, by omega, by decide, fun H1 s1 => ?_⟩
    walk_at "rd"
    refine ⟨a, l, rfl, ha.mono s1, by omega, fun _ H2 s2 => ?_, fun q r e => by rw [KM.conf_nil.mpr hF] at e; cases e⟩
    walk_at "rd"
    refine ⟨a, l, rfl, ha.mono (Same.trans s1 s2), by omega, fun H3 p s3 hp => ?_⟩
    walk_at "rd"
    refine ⟨p, _, -1, rfl, hp, hF, placeOk_en (by omega) (by omega) (by decide), fun H4 t r m s4 ht hc => ?_⟩
    exact k H4 t r m (Same.trans (Same.trans s1 s2) (Same.trans s3 s4)) ht hc
theorem sc_longer : FnScope ["stretch", "many", "found", "turn"] ["stretch", "many"] (defScope (topS 42)) := ⟨rfl, rfl, rfl, by decide +kernel, rfl, by decide +kernel, by decide +kernel⟩
theorem ok_longer {C : Addr} (T : Txt K mg) (dn : Dfn K mg "longer" (topS 42) ["stretch", "many"]) (h_need_stretch : HasD P w K mg base "need_stretch" 3 ["stretch", "most"] spNeedStretch) (h_need_right : HasX P w K mg base "need_right" 7 ["stretch"] (spNeedRight C)) (h_first_from : Has P w K mg base "first_from" 1 ["own_class", "value"] spFirst) (h_class_by : Has P w K mg base "class_by" 3 ["items", "place"] spClsBy) (h_items_in : Has P w K mg base "items_in" 1 ["stretch"] spItems) : Has P w K mg base "longer" 8 ["stretch", "many"] spLonger := by
  refine dn.has fun f fd F => ?_
  have nd := sc_longer.nd
  refine F.ok sc_longer (fun vs H Q E h => ?_) (fun cdv A outer s H vs Q E hr h => ?_)
  · obtain ⟨a, l, n, rfl, ha, h1, h2, hF, k⟩ := h
    rfl
  · obtain ⟨a, l, n, rfl, ha, h1, h2, hF, k⟩ := h
    refine ⟨_, 
      (pss_cons (ps_expr (pe_hasD1 h_need_stretch (hr.mono (by decide)) (pa_cons (pv 0) pa_nil))) 
      (pss_cons (ps_if (PW.pt (pw_or (pt_cmpR op_lt (pv 1) pe_int (nomark _)) (pw_or1 (pt_cmpR op_gt (pe_op op_add (pe_callB (call_lenK (K := K)) (by rfl) T.b_len (by decide +kernel) (pa_cons (pv 0) pa_nil)) (pv 1)) (pe_gi T.c_MOST_VALUES) (nomark _))))) 
        (pss_one ps_never) pss_nil) 
      (pss_cons (ps_expr (pe_hasX h_need_right (hr.mono (by decide)) (pa_cons (pv 0) pa_nil))) 
      (pss_cons (ps_set (i := 2) nd rfl (Or.inl rfl) (pe_callTy (call_listK (K := K)) (by rfl) T.b_list (by decide +kernel) (pa_cons (pv 0) pa_nil)) (hf := Or.inr rfl)) 
      (pss_cons (ps_for PassesOwn.never rfl (pi_range1 rfl T.b_range (pa_cons (pv 1) pa_nil)) (pg_name (i := 3) nd rfl (Or.inl rfl) (Or.inr rfl)) 
        (pss_one (ps_expr (pe_bm PySem.F.plainAttrs_list PySem.F.slot_list_append PySem.F.type_list_append mt_append (pv 2) (pa_cons (pe_has h_first_from (hr.mono (by decide)) (pa_cons (pe_has h_class_by (hr.mono (by decide)) (pa_cons (pe_has h_items_in (hr.mono (by decide)) (pa_cons (pv 2) pa_nil)) (pa_cons (pe_callB (call_lenK (K := K)) (by rfl) T.b_len (by decide +kernel) (pa_cons (pv 2) pa_nil)) pa_nil))) (pa_cons pe_int pa_nil))) pa_nil))))) 
      (pss_one (ps_ret (pv 2)))))))), ?_⟩
    walk_at "st"
    walk_at "rd"
    refine ⟨a, l, 40, rfl, ha, h1, by omega, by decide, fun H1 s1 => ?_⟩
    have ha1 : H1 a = some (.lst (l.map V.int)) := ha.mono s1
    walk_at "rd"
    refine ifF (decide_eq_false (by omega)) (lenL ha1 ?_)
    walk_at "rd"
    refine ifF (decide_eq_false (by rw [List.length_map]; omega)) ?_
    refine ⟨a, l, rfl, ha1, by omega, fun _ H2 s2 => ?_, fun q r e => by rw [KM.conf_nil.mpr hF] at e; cases e⟩
    walk_at "rd"
    refine listOf (s2 _ _ ha1) fun p hp => ?_
    walk_at "rd"
    refine ⟨by omega, by omega, ?_⟩
    have en : ((n : Nat) : Int).toNat = n := by omega
    rw [en]
    have nap : a ≠ p := ne_of_none (s2 _ _ ha1) hp
    have s2' : Same H H2 := Same.trans s1 s2
    refine forW walk_range (fun i σ H' => i ≤ n ∧ (∃ u, σ = [some (.ref a), some (.int n), some (.ref p), u]) ∧ Same H H' ∧ IL H' p (KM.ext l i) ∧ KM.Fit (KM.en 0 (KM.ext l i)))
      ⟨Nat.zero_le _, ⟨none, rfl⟩, Same.newT s2' hp, upd_same, hF⟩ (fun _ _ _ _ _ => trivial) ?_ ?_
    · rintro i x σ H3 H' hi ⟨hin, ⟨u, rfl⟩, s3, hp3, hF3⟩ ⟨rfl, rfl⟩
      have hp3' : H' p = some (.lst ((KM.ext l i).map V.int)) := hp3
      have el := KM.ext_length l i
      walk_at "rd"
      refine ⟨ty_lst hp3', p, KM.ext l i, rfl, hp3, by omega, fun H4 p4 s4 hp4 => ?_⟩
      walk_at "rd"
      have hp4' := s4 _ _ hp3'
      refine lenL hp4' ?_
      walk_at "rd"
      rw [List.length_map]
      refine ⟨p4, _, _, rfl, hp4, hF3, placeOk_en (by omega) (by omega) (by omega), fun H5 t r m s5 ht hc => ?_⟩
      walk_at "rd"
      refine ⟨t, r, m, rfl, ht, hc.lo, hc.hi, ?_⟩
      walk_at "rd"
      have hp5 := s5 _ _ hp4'
      refine ⟨p, _, _, rfl, rfl, hp5, ?_, by omega, ⟨_, rfl⟩, ?_, ?_, ?_⟩
      · rw [List.length_map]
        exact Nat.lt_of_lt_of_le (show (KM.ext l i).length < 100 by omega) (by decide)
      · exact Same.mut (Same.trans s3 (Same.trans s4 s5)) (by
          cases e : H p with
          | none => rfl
          | some o => rw [s2' _ _ e] at hp; cases hp)
      · show upd H5 p _ p = some (.lst ((KM.ext l i ++ [KM.nx (KM.ext l i)]).map V.int))
        rw [KM.nx_eq hc, List.map_append]
        exact upd_same
      · show KM.Fit (KM.en 0 (KM.ext l i ++ [KM.nx (KM.ext l i)]))
        rw [KM.nx_eq hc]
        exact KM.fit_snoc hF3 hc
    · rintro σ H3 ⟨hin, ⟨u, rfl⟩, s3, hp3, hF3⟩
      walk_at "rd"
      exact k H3 p s3 hp3 hF3
theorem sc_book_of : FnScope ["place", "stretch", "number", "value"] ["place", "stretch"] (defScope (topS 43)) := ⟨rfl, rfl, rfl, by decide +kernel, rfl, by decide +kernel, by decide +kernel⟩
theorem ok_book_of (T : Txt K mg) (dn : Dfn K mg "book_of" (topS 43) ["place", "stretch"]) (h_need_stretch : HasD P w K mg base "need_stretch" 3 ["stretch", "most"] spNeedStretch) : Has P w K mg base "book_of" 4 ["place", "stretch"] spBookOf := by
  refine dn.has fun f fd F => ?_
  have nd := sc_book_of.nd
  refine F.ok sc_book_of (fun vs H Q E h => ?_) (fun cdv A outer s H vs Q E hr h => ?_)
  · obtain ⟨a, l, s0, rfl, ha, h1, h2, k⟩ := h
    rfl
  · obtain ⟨a, l, s0, rfl, ha, h1, h2, k⟩ := h
    refine ⟨_, 
      (pss_cons (ps_expr (pe_hasD2 h_need_stretch (hr.mono (by decide)) (pa_cons (pv 1) (pa_cons (pe_gi T.c_MOST_ITEMS) pa_nil)))) 
      (pss_one (ps_ret (pe_lc (own := [("number", 2), ("value", 3)]) rfl nd (pi_enumK (K := K) T.b_enumerate (pa_cons (pv 1) pa_nil)) (blkOk_by (own := [("number", 2), ("value", 3)]) (N := ["place", "stretch", "number", "value"]) (sc := defScope (topS 43)) (by decide +kernel)) (fun _ _ _ _ _ => (pg_tupK (K := K) (n := 2) (pgs_cons (pg_name (i := 2) nd rfl (Or.inl rfl) (Or.inr rfl)) (pgs_cons (pg_name (i := 3) nd rfl (Or.inl rfl) (Or.inr rfl)) pgs_nil)))) (fun _ _ _ _ _ => pts_nil) (fun _ _ _ _ _ => (pe_tup (pa_cons (pe_op op_add (pv 0) (pv 2)) (pa_cons (pv 3) pa_nil)))))))), ?_⟩
    walk_at "st"
    walk_at "rd"
    refine ⟨a, l, 24, rfl, ha, h1, by omega, by decide, fun H1 s1 => ?_⟩
    have ha1 : H1 a = some (.lst (l.map V.int)) := ha.mono s1
    walk_at "rd"
    refine ⟨a, l.map V.int, rfl, SqL.of ha1, fun D hD => ?_⟩
    refine lcMap (walk_enum (xs := l.map V.int)) (fun i H' acc => Prs H' acc (KM.en s0 (l.take i))) hD (fun _ => .nil) (fun H' s => SqL.of (s _ _ ha1)) ?_ ?_
    · rintro i x H2 H' acc hi s2 hacc hl hA ⟨T1, y, v, rfl, hT, rfl, hy, hxi⟩
      rw [List.length_map] at hi
      have hy : V.int (i : Nat) = y := Option.some.inj hy
      subst hy
      obtain ⟨v, hv, rfl⟩ := map_get (show (l.map V.int)[i]? = some v from hxi)
      refine gtup upd_same ?_
      walk_at "rd"
      intro p hp
      have s3 : Same H2 (upd (upd H2 T1 (.tup [V.int (i : Nat), V.int v])) p (.tup [V.int (s0 + (i : Nat)), V.int v])) := Same.newT (Same.new hT) hp
      have hacc3 := s3 _ _ hacc
      refine lcEnd s2 hacc hl (by omega) hD s3 (Prs.updL hacc3 ?_)
      rw [take_more hv, KM.en_append]
      have el : (l.take i).length = i := by rw [List.length_take]; omega
      rw [el]
      exact (Prs.mono s3 hA).snoc (q := (s0 + (i : Int), v)) ⟨p, rfl, upd_same⟩
    · intro H2 acc s2 hacc hl hA
      rw [List.length_map, List.take_length] at hA
      exact k H2 D (Same.trans s1 s2) (Same.free s1 hD) ⟨acc, hacc, hA⟩
theorem sc__law_purse : FnScope ["_law_script", "_law_k", "_law_cell_here"] ["_law_script", "_law_k"] (defScope (topS 45)) := ⟨rfl, rfl, rfl, by decide +kernel, rfl, by decide +kernel, by decide +kernel⟩
theorem ok__law_purse (T : Txt K mg) (dn : Dfn K mg "_law_purse" (topS 45) ["_law_script", "_law_k"]) : Has P w K mg base "_law_purse" 1 ["_law_script", "_law_k"] (spPurse K) := by
  refine dn.has fun f fd F => ?_
  have nd := sc__law_purse.nd
  refine F.ok sc__law_purse (fun vs H Q E h => ?_) (fun cdv A outer s H vs Q E hr h => ?_)
  · obtain ⟨a, ns, k0, rfl, hS, hk, k⟩ := h
    rfl
  · obtain ⟨a, ns, k0, rfl, hS, hk, k⟩ := h
    refine ⟨_, 
      (pss_cons (ps_set (i := 2) nd rfl (Or.inl rfl) (pe_ifExp (pt_cmpR op_lt (pv 1) (pe_callB (call_lenK (K := K)) (by rfl) T.b_len (by decide +kernel) (pa_cons (pv 0) pa_nil)) (nomark _)) (pe_ix (ix_listK (K := K)) (pv 0) (pv 1) (fun _ _ => rfl)) pe_int) (hf := Or.inr rfl)) 
      (pss_one (ps_ret (pe_lst (pa_cons (pe_callB call_max2K (by rfl) T.b_max (by decide +kernel) (pa_cons pe_int (pa_cons (pe_op op_sub (pe_callB call_absK (by rfl) T.b_abs (by decide +kernel) (pa_cons (pv 2) pa_nil)) (pe_op op_powW pe_int pe_int)) pa_nil))) (pa_cons (pe_op op_add (pe_op op_mulW (pe_op op_mod (pe_callTy call_int1K (by rfl) T.b_int (by decide +kernel) (pa_cons (pv 2) pa_nil)) (pe_op op_add (pe_op op_powW pe_int pe_int) pe_int)) pe_int) (pe_op op_mulW pe_int (pv 1))) (pa_cons pe_int pa_nil))))))), ?_⟩
    walk_at "st"
    have p41 : 0 < (10 : Int) ^ 41 + 37 := by decide
    have m1 : CMulW 60013 (k0 : Int) := mulS (by decide) (by omega)
    walk_at "rd"
    refine lenS hS ?_
    walk_at "rd"
    by_cases hlt : (k0 : Int) < ((ns.map V.int).length : Int)
    · refine ifT (decide_eq_true hlt) ?_
      rw [List.length_map] at hlt
      refine ixS hS (atI_getD ns (by omega) hlt) ?_
      generalize ns.getD (k0 : Int).toNat 0 = z
      walk_at "rd"
      have x0 := Int.emod_nonneg z (show (10 : Int) ^ 41 + 37 ≠ 0 by omega)
      have x1 := Int.emod_lt_of_pos z p41
      refine ⟨cp10 (by decide) (by decide), cp10 (by decide) (by decide), p41, mulS (by omega) (by decide), m1, fun p hp => ?_⟩
      exact k _ p (Same.new hp) hp ⟨_, _, 0, upd_same, by omega, by omega, by omega, by decide, by decide⟩
    · refine ifF (decide_eq_false hlt) ?_
      refine ⟨cp10 (by decide) (by decide), cp10 (by decide) (by decide), p41, mulS (by decide) (by decide), m1, fun p hp => ?_⟩
      exact k _ p (Same.new hp) hp ⟨_, _, 0, upd_same, by omega, by omega, by omega, by decide, by decide⟩
theorem sc__law_toss : FnScope ["_law_purse_here", "_law_many", "_law_side", "_law_mixed"] ["_law_purse_here", "_law_many"] (defScope (topS 46)) := ⟨rfl, rfl, rfl, by decide +kernel, rfl, by decide +kernel, by decide +kernel⟩
theorem ok__law_toss (T : Txt K mg) (dn : Dfn K mg "_law_toss" (topS 46) ["_law_purse_here", "_law_many"]) : Has P w K mg base "_law_toss" 1 ["_law_purse_here", "_law_many"] spToss := by
  refine dn.has fun f fd F => ?_
  have nd := sc__law_toss.nd
  refine F.ok sc__law_toss (fun vs H Q E h => ?_) (fun cdv A outer s H vs Q E hr h => ?_)
  · obtain ⟨p, n, many, rfl, hp, hn, hm, hm2, k⟩ := h
    rfl
  · obtain ⟨p, n, many, rfl, hp, hn, hm, hm2, k⟩ := h
    refine ⟨_, 
      (pss_cons (ps_if (pt_cmpR op_gt (pe_ix (ix_listK (K := K)) (pv 0) pe_int (fun _ _ => rfl)) pe_int (nomark _)) 
        (pss_cons (ps_set (i := 2) nd rfl (Or.inl rfl) (pe_op op_mod (pe_callTy call_int1K (by rfl) T.b_int (by decide +kernel) (pa_cons (pe_ix (ix_listK (K := K)) (pv 0) pe_int (fun _ _ => rfl)) pa_nil)) (pv 1)) (hf := Or.inr rfl)) 
        (pss_cons (ps_asg (pe_op op_fdivW (pe_ix (ix_listK (K := K)) (pv 0) pe_int (fun _ _ => rfl)) (pv 1)) (pg_sub (pv 0) pe_int set_list)) 
        (pss_one (ps_ret (pv 2))))) pss_nil) 
      (pss_cons (ps_asg (pe_op op_add (pe_ix (ix_listK (K := K)) (pv 0) pe_int (fun _ _ => rfl)) pe_int) (pg_sub (pv 0) pe_int set_list)) 
      (pss_cons (ps_set (i := 3) nd rfl (Or.inl rfl) (pe_op op_mod (pe_callTy call_int1K (by rfl) T.b_int (by decide +kernel) (pa_cons (pe_op op_powW (pe_op op_add (pe_ix (ix_listK (K := K)) (pv 0) pe_int (fun _ _ => rfl)) (pe_op op_mulW pe_int (pe_ix (ix_listK (K := K)) (pv 0) pe_int (fun _ _ => rfl)))) pe_int) pa_nil)) (pe_op op_add (pe_op op_powW pe_int pe_int) pe_int)) (hf := Or.inr rfl)) 
      (pss_cons (ps_set (i := 3) nd rfl (Or.inl rfl) (pe_op op_mod (pe_callTy call_int1K (by rfl) T.b_int (by decide +kernel) (pa_cons (pe_op op_powW (pe_op op_add (pv 3) (pe_op op_mulW pe_int (pe_ix (ix_listK (K := K)) (pv 0) pe_int (fun _ _ => rfl)))) pe_int) pa_nil)) (pe_op op_add (pe_op op_powW pe_int pe_int) pe_int)) (hf := Or.inr rfl)) 
      (pss_one (ps_ret (pe_op op_mod (pe_callTy call_int1K (by rfl) T.b_int (by decide +kernel) (pa_cons (pe_op op_fdivW (pv 3) pe_int) pa_nil)) (pv 1)))))))), ?_⟩
    walk_at "st"
    obtain ⟨a, b, c, hpp, a0, b0, b1, c0, c1⟩ := id hp
    walk_at "rd"
    refine ixL hpp rfl ?_
    walk_at "rd"
    have hm0 : 0 < many := by omega
    have dm : ∀ x, CDivW x many := fun x => divW 200 hm0 (by omega)
    by_cases ha : 0 < a
    · refine ifT (decide_eq_true ha) (ixL hpp rfl ?_)
      walk_at "rd"
      refine ⟨hm0, ixL hpp rfl ?_⟩
      walk_at "rd"
      refine ⟨dm _, p, _, 0, 0, rfl, rfl, hpp, rfl, ?_⟩
      exact k _ _ off_upd ⟨_, b, c, upd_same, Int.ediv_nonneg a0 (by omega), b0, b1, c0, by omega⟩ (Int.emod_nonneg _ (by omega)) (Int.emod_lt_of_pos _ hm0)
    · refine ifF (decide_eq_false ha) (ixL hpp rfl ?_)
      walk_at "rd"
      refine ⟨p, _, 2, 2, rfl, rfl, hpp, rfl, ?_⟩
      have h2 : upd H p (.lst ([V.int a, V.int b, V.int c].set 2 (V.int (c + 1)))) p = some (.lst [V.int a, V.int b, V.int (c + 1)]) := upd_same
      refine ixL h2 rfl (ixL h2 rfl ?_)
      walk_at "rd"
      have p45 : 0 < (10 : Int) ^ 45 + 9 := by decide
      have p46 : 0 < (10 : Int) ^ 46 + 121 := by decide
      refine ⟨mulS (by decide) (by omega), cp3 (by omega), cp10 (by decide) (by decide), p45, ixL h2 rfl ?_⟩
      generalize (b + 50000017 * (c + 1)) ^ 3 = X3
      have x0 := Int.emod_nonneg X3 (show (10 : Int) ^ 45 + 9 ≠ 0 by omega)
      have x1 := Int.emod_lt_of_pos X3 p45
      walk_at "rd"
      refine ⟨mulS (by decide) (by omega), cp3 (by omega), cp10 (by decide) (by decide), p46, divW 100 (by decide) (by decide), hm0, ?_⟩
      exact k _ _ off_upd ⟨a, b, c + 1, h2, a0, b0, b1, by omega, by omega⟩ (Int.emod_nonneg _ (by omega)) (Int.emod_lt_of_pos _ hm0)
theorem sc__law_divisor : FnScope ["_law_a", "_law_b"] ["_law_a", "_law_b"] (defScope (topS 47)) := ⟨rfl, rfl, rfl, by decide +kernel, rfl, by decide +kernel, by decide +kernel⟩
theorem ok__law_divisor (T : Txt K mg) (dn : Dfn K mg "_law_divisor" (topS 47) ["_law_a", "_law_b"]) : Has P w K mg base "_law_divisor" 1 ["_law_a", "_law_b"] spGcd := by
  refine dn.has fun f fd F => ?_
  have nd := sc__law_divisor.nd
  refine F.ok sc__law_divisor (fun vs H Q E h => ?_) (fun cdv A outer s H vs Q E hr h => ?_)
  · obtain ⟨a, b, rfl, k⟩ := h
    rfl
  · obtain ⟨a, b, rfl, k⟩ := h
    refine ⟨_, 
      (pss_cons (ps_while PassesOwn.never (pt_cmpR op_ne (pv 1) pe_int (nomark _)) 
        (pss_one (ps_par (i := 0) (j := 1) rfl nd rfl rfl (by decide) rfl rfl (pa_cons (pv 1) (pa_cons (pe_op op_mod (pe_callTy call_int1K (by rfl) T.b_int (by decide +kernel) (pa_cons (pv 0) pa_nil)) (pv 1)) pa_nil)) (by rfl)))) 
      (pss_one (ps_ret (pe_callB call_absK (by rfl) T.b_abs (by decide +kernel) (pa_cons (pv 0) pa_nil))))), ?_⟩
    walk_at "st"
    rw [r_seq]
    refine ⟨fun m σ H' => ∃ x y : Nat, σ = [some (.int x), some (.int y)] ∧ H' = H ∧ Nat.gcd x y = Nat.gcd a b ∧ m = y, ⟨b, a, b, rfl, rfl, rfl, rfl⟩, ?_⟩
    rintro m σ H' ⟨x, y, rfl, rfl, e, hm⟩
    walk_at "rd"
    by_cases hy : y = 0
    · subst hy
      have ex : x = Nat.gcd a b := by rw [← e, Nat.gcd_zero_right]
      simp only [Int.natCast_zero, decide_true, Bool.not_true, Bool.false_eq_true, if_false, Int.natAbs_natCast]
      rw [ex]
      exact k
    · have hy' : ¬ (y : Int) = 0 := by omega
      simp only [hy', decide_false, Bool.not_false, if_true]
      have hlt : x % y < y := Nat.mod_lt _ (by omega)
      refine ⟨_, fun σ' H' h => h, by omega, x % y, by omega, y, x % y, ?_, rfl, ?_, rfl⟩
      · rw [Int.natCast_emod]
      · rw [← e, Nat.gcd_comm x y, Nat.gcd_rec y x, Nat.gcd_comm]
theorem sc__law_multiple : FnScope ["_law_some", "_law_found", "_law_far"] ["_law_some"] (defScope (topS 48)) := ⟨rfl, rfl, rfl, by decide +kernel, rfl, by decide +kernel, by decide +kernel⟩
theorem ok__law_multiple (T : Txt K mg) (dn : Dfn K mg "_law_multiple" (topS 48) ["_law_some"]) (h__law_divisor : Has P w K mg base "_law_divisor" 1 ["_law_a", "_law_b"] spGcd) : Has P w K mg base "_law_multiple" 2 ["_law_some"] spLawLcm := by
  refine dn.has fun f fd F => ?_
  have nd := sc__law_multiple.nd
  refine F.ok sc__law_multiple (fun vs H Q E h => ?_) (fun cdv A outer s H vs Q E hr h => ?_)
  · obtain ⟨a, m, n, rfl, ha, hm, hn, bm, bn, k⟩ := h
    rfl
  · obtain ⟨a, m, n, rfl, ha, hm, hn, bm, bn, k⟩ := h
    refine ⟨_, 
      (pss_cons (ps_set (i := 1) nd rfl (Or.inl rfl) pe_int (hf := Or.inr rfl)) 
      (pss_cons (ps_for PassesOwn.never rfl (pi_listK (K := K) (pv 0)) (pg_name (i := 2) nd rfl (Or.inl rfl) (Or.inr rfl)) 
        (pss_one (ps_set (i := 1) nd rfl (Or.inl rfl) (pe_ifExp (PW.pt (pw_or (pt_cmpR op_eq (pv 1) pe_int (nomark _)) (pw_or1 (pt_cmpR op_eq (pv 2) pe_int (nomark _))))) pe_int (pe_op op_mulW (pe_op op_fdivW (pv 1) (pe_has h__law_divisor (hr.mono (by decide)) (pa_cons (pv 1) (pa_cons (pv 2) pa_nil)))) (pe_callB call_absK (by rfl) T.b_abs (by decide +kernel) (pa_cons (pv 2) pa_nil)))) (hf := Or.inr rfl)))) 
      (pss_one (ps_ret (pv 1))))), ?_⟩
    walk_at "st"
    walk_at "rd"
    refine ⟨⟨_, SqL.of ha⟩, ?_⟩
    refine forW (walk_list (xs := [V.int m, V.int n])) (fun i σ H' => H' = H ∧ ∃ (u : Option V) (f : Nat), σ = [some (.ref a), some (.int (f : Nat)), u] ∧ 0 < f ∧ f = (if i = 0 then 1 else if i = 1 then m else Nat.lcm m n)) ⟨rfl, none, 1, rfl, by decide, rfl⟩ (fun i σ H' _ h => by rw [h.1]; exact SqL.of ha) ?_ ?_
    · rintro i x σ H1 H' hi ⟨rfl, u, f, rfl, f0, hf⟩ ⟨rfl, hxi⟩
      have hy : ∃ y : Nat, x = V.int y ∧ 0 < y ∧ y < 2 ^ 200 ∧ f < 2 ^ 200 ∧ (Nat.lcm f y = if i + 1 = 0 then 1 else if i + 1 = 1 then m else Nat.lcm m n) := by
        match i, hxi, hf, hi with
        | 0, h, hf, _ => exact ⟨m, (Option.some.inj h).symm, hm, bm, by rw [hf, if_pos rfl]; decide, by rw [hf]; simp [Nat.lcm_one_left]⟩
        | 1, h, hf, _ => exact ⟨n, (Option.some.inj h).symm, hn, bn, by rw [hf]; simpa using bm, by rw [hf]; simp⟩
        | i + 2, _, _, hi => exact absurd hi (by simp)
      obtain ⟨y, rfl, y0, yb, fb, le⟩ := hy
      walk_at "rd"
      refine ifF (decide_eq_false (by omega)) (ifF (decide_eq_false (by omega)) ?_)
      refine ⟨f, y, rfl, ?_⟩
      have gp : 0 < Nat.gcd f y := Nat.gcd_pos_of_pos_left _ f0
      have gl : Nat.gcd f y ≤ f := Nat.gcd_le_left _ f0
      have ed : ((f : Nat) : Int) / ((Nat.gcd f y : Nat) : Int) = ((f / Nat.gcd f y : Nat) : Int) := by rw [Int.natCast_ediv]
      have el : f / Nat.gcd f y ≤ f := Nat.div_le_self _ _
      have em : ((f : Nat) : Int) / ((Nat.gcd f y : Nat) : Int) * ((y : Nat) : Int) = ((Nat.lcm f y : Nat) : Int) := by
        rw [ed, ← Int.natCast_mul]
        have z : f / Nat.gcd f y * y = Nat.lcm f y := by
          refine Nat.eq_of_mul_eq_mul_left gp ?_
          rw [Nat.gcd_mul_lcm, ← Nat.mul_assoc, Nat.mul_div_cancel' (Nat.gcd_dvd_left _ _)]
        rw [z]
      walk_at "rd"
      rw [Int.natAbs_natCast, em]
      refine ⟨divW 200 (by omega) (by rw [Int.natAbs_natCast]; exact Nat.lt_of_le_of_lt gl fb), mulW 200 200 (by rw [ed, Int.natAbs_natCast]; exact Nat.lt_of_le_of_lt el fb) (by rw [Int.natAbs_natCast]; exact yb), _, _, rfl, Nat.lcm_pos f0 y0, le⟩
    · rintro σ H1 ⟨rfl, u, f, rfl, f0, hf⟩
      walk_at "rd"
      rw [hf]
      exact k
theorem sc__law_row : FnScope ["_law_purse_here", "_law_style", "_law_top", "_law_own", "_law_turn"] ["_law_purse_here"] (defScope (topS 49)) := ⟨rfl, rfl, rfl, by decide +kernel, rfl, by decide +kernel, by decide +kernel⟩
theorem ok__law_row (T : Txt K mg) (dn : Dfn K mg "_law_row" (topS 49) ["_law_purse_here"]) (h__law_toss : Has P w K mg base "_law_toss" 1 ["_law_purse_here", "_law_many"] spToss) : Has P w K mg base "_law_row" 2 ["_law_purse_here"] spRow := by
  refine dn.has fun f fd F => ?_
  have nd := sc__law_row.nd
  refine F.ok sc__law_row (fun vs H Q E h => ?_) (fun cdv A outer s H vs Q E hr h => ?_)
  · obtain ⟨p, n, rfl, hp, hn, k⟩ := h
    rfl
  · obtain ⟨p, n, rfl, hp, hn, k⟩ := h
    refine ⟨_, 
      (pss_cons (ps_set (i := 1) nd rfl (Or.inl rfl) (pe_has h__law_toss (hr.mono (by decide)) (pa_cons (pv 0) (pa_cons pe_int pa_nil))) (hf := Or.inr rfl)) 
      (pss_cons (ps_set (i := 2) nd rfl (Or.inl rfl) (pe_ix (ix_listK (K := K)) (pe_lst (pa_cons pe_int (pa_cons (pe_op op_powW pe_int pe_int) (pa_cons (pe_op op_powW pe_int pe_int) (pa_cons (pe_op op_powW pe_int pe_int) (pa_cons (pe_op op_powW pe_int pe_int) (pa_cons pe_int pa_nil))))))) (pv 1) (fun _ _ => rfl)) (hf := Or.inr rfl)) 
      (pss_cons (ps_set (i := 3) nd rfl (Or.inl rfl) (pe_lst (pa_cons (pe_has h__law_toss (hr.mono (by decide)) (pa_cons (pv 0) (pa_cons (pe_ix (ix_listK (K := K)) (pe_lst (pa_cons pe_int (pa_cons (pe_op op_powW pe_int pe_int) pa_nil))) (pe_has h__law_toss (hr.mono (by decide)) (pa_cons (pv 0) (pa_cons pe_int pa_nil))) (fun _ _ => rfl)) pa_nil))) pa_nil)) (hf := Or.inr rfl)) 
      (pss_cons (ps_for PassesOwn.never rfl (pi_range1 rfl T.b_range (pa_cons (pe_op op_add pe_int (pe_has h__law_toss (hr.mono (by decide)) (pa_cons (pv 0) (pa_cons (pe_ix (ix_listK (K := K)) (pe_lst (pa_cons pe_int (pa_cons pe_int (pa_cons pe_int (pa_cons pe_int (pa_cons pe_int (pa_cons pe_int pa_nil))))))) (pv 1) (fun _ _ => rfl)) pa_nil)))) pa_nil)) (pg_name (i := 4) nd rfl (Or.inl rfl) (Or.inr rfl)) 
        (pss_one (ps_expr (pe_bm PySem.F.plainAttrs_list PySem.F.slot_list_append PySem.F.type_list_append mt_append (pv 3) (pa_cons (pe_op op_sub (pe_has h__law_toss (hr.mono (by decide)) (pa_cons (pv 0) (pa_cons (pe_op op_add (pe_op op_mulW pe_int (pv 2)) pe_int) pa_nil))) (pv 2)) pa_nil))))) 
      (pss_one (ps_ret (pe_lst (pa_cons (pv 3) (pa_cons (pe_op op_sub (pe_has h__law_toss (hr.mono (by decide)) (pa_cons (pv 0) (pa_cons pe_int pa_nil))) pe_int) (pa_cons (pe_ix (ix_listK (K := K)) (pe_lst (pa_cons (pe_op op_powW pe_int pe_int) (pa_cons (pe_op op_powW pe_int pe_int) (pa_cons (pe_op op_powW pe_int pe_int) (pa_cons (pe_op op_powW pe_int pe_int) (pa_cons (pe_op op_powW pe_int pe_int) (pa_cons pe_int pa_nil))))))) (pv 1) (fun _ _ => rfl)) pa_nil)))))))))), ?_⟩
    walk_at "st"
    walk_at "rd"
    refine ⟨p, n, 6, rfl, hp, by omega, by decide, by decide, fun H1 r e1 hp1 r0 r1 => ?_⟩
    have tri : ∃ (top far : Int) (deg : Nat), (top, far, deg) ∈ styles ∧ atI [V.int 9, V.int (10 ^ 14), V.int (10 ^ 6), V.int (10 ^ 6), V.int (10 ^ 3), V.int 99] r = some (.int top) ∧
        atI [V.int 1, V.int 1, V.int 2, V.int 3, V.int 5, V.int 8] r = some (.int (deg : Nat)) ∧ atI [V.int (10 ^ 29), V.int (10 ^ 14), V.int (10 ^ 9), V.int (10 ^ 6), V.int (10 ^ 3), V.int 12] r = some (.int far) ∧
        (9 ≤ top ∧ top ≤ 10 ^ 14) ∧ (1 ≤ deg ∧ deg ≤ 8) ∧ (12 ≤ far ∧ far ≤ 10 ^ 29) := by
      have hr : r = 0 ∨ r = 1 ∨ r = 2 ∨ r = 3 ∨ r = 4 ∨ r = 5 := by omega
      rcases hr with rfl | rfl | rfl | rfl | rfl | rfl
      · exact ⟨9, 10 ^ 29, 1, by simp [styles], rfl, rfl, rfl, by decide, by decide, by decide⟩
      · exact ⟨10 ^ 14, 10 ^ 14, 1, by simp [styles], rfl, rfl, rfl, by decide, by decide, by decide⟩
      · exact ⟨10 ^ 6, 10 ^ 9, 2, by simp [styles], rfl, rfl, rfl, by decide, by decide, by decide⟩
      · exact ⟨10 ^ 6, 10 ^ 6, 3, by simp [styles], rfl, rfl, rfl, by decide, by decide, by decide⟩
      · exact ⟨10 ^ 3, 10 ^ 3, 5, by simp [styles], rfl, rfl, rfl, by decide, by decide, by decide⟩
      · exact ⟨99, 12, 8, by simp [styles], rfl, rfl, rfl, by decide, by decide, by decide⟩
    obtain ⟨top, far, deg, hst, a1, a2, a3, ⟨t0, t1⟩, ⟨g0, g1⟩, ⟨f0, f1⟩⟩ := tri
    have s1 : Same (off p H) (off p H1) := same_of e1
    walk_at "rd"
    refine ⟨cp10 (by decide) (by decide), cp10 (by decide) (by decide), cp10 (by decide) (by decide), cp10 (by decide) (by decide), fun q1 hq1 => ixL upd_same a1 ?_⟩
    have n1 := hp1.ne hq1
    have hp1' := hp1.upd (o := .lst [V.int 9, V.int (10 ^ 14), V.int (10 ^ 6), V.int (10 ^ 6), V.int (10 ^ 3), V.int 99]) n1
    have s1' := grow_new (o := .lst [V.int 9, V.int (10 ^ 14), V.int (10 ^ 6), V.int (10 ^ 6), V.int (10 ^ 3), V.int 99]) s1 hq1
    generalize upd H1 q1 (.lst [V.int 9, V.int (10 ^ 14), V.int (10 ^ 6), V.int (10 ^ 6), V.int (10 ^ 3), V.int 99]) = H2 at *
    refine ⟨cp10 (by decide) (by decide), fun q2 hq2 => ?_⟩
    have n2 := hp1'.ne hq2
    refine ⟨p, n + 1, 2, rfl, hp1'.upd n2, by omega, by decide, by decide, fun H3 y e3 hp3 y0 y1 => ?_⟩
    have s3 := (grow_new s1' hq2).trans (same_of e3)
    have hq2' := (off_keep e3 n2).trans upd_same
    obtain ⟨v, hv, av⟩ := atI_ints [9, 10 ^ 28] y0 y1
    have vb : 9 ≤ v ∧ v ≤ 10 ^ 28 := by
      rcases List.mem_cons.mp hv with e | hv
      · omega
      · have := List.mem_singleton.mp hv
        omega
    refine ixL hq2' av ?_
    refine ⟨p, n + 2, v, rfl, hp3, by omega, by omega, by omega, fun H4 z e4 hp4 z0 z1 => ?_⟩
    have s4 := s3.trans (same_of e4)
    intro q3 hq3 q4 hq4
    have n3 := hp4.ne hq3
    have hp4' := hp4.upd (o := .lst [V.int z]) n3
    have n4 := hp4'.ne hq4
    have h43 : q3 ≠ q4 := ne_of_none upd_same hq4
    refine ixL upd_same a2 ?_
    refine ⟨p, n + 3, deg, rfl, hp4'.upd n4, by omega, by omega, by omega, fun H5 w e5 hp5 w0 w1 => ?_⟩
    have s5 := (grow_new (grow_new s4 hq3) hq4).trans (same_of e5)
    have hq3' : H5 q3 = some (.lst [V.int z]) := (off_keep e5 n3).trans ((upd_ne h43).trans upd_same)
    have fr3 : off p H q3 = none := by
      cases e : off p H q3 with
      | none => rfl
      | some o =>
        have y := s4 _ _ e
        rw [off_ne n3, hq3] at y
        cases y
    walk_at "rd"
    refine ⟨by omega, by omega, ?_⟩
    have ej : (1 + w).toNat ≤ deg := by omega
    generalize (1 + w).toNat = turns at *
    refine forW walk_range (fun i σ H' => i ≤ turns ∧ ∃ own u, σ = [some (.ref p), some (.int r), some (.int top), some (.ref q3), u] ∧ Same (off p H) (off p H') ∧ PurseAt H' p (n + 4 + i) ∧ H' q3 = some (.lst (own.map V.int)) ∧ own.length = i + 1 ∧
        (0 ≤ own.getD 0 0 ∧ own.getD 0 0 < 10 ^ 28) ∧ ∀ j, 1 ≤ j → j < own.length → -top ≤ own.getD j 0 ∧ own.getD j 0 ≤ top)
      ⟨Nat.zero_le _, [z], none, rfl, s5, hp5, hq3', rfl, ⟨z0, by show z < 10 ^ 28; omega⟩, fun j h1 h2 => by simp at h2; omega⟩ (fun _ _ _ _ _ => trivial) ?_ ?_
    · rintro i x σ H6 H' hi ⟨hit, own, u, rfl, s6, hp6, hq6, ol, o0, oj⟩ ⟨rfl, rfl⟩
      walk_at "rd"
      refine ⟨ty_lst hq6, mulS (by decide) (by omega), ?_⟩
      refine ⟨p, _, _, rfl, hp6, by omega, by omega, by omega, fun H7 y7 e7 hp7 y70 y71 => ?_⟩
      have hq7 := (off_keep e7 n3).trans hq6
      walk_at "rd"
      refine ⟨q3, _, _, rfl, rfl, hq7, ?_, by omega, own ++ [y7 - top], _, rfl, grow_mut (s6.trans (same_of e7)) fr3 n3, hp7.upd n3, ?_, ?_, ?_, ?_⟩
      · rw [List.length_map]
        exact Nat.lt_of_lt_of_le (show own.length < 100 by omega) (by decide)
      · rw [List.map_append]
        exact upd_same
      · rw [List.length_append, ol]; rfl
      · rw [List.getD_eq_getElem?_getD, List.getElem?_append_left (by omega), ← List.getD_eq_getElem?_getD]
        exact o0
      · intro j h1 h2
        rw [List.length_append, List.length_singleton] at h2
        by_cases hj : j < own.length
        · rw [List.getD_eq_getElem?_getD, List.getElem?_append_left hj, ← List.getD_eq_getElem?_getD]
          exact oj j h1 hj
        · have e : j = own.length := by omega
          rw [e, List.getD_eq_getElem?_getD, List.getElem?_append_right (Nat.le_refl _), Nat.sub_self]
          show -top ≤ y7 - top ∧ y7 - top ≤ top
          omega
    · rintro σ H6 ⟨hit, own, u, rfl, s6, hp6, hq6, ol, o0, oj⟩
      walk_at "rd"
      refine ⟨p, _, 9, rfl, hp6, by omega, by decide, by decide, fun H7 y7 e7 hp7 y70 y71 => ?_⟩
      have hq7 := (off_keep e7 n3).trans hq6
      have s7 := s6.trans (same_of e7)
      walk_at "rd"
      refine ⟨cp10 (by decide) (by decide), cp10 (by decide) (by decide), cp10 (by decide) (by decide), cp10 (by decide) (by decide), cp10 (by decide) (by decide), fun q5 hq5 => ixL upd_same a3 ?_⟩
      have n5 := hp7.ne hq5
      have hp8 := hp7.upd (o := .lst [V.int (10 ^ 29), V.int (10 ^ 14), V.int (10 ^ 9), V.int (10 ^ 6), V.int (10 ^ 3), V.int 12]) n5
      have s8 := grow_new (o := .lst [V.int (10 ^ 29), V.int (10 ^ 14), V.int (10 ^ 9), V.int (10 ^ 6), V.int (10 ^ 3), V.int 12]) s7 hq5
      have hq8 := (upd_ne (o := .lst [V.int (10 ^ 29), V.int (10 ^ 14), V.int (10 ^ 9), V.int (10 ^ 6), V.int (10 ^ 3), V.int 12]) (ne_of_none hq7 hq5)).trans hq7
      generalize upd H7 q5 (.lst [V.int (10 ^ 29), V.int (10 ^ 14), V.int (10 ^ 9), V.int (10 ^ 6), V.int (10 ^ 3), V.int 12]) = H8 at *
      intro q6 hq6'
      have n6 := hp8.ne hq6'
      have n36 : q3 ≠ q6 := ne_of_none hq8 hq6'
      refine k _ q6 ⟨own, y7 - 4, far⟩ ⟨grow_new s8 hq6', (hp8.upd n6).more (by omega)⟩ ⟨q3, ?_, ?_⟩ ⟨⟨by show own.length ≤ 9; omega, fun v hv => ?_, ⟨by show -4 ≤ y7 - 4; omega, by show y7 - 4 ≤ 4; omega⟩, ⟨f0, f1⟩⟩, top, deg, hst, by show 1 ≤ own.length; omega, by show own.length ≤ deg + 1; omega, o0, oj⟩
      · rw [off_ne n6]; exact upd_same
      · rw [off_ne n3, upd_ne n36]; exact hq8
      · obtain ⟨j, hj, ev⟩ := List.mem_iff_getElem.mp hv
        have eg : own.getD j 0 = v := by rw [List.getD_eq_getElem?_getD, List.getElem?_eq_getElem hj]; exact ev
        by_cases h0 : j = 0
        · subst h0
          omega
        · have := oj j (by omega) hj
          omega
theorem sc__law_at : FnScope ["_law_row_here_here", "_law_spot", "_law_found", "_law_ring", "_law_upper", "_law_lower", "_law_k", "_law_own"] ["_law_row_here_here", "_law_spot"] (defScope (topS 50)) := ⟨rfl, rfl, rfl, by decide +kernel, rfl, by decide +kernel, by decide +kernel⟩
theorem ok__law_at (T : Txt K mg) (dn : Dfn K mg "_law_at" (topS 50) ["_law_row_here_here", "_law_spot"]) (h__law_multiple : Has P w K mg base "_law_multiple" 2 ["_law_some"] spLawLcm) : Has P w K mg base "_law_at" 3 ["_law_row_here_here", "_law_spot"] spAt := by
  refine dn.has fun f fd F => ?_
  have nd := sc__law_at.nd
  refine F.ok sc__law_at (fun vs H Q E h => ?_) (fun cdv A outer s H vs Q E hr h => ?_)
  · obtain ⟨a, R, x, rfl, hR, hz, hx, k⟩ := h
    rfl
  · obtain ⟨a, R, x, rfl, hR, hz, hx, k⟩ := h
    refine ⟨_, 
      (pss_cons (ps_asg (pe_tup (pa_cons pe_int (pa_cons pe_int (pa_cons pe_int (pa_cons pe_int pa_nil))))) (pg_tupK (K := K) (n := 4) (pgs_cons (pg_name (i := 2) nd rfl (Or.inl rfl) (Or.inr rfl)) (pgs_cons (pg_name (i := 3) nd rfl (Or.inl rfl) (Or.inr rfl)) (pgs_cons (pg_name (i := 4) nd rfl (Or.inl rfl) (Or.inr rfl)) (pgs_cons (pg_name (i := 5) nd rfl (Or.inl rfl) (Or.inr rfl)) pgs_nil)))))) 
      (pss_cons (ps_for PassesOwn.never rfl (pi_enumK (K := K) T.b_enumerate (pa_cons (pe_ix (ix_listK (K := K)) (pv 0) pe_int (fun _ _ => rfl)) pa_nil)) (pg_tupK (K := K) (n := 2) (pgs_cons (pg_name (i := 6) nd rfl (Or.inl rfl) (Or.inr rfl)) (pgs_cons (pg_name (i := 7) nd rfl (Or.inl rfl) (Or.inr rfl)) pgs_nil))) 
        (pss_cons (ps_if (pt_cmpR op_gt (pv 6) pe_int (nomark _)) 
          (pss_one (ps_par3 (i := 3) (j := 4) (l := 5) rfl nd rfl rfl rfl (by decide) (by decide) (by decide) rfl rfl rfl (pa_cons (pe_has h__law_multiple (hr.mono (by decide)) (pa_cons (pe_lst (pa_cons (pv 3) (pa_cons (pv 6) pa_nil))) pa_nil)) (pa_cons (pe_op op_mulW (pv 4) (pe_op op_add (pe_op op_sub (pe_op op_sub (pv 1) (pe_ix (ix_listK (K := K)) (pv 0) pe_int (fun _ _ => rfl))) (pv 6)) pe_int)) (pa_cons (pe_op op_mulW (pv 5) (pv 6)) pa_nil))) (by rfl))) pss_nil) 
        (pss_one (ps_set (i := 2) nd rfl (Or.inl rfl) (pe_op op_add (pv 2) (pe_op op_mulW (pv 7) (pe_op op_fdivW (pe_op op_mulW (pv 3) (pv 4)) (pv 5)))) (hf := Or.inr rfl))))) 
      (pss_one (ps_ret (pv 2))))), ?_⟩
    walk_at "st"
    obtain ⟨b, hRa, hRb⟩ := hR
    have zl := hz.len
    have zs := hz.sh
    walk_at "rd"
    intro p hp
    refine gtup upd_same ?_
    walk_at "rd"
    have s0 : Same H (upd H p (.tup [V.int 0, V.int 1, V.int 1, V.int 1])) := Same.new hp
    refine ixL (s0 _ _ hRa) rfl ?_
    refine ⟨b, _, rfl, SqL.of (s0 _ _ hRb), ?_⟩
    refine forW (walk_enum (xs := R.own.map V.int)) (fun i σ H' => i ≤ R.own.length ∧ Same H H' ∧ ∃ u v, σ = [some (.ref a), some (.int x), some (.int (KM.S i fun k => R.own.getD k 0 * ((KM.W k : Nat) * KM.bin (x - R.sh) k))), some (.int (KM.W (i - 1) : Nat)), some (.int (KM.ff (x - R.sh) (i - 1))), some (.int (KM.fac (i - 1))), u, v])
      ⟨Nat.zero_le _, s0, none, none, rfl⟩ (fun i σ H' _ h => SqL.of (h.2.1 _ _ hRb)) ?_ ?_
    · rintro i v σ H1 H' hi ⟨hil, s1, u, w', rfl⟩ ⟨T1, y, v', rfl, hT, rfl, hy, hxi⟩
      rw [List.length_map] at hi
      have hy : V.int (i : Nat) = y := Option.some.inj hy
      subst hy
      obtain ⟨o, ho, rfl⟩ := map_get (show (R.own.map V.int)[i]? = some v' from hxi)
      have ho2 : (o).natAbs < 2 ^ 100 := hz.own o (List.mem_of_getElem? ho)
      have og : R.own.getD i 0 = o := by rw [List.getD_eq_getElem?_getD, ho]; rfl
      refine gtup upd_same ?_
      have s2 := Same.newT s1 (o := .tup [V.int (i : Nat), V.int o]) hT
      generalize upd H1 T1 (.tup [V.int (i : Nat), V.int o]) = H2 at *
      simp only [r_gCons, r_gName, r_gNil, List.set_cons_zero, List.set_cons_succ]
      have bd : ∀ j, j ≤ 9 → (KM.ff (x - R.sh) j).natAbs < 2 ^ 1200 := fun j hj => by
        have z := ff_bound (x := x - R.sh) (b := 121) j fun t ht => by omega
        exact Nat.lt_of_le_of_lt z (Nat.pow_lt_pow_right (by decide) (by omega))
      refine seq_opaque fun U hU => ?_
      have fin : ∀ H5, Same H H5 → U [some (.ref a), some (.int x), some (.int (KM.S i fun k => R.own.getD k 0 * ((KM.W k : Nat) * KM.bin (x - R.sh) k))), some (.int (KM.W i : Nat)), some (.int (KM.ff (x - R.sh) i)), some (.int (KM.fac i)), some (.int (i : Nat)), some (.int o)] H5 := fun H5 s5 => hU _ _ (by
        walk_at "rd"
        have wb := KM.W_small i (by omega)
        have b1 : ((KM.W i : Nat) : Int).natAbs < 2 ^ 60 := by rw [Int.natAbs_natCast]; exact wb
        have b2 := bd i (by omega)
        have b3 : (((KM.W i : Nat) : Int) * KM.ff (x - R.sh) i / KM.fac i).natAbs < 2 ^ (60 + 1200) := Nat.lt_of_le_of_lt (Int.natAbs_ediv_le_natAbs _ _) (wide_lt b1 b2)
        refine ⟨mulW 60 1200 b1 b2, divW 60 (KM.fac_pos i) (fac_small (by omega)), mulW 100 1260 ho2 b3, by omega, s5, some (.int (i : Nat)), some (.int o), ?_⟩
        rw [ring_bin, Nat.add_sub_cancel]
        show _ = [_, _, some (V.int ((KM.S i fun k => R.own.getD k 0 * ((KM.W k : Nat) * KM.bin (x - R.sh) k)) + R.own.getD i 0 * ((KM.W i : Nat) * KM.bin (x - R.sh) i))), _, _, _, _, _]
        rw [og])
      walk_at "rd"
      by_cases h0 : i = 0
      · subst h0
        refine ifF (by decide) ?_
        exact fin _ s2
      · refine ifT (decide_eq_true (by omega)) ?_
        intro q hq
        have s3 := Same.newT s2 (o := .lst [V.int (KM.W (i - 1) : Nat), V.int (i : Nat)]) hq
        have wb := KM.W_small (i - 1) (by omega)
        refine ⟨q, KM.W (i - 1), i, rfl, upd_same, KM.W_pos _, by omega, Nat.lt_trans wb (by decide), Nat.lt_of_lt_of_le (show i < 2 ^ 4 by omega) (by decide), ?_⟩
        walk_at "rd"
        refine ixL (s3 _ _ hRa) rfl ?_
        walk_at "rd"
        have e1 : i - 1 + 1 = i := by omega
        have ew : Nat.lcm (KM.W (i - 1)) i = KM.W i := by
          have z : KM.W (i - 1 + 1) = Nat.lcm (KM.W (i - 1)) (i - 1 + 1) := rfl
          rw [e1] at z
          exact z.symm
        have ef : KM.ff (x - R.sh) (i - 1) * (x - R.sh - (i : Int) + 1) = KM.ff (x - R.sh) i := by
          have z : KM.ff (x - R.sh) (i - 1 + 1) = KM.ff (x - R.sh) (i - 1) * (x - R.sh - ((i - 1 : Nat) : Int)) := rfl
          rw [e1] at z
          rw [z]
          have e2 : x - R.sh - (i : Int) + 1 = x - R.sh - ((i - 1 : Nat) : Int) := by omega
          rw [e2]
        have ea : KM.fac (i - 1) * (i : Int) = KM.fac i := by
          have z : KM.fac (i - 1 + 1) = KM.fac (i - 1) * (((i - 1 : Nat) : Int) + 1) := rfl
          rw [e1] at z
          rw [z]
          have e2 : ((i - 1 : Nat) : Int) + 1 = i := by omega
          rw [e2]
        refine ⟨mulW 1200 200 (bd _ (by omega)) (by omega), mulW 60 60 (fac_small (by omega)) (by omega), ?_⟩
        rw [ew, ef, ea]
        exact fin _ s3
    · rintro σ H1 ⟨hil, s1, u, w', rfl⟩
      walk_at "rd"
      rw [List.length_map]
      exact k H1 s1
theorem sc__law_spots : FnScope ["_law_purse_here", "_law_row_here_here", "_law_most", "_law_found", "_law_last", "_law_turn", "_law_far"] ["_law_purse_here", "_law_row_here_here", "_law_most"] (defScope (topS 51)) := ⟨rfl, rfl, rfl, by decide +kernel, rfl, by decide +kernel, by decide +kernel⟩
theorem ok__law_spots (T : Txt K mg) (dn : Dfn K mg "_law_spots" (topS 51) ["_law_purse_here", "_law_row_here_here", "_law_most"]) (h__law_toss : Has P w K mg base "_law_toss" 1 ["_law_purse_here", "_law_many"] spToss) : Has P w K mg base "_law_spots" 2 ["_law_purse_here", "_law_row_here_here", "_law_most"] spSpots := by
  refine dn.has fun f fd F => ?_
  have nd := sc__law_spots.nd
  refine F.ok sc__law_spots (fun vs H Q E h => ?_) (fun cdv A outer s H vs Q E hr h => ?_)
  · obtain ⟨p, a, n, R, most, rfl, hp, hn, hR, hz, hm, k⟩ := h
    rfl
  · obtain ⟨p, a, n, R, most, rfl, hp, hn, hR, hz, hm, k⟩ := h
    refine ⟨_, 
      (pss_cons (ps_par (i := 3) (j := 4) rfl nd rfl rfl (by decide) rfl rfl (pa_cons (pe_lst pa_nil) (pa_cons pe_int pa_nil)) (by rfl)) 
      (pss_cons (ps_for PassesOwn.never rfl (pi_range1 rfl T.b_range (pa_cons (pe_has h__law_toss (hr.mono (by decide)) (pa_cons (pv 0) (pa_cons (pe_op op_add (pv 2) pe_int) pa_nil))) pa_nil)) (pg_name (i := 5) nd rfl (Or.inl rfl) (Or.inr rfl)) 
        (pss_cons (ps_set (i := 6) nd rfl (Or.inl rfl) (pe_op op_sub (pe_has h__law_toss (hr.mono (by decide)) (pa_cons (pv 0) (pa_cons (pe_op op_add (pe_op op_mulW pe_int (pe_ix (ix_listK (K := K)) (pv 1) pe_int (fun _ _ => rfl))) pe_int) pa_nil))) (pe_ix (ix_listK (K := K)) (pv 1) pe_int (fun _ _ => rfl))) (hf := Or.inr rfl)) 
        (pss_cons (ps_set (i := 4) nd rfl (Or.inl rfl) (pe_ix (ix_listK (K := K)) (pe_lst (pa_cons (pe_op op_add (pv 4) pe_int) (pa_cons (pe_op op_sub (pe_has h__law_toss (hr.mono (by decide)) (pa_cons (pv 0) (pa_cons pe_int pa_nil))) pe_int) (pa_cons (pv 6) (pa_cons (pv 6) (pa_cons (pe_op op_sub (pv 4) pe_int) pa_nil)))))) (pe_has h__law_toss (hr.mono (by decide)) (pa_cons (pv 0) (pa_cons pe_int pa_nil))) (fun _ _ => rfl)) (hf := Or.inr rfl)) 
        (pss_cons (ps_set (i := 4) nd rfl (Or.inl rfl) (pe_callB call_max2K (by rfl) T.b_max (by decide +kernel) (pa_cons (pe_op op_sub pe_int (pe_op op_powW pe_int pe_int)) (pa_cons (pe_callB call_min2K (by rfl) T.b_min (by decide +kernel) (pa_cons (pe_op op_powW pe_int pe_int) (pa_cons (pv 4) pa_nil))) pa_nil))) (hf := Or.inr rfl)) 
        (pss_one (ps_expr (pe_bm PySem.F.plainAttrs_list PySem.F.slot_list_append PySem.F.type_list_append mt_append (pv 3) (pa_cons (pv 4) pa_nil)))))))) 
      (pss_one (ps_ret (pe_sortedSet T.b_sorted T.b_set (pv 3)))))), ?_⟩
    walk_at "st"
    obtain ⟨b, hRa, hRb⟩ := hR
    have zf := hz.far
    have fb : (2 * R.far + 1).natAbs < 2 ^ 100 := by omega
    walk_at "rd"
    intro q hq
    have nq := hp.ne hq
    have fr : off p H q = none := by rw [off_ne nq]; exact hq
    refine ⟨p, n, (most : Int) + 1, rfl, hp.upd nq, by omega, by omega, by omega, fun H1 w e1 hp1 w0 w1 => ?_⟩
    have s1 := (grow_new (o := .lst []) (Same.refl (off p H)) hq).trans (same_of e1)
    have hq1 : H1 q = some (.lst []) := (off_keep e1 nq).trans upd_same
    walk_at "rd"
    refine ⟨by omega, by omega, ?_⟩
    have ew : w.toNat ≤ most := by omega
    generalize w.toNat = turns at *
    refine forW walk_range (fun i σ H' => i ≤ turns ∧ Same (off p H) (off p H') ∧ PurseAt H' p (n + 1 + 3 * i) ∧ ∃ (found : List Int) (last : Int) (u v : Option V), σ = [some (.ref p), some (.ref a), some (.int (most : Nat)), some (.ref q), some (.int last), u, v] ∧
        H' q = some (.lst (found.map V.int)) ∧ found.length = i ∧ (∀ z ∈ found, -(10 ^ 29) ≤ z ∧ z ≤ 10 ^ 29))
      ⟨Nat.zero_le _, s1, hp1, [], 0, none, none, rfl, hq1, rfl, fun z h => absurd h List.not_mem_nil⟩ (fun _ _ _ _ _ => trivial) ?_ ?_
    · rintro i x σ H2 H' hi ⟨hit, s2, hp2, found, last, u, v, rfl, hq2, fl, fbd⟩ ⟨rfl, rfl⟩
      have hRa2 := (off_some (s2 _ _ hRa)).2
      walk_at "rd"
      refine ixL hRa2 rfl ?_
      walk_at "rd"
      refine ⟨mulS (by decide) (by omega), p, _, _, rfl, hp2, by omega, by omega, by omega, fun H3 y e3 hp3 y0 y1 => ?_⟩
      have s3 := s2.trans (same_of e3)
      have hRa3 := (off_some (s3 _ _ hRa)).2
      have hq3 := (off_keep e3 nq).trans hq2
      refine ixL hRa3 rfl ?_
      walk_at "rd"
      refine ⟨p, _, _, rfl, hp3, by omega, by decide, by decide, fun H4 y4 e4 hp4 y40 y41 => ?_⟩
      have s4 := s3.trans (same_of e4)
      have hq4 := (off_keep e4 nq).trans hq3
      walk_at "rd"
      intro q5 hq5
      have n5 := hp4.ne hq5
      refine ⟨p, _, _, rfl, hp4.upd n5, by omega, by decide, by decide, fun H6 y6 e6 hp6 y60 y61 => ?_⟩
      have s6 := (grow_new s4 hq5).trans (same_of e6)
      have hq6 := (off_keep e6 nq).trans ((upd_ne (ne_of_none hq4 hq5)).trans hq4)
      have hq56 := (off_keep e6 n5).trans upd_same
      obtain ⟨z, hz1, hz2⟩ := atI_ints [last + 1, y4 - 12, y - R.far, y - R.far, last - 2] y60 y61
      refine ixL hq56 hz2 ?_
      walk_at "rd"
      refine ⟨cp10 (by decide) (by decide), cp10 (by decide) (by decide), ty_lst hq6, q, _, _, rfl, rfl, hq6, ?_, by omega, grow_mut s6 fr nq, (hp6.upd nq).more (by omega), found ++ [max (0 - 10 ^ 29) (min (10 ^ 29) z)], _, _, _, rfl, ?_, ?_, ?_⟩
      · rw [List.length_map]
        exact Nat.lt_of_lt_of_le (show found.length < 100 by omega) (by decide)
      · rw [List.map_append]
        exact upd_same
      · rw [List.length_append, fl]; rfl
      · intro z' hz'
        rcases List.mem_append.mp hz' with h | h
        · exact fbd z' h
        · have := List.mem_singleton.mp h
          omega
    · rintro σ H2 ⟨hit, s2, hp2, found, last, u, v, rfl, hq2, fl, fbd⟩
      walk_at "rd"
      refine ⟨q, found, rfl, SqL.of hq2, by omega, fun H3 r ms s3 hr0 hr hpw hmem hlen => ?_⟩
      have nr := hp2.ne hr0
      refine k H3 r ms ⟨s2.trans (Same.off s3), (hp2.mono s3).more (by omega)⟩ ?_ hpw (fun z hz' => fbd z ((hmem z).mp hz')) (by omega)
      show off p H3 r = _
      rw [off_ne nr]
      exact hr
theorem sc__law_bent : FnScope ["_law_purse_here", "_law_book_here", "_law_found", "_law_turn", "_law_k", "_law_more"] ["_law_purse_here", "_law_book_here"] (defScope (topS 53)) := ⟨rfl, rfl, rfl, by decide +kernel, rfl, by decide +kernel, by decide +kernel⟩
theorem ok__law_bent (T : Txt K mg) (dn : Dfn K mg "_law_bent" (topS 53) ["_law_purse_here", "_law_book_here"]) (h__law_toss : Has P w K mg base "_law_toss" 1 ["_law_purse_here", "_law_many"] spToss) : Has P w K mg base "_law_bent" 2 ["_law_purse_here", "_law_book_here"] spBent := by
  refine dn.has fun f fd F => ?_
  have nd := sc__law_bent.nd
  refine F.ok sc__law_bent (fun vs H Q E h => ?_) (fun cdv A outer s H vs Q E hr h => ?_)
  · obtain ⟨p, a, n, l, rfl, hp, hn, hb, hl, k⟩ := h
    rfl
  · obtain ⟨p, a, n, l, rfl, hp, hn, hb, hl, k⟩ := h
    refine ⟨_, 
      (pss_cons (ps_set (i := 2) nd rfl (Or.inl rfl) (pe_callTy (call_listK (K := K)) (by rfl) T.b_list (by decide +kernel) (pa_cons (pv 1) pa_nil)) (hf := Or.inr rfl)) 
      (pss_cons (ps_for PassesOwn.never rfl (pi_range1 rfl T.b_range (pa_cons (pe_op op_add pe_int (pe_has h__law_toss (hr.mono (by decide)) (pa_cons (pv 0) (pa_cons pe_int pa_nil)))) pa_nil)) (pg_name (i := 3) nd rfl (Or.inl rfl) (Or.inr rfl)) 
        (pss_one (ps_if (pt_cmpR (op_neDK (K := K) hr.units) (pv 2) (pe_lst pa_nil) (nomark _)) 
          (pss_cons (ps_set (i := 4) nd rfl (Or.inl rfl) (pe_has h__law_toss (hr.mono (by decide)) (pa_cons (pv 0) (pa_cons (pe_callB (call_lenK (K := K)) (by rfl) T.b_len (by decide +kernel) (pa_cons (pv 2) pa_nil)) pa_nil))) (hf := Or.inr rfl)) 
          (pss_cons (ps_set (i := 5) nd rfl (Or.inl rfl) (pe_ix (ix_listK (K := K)) (pe_lst (pa_cons pe_int (pa_cons (pe_un un_neg pe_int) (pa_cons pe_int (pa_cons pe_int (pa_cons pe_int (pa_cons (pe_has h__law_toss (hr.mono (by decide)) (pa_cons (pv 0) (pa_cons pe_int pa_nil))) (pa_cons (pe_op op_powW pe_int pe_int) (pa_cons (pe_op op_sub pe_int (pe_op op_powW pe_int pe_int)) pa_nil))))))))) (pe_has h__law_toss (hr.mono (by decide)) (pa_cons (pv 0) (pa_cons pe_int pa_nil))) (fun _ _ => rfl)) (hf := Or.inr rfl)) 
          (pss_one (ps_asg (pe_tup (pa_cons (pe_ix (ix_tupK (K := K)) (pe_ix (ix_listK (K := K)) (pv 2) (pv 4) (fun _ _ => rfl)) pe_int (fun _ _ => rfl)) (pa_cons (pe_callB call_max2K (by rfl) T.b_max (by decide +kernel) (pa_cons (pe_op op_sub pe_int (pe_op op_powW pe_int pe_int)) (pa_cons (pe_callB call_min2K (by rfl) T.b_min (by decide +kernel) (pa_cons (pe_op op_powW pe_int pe_int) (pa_cons (pe_op op_add (pe_ix (ix_tupK (K := K)) (pe_ix (ix_listK (K := K)) (pv 2) (pv 4) (fun _ _ => rfl)) pe_int (fun _ _ => rfl)) (pv 5)) pa_nil))) pa_nil))) pa_nil))) (pg_sub (pv 2) (pv 4) set_list))))) pss_nil))) 
      (pss_one (ps_ret (pv 2))))), ?_⟩
    walk_at "st"
    obtain ⟨xs, hxa, hpr⟩ := hb
    have hxa0 := (off_some hxa).2
    have xl := Paired.length hpr
    walk_at "rd"
    refine listOf hxa0 fun q hq => ?_
    have nq := hp.ne hq
    have fr : off p H q = none := by rw [off_ne nq]; exact hq
    refine ⟨p, n, 3, rfl, hp.upd nq, by omega, by decide, by decide, fun H1 w e1 hp1 w0 w1 => ?_⟩
    have s1 := (grow_new (o := .lst xs) (Same.refl (off p H)) hq).trans (same_of e1)
    have hq1 : H1 q = some (.lst xs) := (off_keep e1 nq).trans upd_same
    walk_at "rd"
    refine ⟨by omega, by omega, ?_⟩
    have ew : (1 + w).toNat ≤ 3 := by omega
    generalize (1 + w).toNat = turns at *
    refine forW walk_range (fun i σ H' => i ≤ turns ∧ Same (off p H) (off p H') ∧ PurseAt H' p (n + 1 + 3 * i) ∧ ∃ (ys : List V) (l' : Bk) (u v z : Option V), σ = [some (.ref p), some (.ref a), some (.ref q), u, v, z] ∧ H' q = some (.lst ys) ∧ Prs (off p H') ys l' ∧ Bent l l')
      ⟨Nat.zero_le _, s1, hp1, xs, l, none, none, none, rfl, hq1, hpr.mono s1, rfl, fun _ _ => rfl, fun _ _ => .inl rfl⟩ (fun _ _ _ _ _ => trivial) ?_ ?_
    · rintro i x σ H2 H' hi ⟨hit, s2, hp2, ys, l', u, v, z, rfl, hq2, hpr2, hB⟩ ⟨rfl, rfl⟩
      have yl := Paired.length hpr2
      have bl := hB.len
      walk_at "rd"
      intro q3 hq3
      have n3 := hp2.ne hq3
      refine ne_Bk ⟨ys, Same.new hq3 _ _ hq2, hpr2.mono (Same.trans off_sub (Same.new hq3))⟩ (⟨[], upd_same, .nil⟩ : BkAt _ _ []) ?_
      have s3 := grow_new (o := .lst []) s2 hq3
      have hp3 := hp2.upd (o := .lst []) n3
      have hq23 := (upd_ne (o := .lst []) (ne_of_none hq2 hq3)).trans hq2
      have hpr3 := hpr2.mono (Same.off (p := p) (Same.new (o := .lst []) hq3))
      generalize upd H' q3 (.lst []) = H3 at *
      walk_at "rd"
      by_cases hnil : l' = []
      · refine ifF (by simp [hnil]) ?_
        exact ⟨by omega, s3, hp3.more (by omega), ys, l', _, _, _, rfl, hq23, hpr3, hB⟩
      · have lpos : 0 < l'.length := List.length_pos_iff.mpr hnil
        refine ifT (by simp [hnil]) ?_
        refine lenL hq23 ?_
        refine ⟨p, _, _, rfl, hp3, by omega, by omega, by omega, fun H4 kk e4 hp4 k0 k1 => ?_⟩
        have s4 := s3.trans (same_of e4)
        have hq4 := (off_keep e4 nq).trans hq23
        have hpr4 := hpr3.mono (same_of e4)
        walk_at "rd"
        refine ⟨p, _, _, rfl, hp4, by omega, by decide, by decide, fun H5 y5 e5 hp5 y50 y51 => ?_⟩
        have s5 := s4.trans (same_of e5)
        have hq5 := (off_keep e5 nq).trans hq4
        have hpr5 := hpr4.mono (same_of e5)
        walk_at "rd"
        refine ⟨cp10 (by decide) (by decide), cp10 (by decide) (by decide), fun q6 hq6 => ?_⟩
        have n6 := hp5.ne hq6
        refine ⟨p, _, _, rfl, hp5.upd n6, by omega, by decide, by decide, fun H7 y7 e7 hp7 y70 y71 => ?_⟩
        have s7 := (grow_new s5 hq6).trans (same_of e7)
        have hq7 := (off_keep e7 nq).trans ((upd_ne (ne_of_none hq5 hq6)).trans hq5)
        have hq67 := (off_keep e7 n6).trans upd_same
        have hpr7 := (hpr5.mono (Same.off (Same.new hq6))).mono (same_of e7)
        obtain ⟨mo, hmo1, hmo2⟩ := atI_ints [1, -1, 2, 6, 60, y5, 10 ^ 28, 0 - 10 ^ 28] y70 y71
        refine ixL hq67 hmo2 ?_
        walk_at "rd"
        have ekk : ((kk.toNat : Nat) : Int) = kk := by omega
        have hkl : kk.toNat < l'.length := by omega
        obtain ⟨t, ht1, ht2⟩ := hpr7.at hkl
        have ht2' := (off_some ht2).2
        have hat : atI ys kk = some (.ref t) := atE (j := kk.toNat) ekk.symm ht1
        refine ixL hq7 hat (ixT ht2' rfl ?_)
        walk_at "rd"
        refine ⟨cp10 (by decide) (by decide), cp10 (by decide) (by decide), ixL hq7 hat (ixT ht2' rfl ?_)⟩
        walk_at "rd"
        intro q8 hq8
        have n8 := hp7.ne hq8
        have n78 : q ≠ q8 := ne_of_none hq7 hq8
        have hix : ixN ys.length kk = some kk.toNat := by
          unfold ixN
          rw [if_pos (by omega), if_pos (by omega)]
        refine ⟨q, ys, kk, kk.toNat, rfl, rfl, (upd_ne n78).trans hq7, hix, by omega, grow_mut (grow_new s7 hq8) fr nq, ((hp7.upd n8).upd nq).more (by omega), _, l'.set kk.toNat ((l'.getD kk.toNat (0, 0)).1, max (0 - 10 ^ 30) (min (10 ^ 30) ((l'.getD kk.toNat (0, 0)).2 + mo))), _, _, _, rfl, upd_same, ?_, ?_⟩
        · rw [off_upd_ne nq]
          refine Prs.updL (ys := ys) ?_ (Prs.set ⟨q8, rfl, ?_⟩ _ (hpr7.mono (Same.off (Same.new hq8))))
          · rw [off_ne nq, upd_ne n78]; exact hq7
          · rw [off_ne n8]; exact upd_same
        · exact bent_set hB hkl (by omega)
    · rintro σ H2 ⟨hit, s2, hp2, ys, l', u, v, z, rfl, hq2, hpr2, hB⟩
      walk_at "rd"
      refine k H2 q l' ⟨s2, hp2.more (by omega)⟩ ⟨ys, ?_, hpr2⟩ hB
      rw [off_ne nq]
      exact hq2
theorem sc__law_new : FnScope ["_law_purse_here", "_law_book_here", "_law_row_here_here", "_law_most", "_law_told", "_law_found", "_law_turn", "_law_far", "_law_beside", "_law_spot", "_law_row_here"] ["_law_purse_here", "_law_book_here", "_law_row_here_here", "_law_most"] (defScope (topS 55)) := ⟨rfl, rfl, rfl, by decide +kernel, rfl, by decide +kernel, by decide +kernel⟩
theorem ok__law_new (T : Txt K mg) (dn : Dfn K mg "_law_new" (topS 55) ["_law_purse_here", "_law_book_here", "_law_row_here_here", "_law_most"]) (h__law_toss : Has P w K mg base "_law_toss" 1 ["_law_purse_here", "_law_many"] spToss) : Has P w K mg base "_law_new" 2 ["_law_purse_here", "_law_book_here", "_law_row_here_here", "_law_most"] spNew := by
  refine dn.has fun f fd F => ?_
  have nd := sc__law_new.nd
  refine F.ok sc__law_new (fun vs H Q E h => ?_) (fun cdv A outer s H vs Q E hr h => ?_)
  · obtain ⟨p, b, a, n, l, R, rfl, hp, hn, hb, hl, hpl, hR, hz, k⟩ := h
    rfl
  · obtain ⟨p, b, a, n, l, R, rfl, hp, hn, hb, hl, hpl, hR, hz, k⟩ := h
    refine ⟨_, 
      (pss_cons (ps_par (i := 4) (j := 5) rfl nd rfl rfl (by decide) rfl rfl (pa_cons (pe_lc (own := [("_law_row_here", 10)]) rfl nd (pi_listK (K := K) (pv 1)) (blkOk_by (own := [("_law_row_here", 10)]) (N := ["_law_purse_here", "_law_book_here", "_law_row_here_here", "_law_most", "_law_told", "_law_found", "_law_turn", "_law_far", "_law_beside", "_law_spot", "_law_row_here"]) (sc := defScope (topS 55)) (by decide +kernel)) (fun _ _ _ _ _ => (pg_name (i := 10) nd rfl (Or.inl rfl) (Or.inr rfl))) (fun _ _ _ _ _ => pts_nil) (fun _ _ _ _ _ => (pe_ix (ix_tupK (K := K)) (pv 10) pe_int (fun _ _ => rfl)))) (pa_cons (pe_lst pa_nil) pa_nil)) (by rfl)) 
      (pss_cons (ps_for PassesOwn.never rfl (pi_range1 rfl T.b_range (pa_cons (pe_op op_add pe_int (pe_has h__law_toss (hr.mono (by decide)) (pa_cons (pv 0) (pa_cons (pv 3) pa_nil)))) pa_nil)) (pg_name (i := 6) nd rfl (Or.inl rfl) (Or.inr rfl)) 
        (pss_cons (ps_set (i := 7) nd rfl (Or.inl rfl) (pe_op op_sub (pe_has h__law_toss (hr.mono (by decide)) (pa_cons (pv 0) (pa_cons (pe_op op_add (pe_op op_mulW pe_int (pe_ix (ix_listK (K := K)) (pv 2) pe_int (fun _ _ => rfl))) pe_int) pa_nil))) (pe_ix (ix_listK (K := K)) (pv 2) pe_int (fun _ _ => rfl))) (hf := Or.inr rfl)) 
        (pss_cons (ps_set (i := 8) nd rfl (Or.inl rfl) (pe_op op_add (pe_ix (ix_listK (K := K)) (pe_op op_cat (pv 4) (pe_lst (pa_cons pe_int pa_nil))) (pe_has h__law_toss (hr.mono (by decide)) (pa_cons (pv 0) (pa_cons (pe_op op_add (pe_callB (call_lenK (K := K)) (by rfl) T.b_len (by decide +kernel) (pa_cons (pv 4) pa_nil)) pe_int) pa_nil))) (fun _ _ => rfl)) pe_int) (hf := Or.inr rfl)) 
        (pss_cons (ps_set (i := 9) nd rfl (Or.inl rfl) (pe_ix (ix_listK (K := K)) (pe_lst (pa_cons (pe_op op_sub (pe_has h__law_toss (hr.mono (by decide)) (pa_cons (pv 0) (pa_cons pe_int pa_nil))) pe_int) (pa_cons (pv 7) (pa_cons (pv 7) (pa_cons (pv 8) pa_nil))))) (pe_has h__law_toss (hr.mono (by decide)) (pa_cons (pv 0) (pa_cons pe_int pa_nil))) (fun _ _ => rfl)) (hf := Or.inr rfl)) 
        (pss_one (ps_if (PW.pt (pw_and (pt_cmpR (op_notInK (K := K)) (pv 9) (pv 4) (by rfl)) (pw_and1 (pt_cmpR (op_notInK (K := K)) (pv 9) (pv 5) (by rfl))))) 
          (pss_one (ps_expr (pe_bm PySem.F.plainAttrs_list PySem.F.slot_list_append PySem.F.type_list_append mt_append (pv 5) (pa_cons (pv 9) pa_nil)))) pss_nil)))))) 
      (pss_one (ps_ret (pe_ifExp (pt_cmpR (op_neDK (K := K) hr.units) (pv 5) (pe_lst pa_nil) (nomark _)) (pv 5) (pe_lst (pa_cons (pe_op op_add (pe_callB (cr_maxK (K := K)) (by rfl) T.b_max (by decide +kernel) (pa_cons (pe_op op_cat (pv 4) (pe_lst (pa_cons pe_int pa_nil))) pa_nil)) pe_int) pa_nil))))))), ?_⟩
    walk_at "st"
    obtain ⟨xs, hxb, hpr⟩ := hb
    obtain ⟨rb, hRa, hRb⟩ := hR
    have xl := Paired.length hpr
    have zf := hz.far
    have hxb0 := (off_some hxb).2
    walk_at "rd"
    refine ⟨⟨_, SqL.of hxb0⟩, fun D hD => ?_⟩
    have nD := hp.ne hD
    have frD : off p H D = none := by rw [off_ne nD]; exact hD
    refine lcMap (walk_list (xs := xs)) (fun i H' acc => acc = ((l.take i).map (·.1)).map V.int) hD (fun _ => rfl) (fun H' s => SqL.of (s _ _ hxb0)) ?_ ?_
    · rintro i x H1 H' acc hi s1 hacc hal hA ⟨rfl, hxi⟩
      obtain ⟨t, q, hq, rfl, ht⟩ := hpr.get hxi
      walk_at "rd"
      refine ixT (s1 _ _ (off_some ht).2) rfl ?_
      refine lcEnd s1 hacc hal (by omega) hD (Same.refl _) ?_
      rw [hA, take_more hq, List.map_append, List.map_append]
      rfl
    intro H1 acc s1 hacc hal hA
    rw [xl, List.take_length] at hA
    subst hA
    have hT : ∀ z ∈ l.map (·.1), -(10 ^ 30) ≤ z ∧ z ≤ 10 ^ 30 := fun z hz' => by
      obtain ⟨q, hq, rfl⟩ := List.mem_map.mp hz'
      exact hpl q hq
    have hTn : ∀ z : Int, z ∉ l.map (·.1) → ∀ q ∈ l, z ≠ q.1 := fun z h q hq e => h (by rw [e]; exact List.mem_map_of_mem hq)
    have tlen : (l.map (·.1)).length ≤ 100 := by rw [List.length_map]; exact hl
    generalize l.map (·.1) = tl at *
    have so : Same (off p H) (off p H1) := Same.off s1
    have hp1 := hp.mono s1
    clear hal
    intro q hq
    have nq := hp1.ne hq
    have frq : off p H q = none := by
      cases e : off p H q with
      | none => rfl
      | some o =>
        have y := so _ _ e
        rw [off_ne nq, hq] at y
        cases y
    have nqD : q ≠ D := (ne_of_none hacc hq).symm
    refine ⟨p, n, 4, rfl, hp1.upd nq, by omega, by decide, by decide, fun H2 w e2 hp2 w0 w1 => ?_⟩
    have s2 := (grow_new (o := .lst []) so hq).trans (same_of e2)
    have hq2 : H2 q = some (.lst []) := (off_keep e2 nq).trans upd_same
    have hD2 : H2 D = some (.lst (tl.map V.int)) := (off_keep e2 nD).trans ((upd_ne nqD.symm).trans hacc)
    walk_at "rd"
    refine ⟨by omega, by omega, ?_⟩
    have ew : (1 + w).toNat ≤ 4 := by omega
    generalize (1 + w).toNat = turns at *
    refine forW walk_range (fun i σ H' => i ≤ turns ∧ Same (off p H) (off p H') ∧ PurseAt H' p (n + 1 + 5 * i) ∧ H' D = some (.lst (tl.map V.int)) ∧ ∃ (found : List Int) (u1 u2 u3 u4 u5 : Option V), σ = [some (.ref p), some (.ref b), some (.ref a), some (.int 4), some (.ref D), some (.ref q), u1, u2, u3, u4, u5] ∧
        H' q = some (.lst (found.map V.int)) ∧ found.length ≤ i ∧ (∀ z ∈ found, z ∉ tl ∧ -(10 ^ 31) ≤ z ∧ z ≤ 10 ^ 31))
      ⟨Nat.zero_le _, s2, hp2, hD2, [], none, none, none, none, none, rfl, hq2, Nat.le_refl _, fun z h => absurd h List.not_mem_nil⟩ (fun _ _ _ _ _ => trivial) ?_ ?_
    · rintro i x σ H3 H' hi ⟨hit, s3, hp3, hD3, found, u1, u2, u3, u4, u5, rfl, hq3, fl, fbd⟩ ⟨rfl, rfl⟩
      have hRa3 := (off_some (s3 _ _ hRa)).2
      walk_at "rd"
      refine ixL hRa3 rfl ?_
      walk_at "rd"
      refine ⟨mulS (by decide) (by omega), p, _, _, rfl, hp3, by omega, by omega, by omega, fun H4 y e4 hp4 y0 y1 => ?_⟩
      have s4 := s3.trans (same_of e4)
      have hRa4 := (off_some (s4 _ _ hRa)).2
      have hq4 := (off_keep e4 nq).trans hq3
      have hD4 := (off_keep e4 nD).trans hD3
      refine ixL hRa4 rfl ?_
      walk_at "rd"
      intro q5 hq5
      have n5 := hp4.ne hq5
      have nD5 := ne_of_none hD4 hq5
      have nq5 := ne_of_none hq4 hq5
      refine ⟨D, q5, _, _, rfl, rfl, (upd_ne nD5).trans hD4, upd_same, ?_, fun q6 hq6 => ?_⟩
      · rw [List.length_map]
        exact Nat.le_trans (show tl.length + 1 ≤ 1000 by omega) (by decide)
      have hp5 := hp4.upd (o := .lst [V.int 0]) n5
      have n6 := hp5.ne hq6
      have hD5 := (upd_ne (o := .lst [V.int 0]) nD5).trans hD4
      have hq5' := (upd_ne (o := .lst [V.int 0]) nq5).trans hq4
      have s5 := grow_new (o := .lst [V.int 0]) s4 hq5
      generalize upd H4 q5 (.lst [V.int 0]) = H5 at *
      have nD6 := ne_of_none hD5 hq6
      have nq6 := ne_of_none hq5' hq6
      refine lenL ((upd_ne nD6).trans hD5) ?_
      walk_at "rd"
      rw [List.length_map]
      refine ⟨p, _, _, rfl, hp5.upd n6, by omega, by omega, by omega, fun H7 y7 e7 hp7 y70 y71 => ?_⟩
      have s7 := (grow_new s5 hq6).trans (same_of e7)
      have hq7 := (off_keep e7 nq).trans ((upd_ne nq6).trans hq5')
      have hD7 := (off_keep e7 nD).trans ((upd_ne nD6).trans hD5)
      have hq67 : H7 q6 = some (.lst ((tl ++ [0]).map V.int)) := (off_keep e7 n6).trans (by rw [List.map_append]; exact upd_same)
      obtain ⟨v, hv1, hv2⟩ := atI_ints (tl ++ [0]) y70 (by rw [List.length_append]; simpa using y71)
      have vb : -(10 ^ 30) ≤ v ∧ v ≤ 10 ^ 30 := by
        rcases List.mem_append.mp hv1 with h | h
        · exact hT v h
        · have := List.mem_singleton.mp h
          omega
      refine ixL hq67 hv2 ?_
      walk_at "rd"
      refine ⟨p, _, _, rfl, hp7, by omega, by decide, by decide, fun H8 y8 e8 hp8 y80 y81 => ?_⟩
      have s8 := s7.trans (same_of e8)
      have hq8 := (off_keep e8 nq).trans hq7
      have hD8 := (off_keep e8 nD).trans hD7
      walk_at "rd"
      intro q9 hq9
      have n9 := hp8.ne hq9
      refine ⟨p, _, _, rfl, hp8.upd n9, by omega, by decide, by decide, fun H10 y10 e10 hp10 y100 y101 => ?_⟩
      have s10 := (grow_new s8 hq9).trans (same_of e10)
      have hq10 := (off_keep e10 nq).trans ((upd_ne (ne_of_none hq8 hq9)).trans hq8)
      have hD10 := (off_keep e10 nD).trans ((upd_ne (ne_of_none hD8 hq9)).trans hD8)
      have hq910 := (off_keep e10 n9).trans upd_same
      obtain ⟨z, hz1, hz2⟩ := atI_ints [y8 - 12, y - R.far, y - R.far, v + 1] y100 y101
      have zb : -(10 ^ 31) ≤ z ∧ z ≤ 10 ^ 31 := by
        simp only [List.mem_cons, List.not_mem_nil, or_false] at hz1
        omega
      refine ixL hq910 hz2 (notInL hD10 ?_)
      walk_at "rd"
      have hpE : PurseAt H10 p (n + 1 + 5 * (i + 1)) := hp10.more (by omega)
      by_cases h1 : z ∈ tl
      · refine ifF (by simp [h1]) ?_
        exact ⟨by omega, s10, hpE, hD10, found, _, _, _, _, _, rfl, hq10, by omega, fbd⟩
      · refine ifT (by simp [h1]) (notInL hq10 ?_)
        walk_at "rd"
        by_cases h2 : z ∈ found
        · refine ifF (by simp [h2]) ?_
          exact ⟨by omega, s10, hpE, hD10, found, _, _, _, _, _, rfl, hq10, by omega, fbd⟩
        · refine ifT (by simp [h2]) ?_
          refine ⟨ty_lst hq10, q, _, _, rfl, rfl, hq10, ?_, by omega, grow_mut s10 frq nq, hpE.upd nq, (upd_ne nqD.symm).trans hD10, found ++ [z], _, _, _, _, _, rfl, ?_, ?_, ?_⟩
          · rw [List.length_map]
            exact Nat.lt_of_lt_of_le (show found.length < 100 by omega) (by decide)
          · rw [List.map_append]
            exact upd_same
          · rw [List.length_append, List.length_singleton]
            omega
          · intro z' hz'
            rcases List.mem_append.mp hz' with h | h
            · exact fbd z' h
            · rw [List.mem_singleton.mp h]
              exact ⟨h1, zb⟩
    · rintro σ H3 ⟨hit, s3, hp3, hD3, found, u1, u2, u3, u4, u5, rfl, hq3, fl, fbd⟩
      walk_at "rd"
      intro q4 hq4
      have n4 := hp3.ne hq4
      have nD4 := ne_of_none hD3 hq4
      have nq4 := ne_of_none hq3 hq4
      refine ne_IL (l := found) ((upd_ne nq4).trans hq3) (upd_same : IL _ q4 []) ?_
      have s4 := grow_new (o := .lst []) s3 hq4
      have hp4 := hp3.upd (o := .lst []) n4
      have hD4 := (upd_ne (o := .lst []) nD4).trans hD3
      have hq4' := (upd_ne (o := .lst []) nq4).trans hq3
      generalize upd H3 q4 (.lst []) = H4 at *
      walk_at "rd"
      by_cases hnil : found = []
      · refine ifF (by simp [hnil]) ?_
        intro q5 hq5
        have n5 := hp4.ne hq5
        have nD5 := ne_of_none hD4 hq5
        refine ⟨D, q5, _, _, rfl, rfl, (upd_ne nD5).trans hD4, upd_same, ?_, fun q6 hq6 => ?_⟩
        · rw [List.length_map]
          exact Nat.le_trans (show tl.length + 1 ≤ 1000 by omega) (by decide)
        have hp5 := hp4.upd (o := .lst [V.int 0]) n5
        have n6 := hp5.ne hq6
        refine ⟨q6, tl ++ [0], rfl, SqL.of (by rw [List.map_append]; exact upd_same), by simp, fun m hm hmax => ?_⟩
        have s6 := grow_new (o := .lst (tl.map V.int ++ [V.int 0])) (grow_new (o := .lst [V.int 0]) s4 hq5) hq6
        have hp6 := hp5.upd (o := .lst (tl.map V.int ++ [V.int 0])) n6
        generalize upd (upd H4 q5 (.lst [V.int 0])) q6 (.lst (tl.map V.int ++ [V.int 0])) = H6 at *
        walk_at "rd"
        intro q7 hq7
        have n7 := hp6.ne hq7
        have mb : -(10 ^ 30) ≤ m ∧ m ≤ 10 ^ 30 := by
          rcases List.mem_append.mp hm with h | h
          · exact hT m h
          · have := List.mem_singleton.mp h
            omega
        refine k _ q7 [m + 1] ⟨grow_new s6 hq7, (hp6.upd n7).more (by omega)⟩ ?_ (fun z hz' => ?_) (by simp)
        · show off p _ q7 = _
          rw [off_ne n7]
          exact upd_same
        · rw [List.mem_singleton.mp hz']
          refine ⟨hTn _ fun h => ?_, by omega, by omega⟩
          have := hmax (m + 1) (List.mem_append_left _ h)
          omega
      · refine ifT (by simp [hnil]) ?_
        refine k H4 q found ⟨s4, hp4.more (by omega)⟩ ?_ (fun z hz' => ⟨hTn z (fbd z hz').1, (fbd z hz').2⟩) (by omega)
        show off p H4 q = _
        rw [off_ne nq]
        exact hq4'
theorem sc__law_refused : FnScope ["_law_some", "_law_told", "e"] ["_law_some"] (defScope (topS 56)) := ⟨rfl, rfl, rfl, by decide +kernel, rfl, by decide +kernel, by decide +kernel⟩
theorem ok__law_refused {C : Addr} (T : Txt K mg) (TX : TxtX K mg C) (dn : Dfn K mg "_law_refused" (topS 56) ["_law_some"]) (h_next_class : HasX P w K mg base "next_class" 8 ["stretch"] (spNextCls C)) : Has P w K mg base "_law_refused" 9 ["_law_some"] spRefused := by
  refine dn.has fun f fd F => ?_
  have nd := sc__law_refused.nd
  obtain ⟨f1, fd1, m1, kp1, b1, G1⟩ := h_next_class
  refine F.ok sc__law_refused (fun vs H Q E h => ?_) (fun cdv A outer s H vs Q E hr h => ?_)
  · obtain ⟨a, l, rfl, ha, h1, h2, k⟩ := h
    rfl
  · obtain ⟨a, l, rfl, ha, h1, h2, k⟩ := h
    refine ⟨_, pss_cons (ps_set (i := 1) nd rfl (Or.inl rfl) pe_non (hf := Or.inr rfl))
      (pss_cons (ps_try_as (i := 2) (tb := fun W => tDrop (tCallS (spNextCls C) (WE W) (tCons (tVar 0) tNil))) (ts := fun a cls d => tAsg (tTup (tCons (tXf a cls d C "first" (tVar 2)) (tCons (tXf a cls d C "second" (tVar 2)) tNil))) (gName 1)) (Wout := fun _ _ _ _ => False)
        rfl rfl nd rfl rfl ⟨rfl, by decide, Or.inl TX.gC⟩ takes0
        (fun W pn xe tk _ => pss_one (ps_expr (by exact (pe_callS G1 (hr.mono (by decide)) rfl m1 kp1 b1 (fun σ => passAt tk σ) (by exact (pa_cons (pv 0) pa_nil))))))
        (fun a oe cls d pn hz hf => pss_one (ps_set (i := 1) nd rfl (Or.inl rfl) (by exact (pe_tup (pa_cons (pe_xf TX.xf TX.n1 hz hf (pv 2)) (pa_cons (pe_xf TX.xf TX.n2 hz hf (pv 2)) pa_nil)))) (hf := Or.inr rfl))))
      (pss_one (ps_ret (pv 1)))), ?_⟩
    walk_at "st"
    walk_at "rd"
    refine ⟨_, rfl, a, l, rfl, ha, h1, h2, fun hF H1 t r m s1 ht hc => ?_, fun q r e H1 d s1 hd => ?_⟩
    · walk_at "rd"
      refine k H1 .non s1 ?_
      rw [KM.conf_nil.mpr hF]
      rfl
    · refine ⟨true, TX.te, fun _ a0 _ => ?_, fun h => Bool.noConfusion h⟩
      walk_at "rd"
      refine ⟨_, rfl, rfl, rfl, d, _, _, rfl, hd, rfl, ?_⟩
      refine ⟨_, rfl, rfl, rfl, d, _, _, rfl, hd, rfl, ?_⟩
      walk_at "rd"
      intro t ht
      refine k _ _ (Same.newT s1 ht) ?_
      rw [e]
      exact ⟨t, rfl, upd_same⟩
theorem sc__law_stretch_right : FnScope ["_law_purse_here", "_law_some", "_law_spot", "_law_book_here", "_law_pair", "_law_cut", "_law_told", "_law_more", "_law_found", "_law_turn", "_law_rows_here", "_law_later", "_law_k"] ["_law_purse_here", "_law_some"] (defScope (topS 57)) := ⟨rfl, rfl, rfl, by decide +kernel, rfl, by decide +kernel, by decide +kernel⟩
theorem ok__law_stretch_right {C : Addr} (T : Txt K mg) (dn : Dfn K mg "_law_stretch_right" (topS 57) ["_law_purse_here", "_law_some"]) (h__law_toss : Has P w K mg base "_law_toss" 1 ["_law_purse_here", "_law_many"] spToss) (h_book_of : Has P w K mg base "book_of" 4 ["place", "stretch"] spBookOf) (h_conflict_of : Has P w K mg base "conflict_of" 6 ["book"] spConfOf) (h_stretch_conflict : Has P w K mg base "stretch_conflict" 4 ["stretch"] spSC) (h__law_refused : Has P w K mg base "_law_refused" 9 ["_law_some"] spRefused) (h_all_conflicts : Has P w K mg base "all_conflicts" 6 ["book"] spAllConf) (h_class_ahead : Has P w K mg base "class_ahead" 8 ["stretch"] spClsAhead) (h_next_class : HasX P w K mg base "next_class" 8 ["stretch"] (spNextCls C)) (h_class_at : Has P w K mg base "class_at" 7 ["book", "place"] spClsAt) (h_longer : Has P w K mg base "longer" 8 ["stretch", "many"] spLonger) (h_next_value : Has P w K mg base "next_value" 7 ["book", "place", "value"] spNextVal) (h_differences : Has P w K mg base "differences" 4 ["stretch"] spDiffs) : Has P w K mg base "_law_stretch_right" 10 ["_law_purse_here", "_law_some"] spRight := by
  refine dn.has fun f fd F => ?_
  have nd := sc__law_stretch_right.nd
  refine F.ok sc__law_stretch_right (fun vs H Q E h => ?_) (fun cdv A outer s H vs Q E hr h => ?_)
  · obtain ⟨p, a, n, l, rfl, hp, hn, ha, h1, h2, hv, k⟩ := h
    rfl
  · obtain ⟨p, a, n, l, rfl, hp, hn, ha, h1, h2, hv, k⟩ := h
    refine ⟨_, 
      (pss_cons (ps_set (i := 2) nd rfl (Or.inl rfl) (pe_op op_sub (pe_has h__law_toss (hr.mono (by decide)) (pa_cons (pv 0) (pa_cons (pe_op op_powW pe_int pe_int) pa_nil))) (pe_op op_powW pe_int pe_int)) (hf := Or.inr rfl)) 
      (pss_cons (ps_set (i := 3) nd rfl (Or.inl rfl) (pe_has h_book_of (hr.mono (by decide)) (pa_cons (pv 2) (pa_cons (pv 1) pa_nil))) (hf := Or.inr rfl)) 
      (pss_cons (ps_set (i := 4) nd rfl (Or.inl rfl) (pe_has h_conflict_of (hr.mono (by decide)) (pa_cons (pv 3) pa_nil)) (hf := Or.inr rfl)) 
      (pss_cons (ps_if (PW.pt (pw_or (pt_cmpR (op_neDK (K := K) hr.units) (pe_has h__law_refused (hr.mono (by decide)) (pa_cons (pv 1) pa_nil)) (pv 4) (nomark _)) (pw_or1 (pt_cmpR op_ne (pe_cmpR op_isN (pe_has h_stretch_conflict (hr.mono (by decide)) (pa_cons (pv 1) pa_nil)) pe_non (nomark _)) (pe_cmpR op_isN (pv 4) pe_non (nomark _)) (nomark _))))) 
        (pss_one (ps_ret pe_bl)) pss_nil) 
      (pss_cons (ps_set (i := 5) nd rfl (Or.inl rfl) (pe_has h__law_toss (hr.mono (by decide)) (pa_cons (pv 0) (pa_cons (pe_callB (call_lenK (K := K)) (by rfl) T.b_len (by decide +kernel) (pa_cons (pv 1) pa_nil)) pa_nil))) (hf := Or.inr rfl)) 
      (pss_cons (ps_if (PW.pt (pw_and (pt_cmpR op_notN (pv 4) pe_non (nomark _)) (pw_and (pt_cmpR op_lt (pe_ix (ix_tupK (K := K)) (pv 4) pe_int (fun _ _ => rfl)) (pv 5) (nomark _)) (pw_and1 (pt_cmpR op_isN (pe_has h_stretch_conflict (hr.mono (by decide)) (pa_cons (pe_slice (sl_listK (K := K)) (pv 1) po_none (po_some (pv 5))) pa_nil)) pe_non (nomark _)))))) 
        (pss_one (ps_ret pe_bl)) pss_nil) 
      (pss_cons (ps_if (pt_cmpR op_gt (pe_callB (call_lenK (K := K)) (by rfl) T.b_len (by decide +kernel) (pa_cons (pe_has h_all_conflicts (hr.mono (by decide)) (pa_cons (pe_has h_book_of (hr.mono (by decide)) (pa_cons (pv 2) (pa_cons (pe_slice (sl_listK (K := K)) (pv 1) (po_some (pv 5)) po_none) pa_nil))) pa_nil)) pa_nil)) (pe_callB (call_lenK (K := K)) (by rfl) T.b_len (by decide +kernel) (pa_cons (pe_has h_all_conflicts (hr.mono (by decide)) (pa_cons (pv 3) pa_nil)) pa_nil)) (nomark _)) 
        (pss_one (ps_ret pe_bl)) pss_nil) 
      (pss_cons (ps_if (pt_cmpR op_notN (pv 4) pe_non (nomark _)) 
        (pss_one (ps_ret pe_bl)) pss_nil) 
      (pss_cons (ps_set (i := 6) nd rfl (Or.inl rfl) (pe_lst (pa_cons (pe_hasX h_next_class (hr.mono (by decide)) (pa_cons (pv 1) pa_nil)) (pa_cons (pe_has h_class_ahead (hr.mono (by decide)) (pa_cons (pv 1) pa_nil)) pa_nil))) (hf := Or.inr rfl)) 
      (pss_cons (ps_if (pt_cmpR (op_neDK (K := K) hr.units) (pv 6) (pe_lst (pa_cons (pe_has h_class_at (hr.mono (by decide)) (pa_cons (pv 3) (pa_cons (pe_op op_add (pv 2) (pe_callB (call_lenK (K := K)) (by rfl) T.b_len (by decide +kernel) (pa_cons (pv 1) pa_nil))) pa_nil))) (pa_cons (pe_has h_class_at (hr.mono (by decide)) (pa_cons (pv 3) (pa_cons (pe_op op_sub (pv 2) pe_int) pa_nil))) pa_nil))) (nomark _)) 
        (pss_one (ps_ret pe_bl)) pss_nil) 
      (pss_cons (ps_if (pt_cmpR (op_neDK (K := K) hr.units) (pe_lst (pa_cons (pe_has h_class_ahead (hr.mono (by decide)) (pa_cons (pe_revK (K := K) (pv 1)) pa_nil)) (pa_cons (pe_hasX h_next_class (hr.mono (by decide)) (pa_cons (pe_revK (K := K) (pv 1)) pa_nil)) pa_nil))) (pv 6) (nomark _)) 
        (pss_one (ps_ret pe_bl)) pss_nil) 
      (pss_cons (ps_set (i := 7) nd rfl (Or.inl rfl) (pe_has h_longer (hr.mono (by decide)) (pa_cons (pv 1) (pa_cons pe_int pa_nil))) (hf := Or.inr rfl)) 
      (pss_cons (ps_set (i := 8) nd rfl (Or.inl rfl) (pe_callTy (call_listK (K := K)) (by rfl) T.b_list (by decide +kernel) (pa_cons (pv 1) pa_nil)) (hf := Or.inr rfl)) 
      (pss_cons (ps_for PassesOwn.never rfl (pi_range1 rfl T.b_range (pa_cons pe_int pa_nil)) (pg_name (i := 9) nd rfl (Or.inl rfl) (Or.inr rfl)) 
        (pss_one (ps_if (pt_cmpR op_lt (pe_callB (call_lenK (K := K)) (by rfl) T.b_len (by decide +kernel) (pa_cons (pv 8) pa_nil)) pe_int (nomark _)) 
          (pss_one (ps_expr (pe_bm PySem.F.plainAttrs_list PySem.F.slot_list_append PySem.F.type_list_append mt_append (pv 8) (pa_cons (pe_has h_next_value (hr.mono (by decide)) (pa_cons (pe_has h_book_of (hr.mono (by decide)) (pa_cons (pv 2) (pa_cons (pv 8) pa_nil))) (pa_cons (pe_op op_add (pv 2) (pe_callB (call_lenK (K := K)) (by rfl) T.b_len (by decide +kernel) (pa_cons (pv 8) pa_nil))) (pa_cons pe_int pa_nil)))) pa_nil)))) pss_nil))) 
      (pss_cons (ps_if (PW.pt (pw_or (pt_cmpR (op_neDK (K := K) hr.units) (pe_slice (sl_listK (K := K)) (pv 7) po_none (po_some (pe_callB (call_lenK (K := K)) (by rfl) T.b_len (by decide +kernel) (pa_cons (pv 8) pa_nil)))) (pe_slice (sl_listK (K := K)) (pv 8) po_none (po_some (pe_callB (call_lenK (K := K)) (by rfl) T.b_len (by decide +kernel) (pa_cons (pv 7) pa_nil)))) (nomark _)) (pw_or1 (pt_cmpR (op_neDK (K := K) hr.units) (pe_has h_longer (hr.mono (by decide)) (pa_cons (pe_has h_longer (hr.mono (by decide)) (pa_cons (pv 1) (pa_cons pe_int pa_nil))) (pa_cons pe_int pa_nil))) (pv 7) (nomark _))))) 
        (pss_one (ps_ret pe_bl)) pss_nil) 
      (pss_cons (ps_asg (pe_tup (pa_cons (pe_has h_differences (hr.mono (by decide)) (pa_cons (pv 1) pa_nil)) (pa_cons (pe_has h_differences (hr.mono (by decide)) (pa_cons (pe_op op_cat (pe_slice (sl_listK (K := K)) (pv 1) (po_some pe_int) po_none) (pe_lst (pa_cons pe_int pa_nil))) pa_nil)) pa_nil))) (pg_tupK (K := K) (n := 2) (pgs_cons (pg_name (i := 10) nd rfl (Or.inr rfl) (Or.inl rfl)) (pgs_cons (pg_name (i := 11) nd rfl (Or.inl rfl) (Or.inr rfl)) pgs_nil)))) 
      (pss_one (ps_ret (pe_cmpR (op_eqDK (K := K) hr.units) (pe_lc (own := [("_law_k", 12)]) rfl nd (pi_range1 rfl T.b_range (pa_cons (pe_op op_sub (pe_callB (call_lenK (K := K)) (by rfl) T.b_len (by decide +kernel) (pa_cons (pv 1) pa_nil)) pe_int) pa_nil)) (blkOk_by (own := [("_law_k", 12)]) (N := ["_law_purse_here", "_law_some", "_law_spot", "_law_book_here", "_law_pair", "_law_cut", "_law_told", "_law_more", "_law_found", "_law_turn", "_law_rows_here", "_law_later", "_law_k"]) (sc := defScope (topS 57)) (by decide +kernel)) (fun _ _ _ _ _ => (pg_name (i := 12) nd rfl (Or.inl rfl) (Or.inr rfl))) (fun _ _ _ _ _ => pts_nil) (fun _ _ _ _ _ => (pe_op op_add (pe_ix (ix_listK (K := K)) (pv 10) (pv 12) (fun _ _ => rfl)) (pe_ix (ix_listK (K := K)) (pv 10) (pe_op op_add (pv 12) pe_int) (fun _ _ => rfl))))) (pe_slice (sl_listK (K := K)) (pv 11) po_none (po_some (pe_op op_sub (pe_callB (call_lenK (K := K)) (by rfl) T.b_len (by decide +kernel) (pa_cons (pv 1) pa_nil)) pe_int))) (nomark _)))))))))))))))))))), ?_⟩
    walk_at "st"
    -- 1: the place
    refine seq_opaque fun U hU => ?_
    walk_at "rd"
    refine ⟨cp10 (by decide) (by decide), p, n, _, rfl, hp, by omega, by decide, by decide, fun H1 z e1 hp1 z0 z1 => ?_⟩
    have s1 : Same (off p H) (off p H1) := same_of e1
    walk_at "rd"
    refine ⟨cp10 (by decide) (by decide), hU _ _ ?_⟩
    have hsp : -(10 ^ 20) ≤ z - 10 ^ 19 ∧ z - 10 ^ 19 ≤ 10 ^ 20 := by omega
    generalize z - 10 ^ 19 = spot at *
    clear hU U
    -- 2, 3: its book, the pair
    refine seq_opaque fun U hU => ?_
    walk_at "rd"
    have ha1 : IL H1 a l := (ha.mono s1).of_off
    refine ⟨a, l, spot, rfl, ha1, h1, h2, fun H2 bk s2 nb hb => hU _ _ ?_⟩
    have nbp := hp1.ne nb
    have hp2 := hp1.mono s2
    have bok : BookOk (KM.en spot l) := bookOk_en h2 (by omega) hv
    clear hU U
    refine seq_opaque fun U hU => ?_
    walk_at "rd"
    refine ⟨bk, _, rfl, hb, bok, fun H3 v s3 hcv => hU _ _ ?_⟩
    rw [KM.conf_en] at hcv
    have hp3 := hp2.mono s3
    have hb3 := hb.mono s3
    have s3' := (s1.trans (Same.off s2)).trans (Same.off s3)
    have ha3 : IL H3 a l := (ha.mono s3').of_off
    clear hU U
    -- 4: the same conflicts
    refine seq_opaque fun U hU => ?_
    walk_at "rd"
    refine ⟨a, l, rfl, ha3, h1, by omega, fun H4 v' s4 hcv' => ?_⟩
    refine ne_CV hcv' (hcv.mono s4) ?_
    walk_at "rd"
    refine ⟨a, l, rfl, ha3.mono s4, h1, by omega, fun H5 v5 s5 h5 => ?_⟩
    have hvn := CV.none_iff hcv
    have e5 : decide (v5 = V.non) = decide (v = V.non) := by
      refine decide_eq_decide.mpr ?_
      rw [hvn, KM.conf_nil, ← KM.allW_iff]
      rcases h5 with ⟨e, hw⟩ | ⟨j, e, hw⟩
      · exact ⟨fun _ => hw, fun _ => e⟩
      · exact ⟨fun z => (by rw [e] at z; cases z), fun z => absurd z hw⟩
    refine ifF (by rw [e5]; simp) (hU _ _ ?_)
    have s35 := Same.trans s4 s5
    have hp5 := hp3.mono s35
    have hb5 := hb3.mono s35
    have hcv5 := hcv.mono s35
    have s5' := s3'.trans (Same.off s35)
    have ha5 : IL H5 a l := ha3.mono s35
    clear hU U
    -- 5: the cut
    refine seq_opaque fun U hU => ?_
    walk_at "rd"
    refine lenL ha5 ?_
    rw [List.length_map]
    refine ⟨p, _, _, rfl, hp5, by omega, by omega, by omega, fun Hc ct ec hpc c0 c1 => hU _ _ ?_⟩
    have sc := s5'.trans (same_of ec)
    have hbc : BkAt Hc bk (KM.en spot l) := ((hb5.to_off hp5 nbp).mono (same_of ec)).of_off
    have hcvc : CV Hc v (KM.conf (KM.en 0 l)) := ((hcv5.to_off hp5).mono (same_of ec)).mono off_sub
    have hac : IL Hc a l := (ha.mono sc).of_off
    have hac' : Hc a = some (.lst (l.map V.int)) := hac
    obtain ⟨cut, rfl⟩ : ∃ c : Nat, ct = (c : Int) := ⟨ct.toNat, by omega⟩
    have hcut : cut < l.length := by omega
    clear hU U
    -- 6: the part ahead of it
    refine seq_opaque fun U hU => ?_
    have fin : ∀ Hd, Same Hc Hd → U [some (.ref p), some (.ref a), some (.int spot), some (.ref bk), some v, some (.int (cut : Nat)), none, none, none, none, none, none, none] Hd := fun Hd sd => hU _ _ (by
      clear hU U
      -- 7: the part behind it
      refine seq_opaque fun U hU => ?_
      have had : Hd a = some (.lst (l.map V.int)) := sd _ _ hac'
      walk_at "rd"
      refine slL had fun y hy => ?_
      rw [cut_from]
      have hyl : upd Hd y (.lst ((l.map V.int).drop cut)) y = some (.lst ((l.drop cut).map V.int)) := by rw [← List.map_drop]; exact upd_same
      have s6 : Same Hd (upd Hd y (.lst ((l.map V.int).drop cut))) := Same.new hy
      generalize upd Hd y (.lst ((l.map V.int).drop cut)) = H6 at *
      have ld : (l.drop cut).length = l.length - cut := List.length_drop
      refine ⟨y, l.drop cut, spot, rfl, hyl, by omega, by omega, fun H7 b7 s7 _ hb7 => ?_⟩
      walk_at "rd"
      refine ⟨b7, _, rfl, hb7, bookOk_en (by omega) (by omega) (fun z hz => hv z (List.mem_of_mem_drop hz)), fun H8 c8 s8 hc8 => ?_⟩
      obtain ⟨ys, hys, hprs⟩ := hc8
      refine lenL hys ?_
      walk_at "rd"
      have s68 := Same.trans (Same.trans s6 s7) s8
      refine ⟨bk, _, rfl, hbc.mono (Same.trans sd s68), bok, fun H9 c9 s9 hc9 => ?_⟩
      obtain ⟨zs, hzs, hprz⟩ := hc9
      refine lenL hzs ?_
      walk_at "rd"
      have l1 := Paired.length hprs
      have l2 := Paired.length hprz
      rw [natPairs_length] at l1 l2
      have l3 := KM.conf_drop spot spot l cut (by omega)
      refine ifF (decide_eq_false (by omega)) (hU _ _ ?_)
      have s9' : Same Hc H9 := Same.trans (Same.trans sd s68) s9
      have sG : Same (off p H) (off p H9) := sc.trans (Same.off s9')
      have hp9 := hpc.mono s9'
      have ha9 : H9 a = some (.lst (l.map V.int)) := s9' _ _ hac'
      have hb9 := hbc.mono s9'
      have hcv9 := hcvc.mono s9'
      clear hU U had hyl s6 hb7 hys hprs hzs hprz s68
      -- 8: done if they conflict
      refine seq_opaque fun U hU => ?_
      walk_at "rd"
      cases e : KM.conf (KM.en 0 l) with
      | cons q r =>
        refine ifT ?_ (k H9 ⟨sG, hp9.more (by omega)⟩)
        rw [e] at hcv9
        obtain ⟨t, rfl, _⟩ := hcv9
        simp
      | nil =>
        refine ifF ?_ (hU _ _ ?_)
        · rw [e] at hcv9
          have hcv9 : v = .non := hcv9
          rw [hcv9]
          simp
        clear hU U
        have hF := KM.conf_nil.mp e
        have hFs : KM.Fit (KM.en spot l) := KM.conf_nil.mp (by rw [KM.conf_en]; exact e)
        have hp9' := hp9
        clear s9' hp hp9 hcv9 hbc hcvc hac hac' hpc ec c0 c1 hcut
        -- 9: the classes behind it and ahead of it
        refine seq_opaque fun U hU => ?_
        walk_at "rd"
        refine ⟨a, l, rfl, ha9, h1, by omega, fun _ H10 t1 r1 m1 s10 ht1 hc1 => ?_, fun q r e' => by rw [e] at e'; cases e'⟩
        refine ⟨a, l, rfl, s10 _ _ ha9, h1, by omega, hF, fun H11 t2 r2 m2 s11 ht2 hc2 => ?_⟩
        walk_at "rd"
        intro told hto
        have sE : Same H9 (upd H11 told (.lst [.ref t1, .ref t2])) := Same.newT (Same.trans s10 s11) hto
        have hT : BkAt (upd H11 told (.lst [.ref t1, .ref t2])) told [(r1, m1), (r2, m2)] := two_prs upd_same ((upd_ne (ne_of_none (s11 _ _ ht1) hto)).trans (s11 _ _ ht1)) ((upd_ne (ne_of_none ht2 hto)).trans ht2)
        generalize upd H11 told (.lst [.ref t1, .ref t2]) = G1 at *
        refine hU _ _ ?_
        clear hU U
        have aG1 := sE _ _ ha9
        have bG1 := hb9.mono sE
        clear s10 s11 ht1 ht2 hto
        -- 10: the book's classes there
        refine seq_opaque fun U hU => ?_
        walk_at "rd"
        refine lenL aG1 ?_
        walk_at "rd"
        rw [List.length_map]
        refine ⟨bk, _, _, rfl, bG1, bok, hFs, placeOk_en (by omega) (by omega) (by omega), fun H12 t3 r3 m3 s12 ht3 hc3 => ?_⟩
        walk_at "rd"
        refine ⟨bk, _, _, rfl, bG1.mono s12, bok, hFs, placeOk_en (by omega) (by omega) (by omega), fun H13 t4 r4 m4 s13 ht4 hc4 => ?_⟩
        walk_at "rd"
        intro q hq
        have s14 : Same G1 (upd H13 q (.lst [.ref t3, .ref t4])) := Same.newT (Same.trans s12 s13) hq
        refine ne_Bk (hT.mono s14) (two_prs (q1 := (r3, m3)) (q2 := (r4, m4)) upd_same ((upd_ne (ne_of_none (s13 _ _ ht3) hq)).trans (s13 _ _ ht3)) ((upd_ne (ne_of_none ht4 hq)).trans ht4)) ?_
        obtain ⟨e1, e2⟩ := KM.cls_en_shift hc1 hc3
        have hc4' : KM.Cls (KM.en spot l) (spot + -1) r4 m4 := hc4
        obtain ⟨e3, e4⟩ := KM.cls_en_shift hc2 hc4'
        walk_at "rd"
        refine ifF (by simp [e1, e2, e3, e4]) (hU _ _ ?_)
        clear hU U hc3 hc4 hc4' e1 e2 e3 e4
        have aG2 := s14 _ _ aG1
        have hT2 := hT.mono s14
        have sG2 := Same.trans sE s14
        generalize upd H13 q (.lst [.ref t3, .ref t4]) = G2 at *
        clear s12 s13 ht3 ht4 hq s14 sE hT aG1 bG1
        -- 11: turned about
        refine seq_opaque fun U hU => ?_
        walk_at "rd"
        refine ⟨_, SqL.of aG2, fun ra hra => ?_⟩
        have rl : upd G2 ra (.lst (l.map V.int).reverse) ra = some (.lst (l.reverse.map V.int)) := by rw [List.map_reverse]; exact upd_same
        have s15 : Same G2 (upd G2 ra (.lst (l.map V.int).reverse)) := Same.new hra
        generalize upd G2 ra (.lst (l.map V.int).reverse) = G3 at *
        have lr : l.reverse.length = l.length := List.length_reverse
        refine ⟨ra, l.reverse, rfl, rl, by omega, by omega, KM.fit_rev hF, fun H16 t5 r5 m5 s16 ht5 hc5 => ?_⟩
        walk_at "rd"
        refine ⟨_, SqL.of (s16 _ _ (s15 _ _ aG2)), fun rb hrb => ?_⟩
        have rl2 : upd H16 rb (.lst (l.map V.int).reverse) rb = some (.lst (l.reverse.map V.int)) := by rw [List.map_reverse]; exact upd_same
        have s17 : Same H16 (upd H16 rb (.lst (l.map V.int).reverse)) := Same.new hrb
        generalize upd H16 rb (.lst (l.map V.int).reverse) = G4 at *
        refine ⟨rb, l.reverse, rfl, rl2, by omega, by omega, fun _ H18 t6 r6 m6 s18 ht6 hc6 => ?_, fun q r e' => ?_⟩
        rotate_left
        · rw [KM.conf_nil.mpr (KM.fit_rev hF)] at e'
          cases e'
        walk_at "rd"
        intro q2 hq2
        have s19 : Same G2 (upd H18 q2 (.lst [.ref t5, .ref t6])) := Same.newT (Same.trans s15 (Same.trans s16 (Same.trans s17 s18))) hq2
        have ht5' := s18 _ _ (s17 _ _ ht5)
        refine ne_Bk (two_prs (q1 := (r5, m5)) (q2 := (r6, m6)) upd_same ((upd_ne (ne_of_none ht5' hq2)).trans ht5') ((upd_ne (ne_of_none ht6 hq2)).trans ht6)) (hT2.mono s19) ?_
        rw [lr] at hc6
        obtain ⟨e1, e2⟩ := KM.cls_rev hc1 hc5
        obtain ⟨e3, e4⟩ := KM.cls_rev' hc2 hc6
        walk_at "rd"
        refine ifF (by simp [e1, e2, e3, e4]) (hU _ _ ?_)
        clear hU U hc5 hc6 e1 e2 e3 e4 hc1 hc2
        have aG5 := s19 _ _ aG2
        have sG5 := Same.trans sG2 s19
        generalize upd H18 q2 (.lst [.ref t5, .ref t6]) = G5 at *
        clear rl rl2 s15 s16 s17 s18 s19 ht5 ht5' ht6 hq2 hra hrb hT2 sG2 aG2
        -- 12: three further values
        refine seq_opaque fun U hU => ?_
        walk_at "rd"
        refine ⟨a, l, 3, rfl, aG5, h1, by omega, hF, fun G6 mo s20 hmo hFm => hU _ _ ?_⟩
        clear hU U
        have aG6 := s20 _ _ aG5
        have sG6 := Same.trans sG5 s20
        -- 13: a copy
        refine seq_opaque fun U hU => ?_
        walk_at "rd"
        refine listOf aG6 fun fo hfo => hU _ _ ?_
        clear hU U
        have nfa : a ≠ fo := ne_of_none aG6 hfo
        have s21 : Same G6 (upd G6 fo (.lst (l.map V.int))) := Same.new hfo
        have fG7 : upd G6 fo (.lst (l.map V.int)) fo = some (.lst (l.map V.int)) := upd_same
        generalize upd G6 fo (.lst (l.map V.int)) = G7 at *
        -- 14: the same from the book
        refine seq_opaque fun U hU => ?_
        walk_at "rd"
        refine ⟨by decide, by decide, ?_⟩
        refine forW walk_range (n := 3) (fun i σ H' => i ≤ 3 ∧ (∃ u, σ = [some (.ref p), some (.ref a), some (.int spot), some (.ref bk), some v, some (.int (cut : Nat)), some (.ref told), some (.ref mo), some (.ref fo), u, none, none, none]) ∧ Same G6 H' ∧
            ∃ j, j ≤ i ∧ (KM.ext l j).length ≤ 24 ∧ IL H' fo (KM.ext l j) ∧ KM.Fit (KM.en 0 (KM.ext l j)) ∧ ∀ z ∈ KM.ext l j, -(10 ^ 30) ≤ z ∧ z ≤ 10 ^ 30)
          ⟨Nat.zero_le _, ⟨none, rfl⟩, s21, 0, Nat.le_refl _, h2, fG7, hF, hv⟩ (fun _ _ _ _ _ => trivial) ?_ ?_
        · rintro i x σ H21 H' hi ⟨hin, ⟨u, rfl⟩, s22, j, hj, jl, hfo3, hF3, hb3⟩ ⟨rfl, rfl⟩
          have el := KM.ext_length l j
          have hfo3' : H' fo = some (.lst ((KM.ext l j).map V.int)) := hfo3
          walk_at "rd"
          refine lenL hfo3' ?_
          walk_at "rd"
          rw [List.length_map]
          by_cases h24 : (KM.ext l j).length < 24
          · refine ifT (decide_eq_true (by omega)) ?_
            refine ⟨ty_lst hfo3', ?_⟩
            walk_at "rd"
            refine ⟨fo, _, spot, rfl, hfo3, by omega, by omega, fun H23 b2 s23 _ hb2 => ?_⟩
            walk_at "rd"
            refine lenL (s23 _ _ hfo3') ?_
            walk_at "rd"
            rw [List.length_map]
            have hFs3 : KM.Fit (KM.en spot (KM.ext l j)) := KM.conf_nil.mp (by rw [KM.conf_en]; exact KM.conf_nil.mpr hF3)
            refine ⟨b2, _, _, rfl, hb2, bookOk_en (by omega) (by omega) hb3, hFs3, placeOk_en (by omega) (by omega) (by omega), fun H24 r m s24 hc => ?_⟩
            walk_at "rd"
            have hfo4 := s24 _ _ (s23 _ _ hfo3')
            have hFx : KM.Fit (KM.en 0 (KM.ext l j)) := hF3
            have hcx := KM.cls_unshift hc
            have hsm := KM.nx_small hcx (by omega)
            refine ⟨fo, _, _, rfl, rfl, hfo4, ?_, by omega, ⟨_, rfl⟩, ?_, j + 1, by omega, ?_, ?_, ?_, ?_⟩
            · rw [List.length_map]
              exact Nat.lt_of_lt_of_le (show (KM.ext l j).length < 100 by omega) (by decide)
            · exact Same.mut (Same.trans s22 (Same.trans s23 s24)) hfo
            · rw [KM.ext_length] at *
              omega
            · show upd H24 fo _ fo = some (.lst ((KM.ext l j ++ [KM.nx (KM.ext l j)]).map V.int))
              rw [KM.nx_eq hcx, List.map_append]
              exact upd_same
            · show KM.Fit (KM.en 0 (KM.ext l j ++ [KM.nx (KM.ext l j)]))
              rw [KM.nx_eq hcx]
              exact KM.fit_snoc hF3 hcx
            · intro z hz
              rcases List.mem_append.mp (show z ∈ KM.ext l j ++ [KM.nx (KM.ext l j)] from hz) with h | h
              · exact hb3 z h
              · rw [KM.nx_eq hcx] at h
                rw [List.mem_singleton.mp h]
                omega
          · refine ifF (decide_eq_false (by omega)) ?_
            exact ⟨by omega, ⟨_, rfl⟩, s22, j, by omega, jl, hfo3, hF3, hb3⟩
        rintro σ H25 ⟨_, ⟨u, rfl⟩, s26, j, hj, jl, hfo3, hF3, hb3⟩
        refine hU _ _ ?_
        clear hU U
        have hfo5 : H25 fo = some (.lst ((KM.ext l j).map V.int)) := hfo3
        have hmo5 : H25 mo = some (.lst ((KM.ext l 3).map V.int)) := s26 _ _ hmo
        have a25 := s26 _ _ aG6
        have s27 := Same.trans sG6 s26
        generalize hG : H25 = G8 at *
        -- 15: the same further values
        refine seq_opaque fun U hU => ?_
        walk_at "rd"
        refine lenL hfo5 ?_
        walk_at "rd"
        refine slL hmo5 fun c1 hc1 => ?_
        rw [List.length_map, cut_to, ← List.map_take]
        have ej : (KM.ext l 3).take (KM.ext l j).length = KM.ext l j := by
          have z := KM.ext_prefix l j (3 - j)
          rw [show j + (3 - j) = 3 by omega] at z
          exact z
        rw [ej]
        have c1h : IL (upd G8 c1 (.lst ((KM.ext l j).map V.int))) c1 (KM.ext l j) := upd_same
        have s28 : Same G8 (upd G8 c1 (.lst ((KM.ext l j).map V.int))) := Same.new hc1
        generalize upd G8 c1 (.lst ((KM.ext l j).map V.int)) = G9 at *
        refine lenL (s28 _ _ hmo5) ?_
        walk_at "rd"
        refine slL (s28 _ _ hfo5) fun c2 hc2 => ?_
        rw [List.length_map, cut_to, ← List.map_take, List.take_of_length_le (by rw [KM.ext_length, KM.ext_length]; omega)]
        have c2h : IL (upd G9 c2 (.lst ((KM.ext l j).map V.int))) c2 (KM.ext l j) := upd_same
        have s29 : Same G9 (upd G9 c2 (.lst ((KM.ext l j).map V.int))) := Same.new hc2
        generalize upd G9 c2 (.lst ((KM.ext l j).map V.int)) = G10 at *
        refine ne_IL (c1h.mono s29) c2h ?_
        walk_at "rd"
        refine ifF (by simp) ?_
        have a30 := s29 _ _ (s28 _ _ a25)
        refine ⟨a, l, 1, rfl, a30, h1, by omega, hF, fun H31 d1 s31 hd1 hFd1 => ?_⟩
        have el1 := KM.ext_length l 1
        refine ⟨d1, KM.ext l 1, 2, rfl, hd1, by omega, by omega, hFd1, fun H32 d2 s32 hd2 _ => ?_⟩
        rw [KM.ext_ext] at hd2
        have s33 : Same G8 H32 := Same.trans s28 (Same.trans s29 (Same.trans s31 s32))
        refine ne_IL hd2 (s33 _ _ hmo5 : IL H32 mo (KM.ext l 3)) ?_
        walk_at "rd"
        refine ifF (by simp) (hU _ _ ?_)
        clear hU U
        have a33 := s33 _ _ a25
        have s34 := Same.trans s27 s33
        -- 16: the differences
        refine seq_opaque fun U hU => ?_
        walk_at "rd"
        refine ⟨a, l, rfl, a33, h1, by omega, fun H35 ro s35 hro => ?_⟩
        walk_at "rd"
        refine slL (s35 _ _ a33) fun c3 hc3 => ?_
        have ec3 : cutV (l.map V.int) (some 1) none = (l.drop 1).map V.int := by
          rw [List.map_drop]
          exact cut_from _ 1
        rw [ec3]
        have c3h : upd H35 c3 (.lst ((l.drop 1).map V.int)) c3 = some (.lst ((l.drop 1).map V.int)) := upd_same
        have s36 : Same H35 (upd H35 c3 (.lst ((l.drop 1).map V.int))) := Same.new hc3
        generalize upd H35 c3 (.lst ((l.drop 1).map V.int)) = H36 at *
        intro c4 hc4
        have ld1 : (l.drop 1).length = l.length - 1 := List.length_drop
        refine ⟨c3, c4, _, _, rfl, rfl, (upd_ne (ne_of_none c3h hc4)).trans c3h, upd_same, ?_, fun c5 hc5 => ?_⟩
        · rw [List.length_map]
          exact Nat.le_trans (show (l.drop 1).length + 1 ≤ 1000 by omega) (by decide)
        have s37 : Same H36 (upd (upd H36 c4 (.lst [V.int 0])) c5 (.lst ((l.drop 1).map V.int ++ [V.int 0]))) := Same.newT (Same.new hc4) hc5
        have c5h : IL (upd (upd H36 c4 (.lst [V.int 0])) c5 (.lst ((l.drop 1).map V.int ++ [V.int 0]))) c5 (l.drop 1 ++ [0]) := by
          show upd _ c5 _ c5 = some (.lst ((l.drop 1 ++ [0]).map V.int))
          rw [List.map_append]
          exact upd_same
        generalize upd (upd H36 c4 (.lst [V.int 0])) c5 (.lst ((l.drop 1).map V.int ++ [V.int 0])) = H37 at *
        have ldl : (l.drop 1 ++ [0]).length = l.length := by rw [List.length_append, ld1, List.length_singleton]; omega
        refine ⟨c5, _, rfl, c5h, by omega, by omega, fun H38 la s38 hla => ?_⟩
        walk_at "rd"
        intro c6 hc6
        have s39 : Same H35 (upd H38 c6 (.tup [.ref ro, .ref la])) := Same.newT (Same.trans s36 (Same.trans s37 s38)) hc6
        have hla' : IL (upd H38 c6 (.tup [.ref ro, .ref la])) la (KM.diffs (l.drop 1 ++ [0])) := hla.mono (Same.new hc6)
        refine gtup upd_same ?_
        walk_at "rd"
        refine hU _ _ ?_
        clear hU U
        have ro' := hro.mono s39
        have s40 := Same.trans s34 (Same.trans s35 s39)
        have a40 := s39 _ _ (s35 _ _ a33)
        generalize upd H38 c6 (.tup [.ref ro, .ref la]) = G11 at *
        -- 17: each two beside one another
        walk_at "rd"
        refine lenL a40 ?_
        walk_at "rd"
        rw [List.length_map]
        refine ⟨by omega, by omega, fun Dd hD => ?_⟩
        have ro2 : G11 ro = some (.lst ((KM.diffs l).map V.int)) := ro'
        have dl : ∀ k, k < l.length → (KM.diffs l)[k]? = some (KM.D k (KM.vf l) 0) := fun k hk => by
          unfold KM.diffs
          rw [List.getElem?_map, List.getElem?_range hk]
          rfl
        have en : ((l.length : Int) - 1).toNat = l.length - 1 := by omega
        refine lcMap (walk_range (n := ((l.length : Int) - 1).toNat)) (fun i H' acc => acc = ((List.range i).map fun k => KM.D k (KM.vf (l.drop 1 ++ [0])) 0).map V.int) hD (fun _ => rfl) (fun _ _ => trivial) ?_ ?_
        · rintro i x H1 H' acc hi s1 hacc hal hA ⟨rfl, rfl⟩
          walk_at "rd"
          have e0 : ((0 : Int) + (i : Int)) = (i : Int) := by omega
          refine ixL (s1 _ _ ro2) (atM (j := i) (by omega) (dl i (by omega))) ?_
          walk_at "rd"
          refine ixL (s1 _ _ ro2) (atM (j := i + 1) (by omega) (dl (i + 1) (by omega))) ?_
          walk_at "rd"
          refine lcEnd s1 hacc hal (by omega) hD (Same.refl _) ?_
          rw [hA, range_more, List.map_append, KM.diffs_later l i (by omega)]
          rfl
        intro H41 acc s41 hacc hal hA
        walk_at "rd"
        refine lenL (s41 _ _ a40) ?_
        walk_at "rd"
        have la2 : H41 la = some (.lst ((KM.diffs (l.drop 1 ++ [0])).map V.int)) := s41 _ _ hla'
        refine slL la2 fun c7 hc7 => ?_
        have ec7 : cutV ((KM.diffs (l.drop 1 ++ [0])).map V.int) none (some (((l.map V.int).length : Int) - 1)) = ((List.range (l.length - 1)).map fun k => KM.D k (KM.vf (l.drop 1 ++ [0])) 0).map V.int := by
          rw [List.length_map, show ((l.length : Int) - 1) = ((l.length - 1 : Nat) : Int) by omega, cut_to]
          unfold KM.diffs
          rw [← List.map_take, ← List.map_take, List.take_range, ldl, Nat.min_eq_left (by omega)]
        rw [ec7]
        rw [hA, en] at hacc
        have s42 : Same H41 (upd H41 c7 (.lst (((List.range (l.length - 1)).map fun k => KM.D k (KM.vf (l.drop 1 ++ [0])) 0).map V.int))) := Same.new hc7
        refine eq_IL (l := (List.range (l.length - 1)).map fun k => KM.D k (KM.vf (l.drop 1 ++ [0])) 0) (r := (List.range (l.length - 1)).map fun k => KM.D k (KM.vf (l.drop 1 ++ [0])) 0) (s42 _ _ hacc) upd_same ?_
        rw [decide_eq_true rfl]
        exact k _ ⟨sG.trans (Same.off (Same.trans s40 (Same.trans s41 s42))), (hp9'.mono (Same.trans s40 (Same.trans s41 s42))).more (by omega)⟩)
    walk_at "rd"
    cases e : KM.conf (KM.en 0 l) with
    | nil =>
      rw [e] at hcvc
      have hcvc : v = .non := hcvc
      refine ifF (by rw [hcvc]; simp) (fin _ (Same.refl _))
    | cons q r =>
      rw [e] at hcvc
      obtain ⟨t, hvt, ht⟩ := hcvc
      refine ifT (by rw [hvt]; simp) ?_
      rw [hvt]
      refine ixT ht rfl ?_
      walk_at "rd"
      rw [← hvt]
      by_cases hq : ((q.2 : Nat) : Int) < (cut : Nat)
      · refine ifT (decide_eq_true hq) ?_
        refine slL hac' fun y hy => ?_
        rw [cut_to]
        have hyl : upd Hc y (.lst ((l.map V.int).take cut)) y = some (.lst ((l.take cut).map V.int)) := by rw [← List.map_take]; exact upd_same
        have s6 : Same Hc (upd Hc y (.lst ((l.map V.int).take cut))) := Same.new hy
        have lt : (l.take cut).length = cut := by rw [List.length_take]; omega
        refine ⟨y, l.take cut, rfl, hyl, by omega, by omega, fun H7 v7 s7 h7 => ?_⟩
        walk_at "rd"
        rcases h7 with ⟨_, hw⟩ | ⟨j, e7, _⟩
        · have hno := KM.conf_take (l := l) (c := cut) (i := q.1) (j := q.2) (by rw [e]; exact List.mem_cons_self) (by omega)
          exact absurd (KM.allW_iff.mp hw) hno
        · refine ifF (by rw [e7]; simp) (fin _ (Same.trans s6 s7))
      · refine ifF (decide_eq_false hq) (fin _ (Same.refl _))
theorem lc_vals1 {c0 c2 c3 c4 c5 c6 c7 c8 c9 c10 c11 c12 c13 c14 c15 c16 : Option V} {H : Hp} {a s0 D : Addr} {R : Rw} {ss : List Int} {Qd : Hp → Prop} (hS : H s0 = some (.lst (ss.map V.int))) (hR : RowAt H a R) (hz : RwSz R) (hb : ∀ x ∈ ss, -(10 ^ 29) ≤ x ∧ x ≤ 10 ^ 29) (hl : ss.length ≤ 100) (hD : H D = none)
    (k : ∀ H', Same H H' → BkAt H' D (KM.vals (KM.row R.own R.sh) ss) → Qd H') :
    LcW (Itl K s0) (gName 7) tYes (tTup (tCons (tVar 7) (tCons (tCall spAt [] E0 (tCons (tVar 1) (tCons (tVar 7) tNil))) tNil))) [7] [c0, some (.ref a), c2, c3, c4, c5, c6, c7, c8, c9, c10, c11, c12, c13, c14, c15, c16] H D Qd := by
  refine lcMap (walk_list (xs := ss.map V.int)) (fun i H' acc => Prs H' acc (KM.vals (KM.row R.own R.sh) (ss.take i))) hD (fun _ => .nil) (fun H' s => SqL.of (s _ _ hS)) ?_ ?_
  · rintro i x H1 H' acc hi s1 hacc hal hA ⟨rfl, hxi⟩
    rw [List.length_map] at hi
    obtain ⟨v, hv, rfl⟩ := map_get hxi
    have vb := hb v (List.mem_of_getElem? hv)
    walk_at "rd"
    refine ⟨a, R, v, rfl, hR.mono s1, hz, by omega, fun H2 s2 => ?_⟩
    walk_at "rd"
    intro t ht
    have s3 := Same.newT (o := .tup [V.int v, V.int (KM.row R.own R.sh v)]) s2 ht
    refine lcEnd s1 hacc hal (by omega) hD s3 (Prs.updL (s3 _ _ hacc) ?_)
    rw [take_more hv]
    show Prs _ _ (List.map _ _)
    rw [List.map_append]
    exact (Prs.mono s3 hA).snoc (q := (v, KM.row R.own R.sh v)) ⟨t, rfl, upd_same⟩
  · intro H1 acc s1 hacc hal hA
    rw [List.length_map, List.take_length] at hA
    exact k H1 s1 ⟨acc, hacc, hA⟩
theorem lc_vals2 {c0 c1 c3 c4 c5 c6 c7 c8 c9 c10 c11 c12 c13 c14 c15 c16 : Option V} {H : Hp} {a s0 D : Addr} {R : Rw} {ss : List Int} {Qd : Hp → Prop} (hS : H s0 = some (.lst (ss.map V.int))) (hR : RowAt H a R) (hz : RwSz R) (hb : ∀ x ∈ ss, -(10 ^ 29) ≤ x ∧ x ≤ 10 ^ 29) (hl : ss.length ≤ 100) (hD : H D = none)
    (k : ∀ H', Same H H' → BkAt H' D (KM.vals (KM.row R.own R.sh) ss) → Qd H') :
    LcW (Itl K s0) (gName 7) tYes (tTup (tCons (tVar 7) (tCons (tCall spAt [] E0 (tCons (tVar 2) (tCons (tVar 7) tNil))) tNil))) [7] [c0, c1, some (.ref a), c3, c4, c5, c6, c7, c8, c9, c10, c11, c12, c13, c14, c15, c16] H D Qd := by
  refine lcMap (walk_list (xs := ss.map V.int)) (fun i H' acc => Prs H' acc (KM.vals (KM.row R.own R.sh) (ss.take i))) hD (fun _ => .nil) (fun H' s => SqL.of (s _ _ hS)) ?_ ?_
  · rintro i x H1 H' acc hi s1 hacc hal hA ⟨rfl, hxi⟩
    rw [List.length_map] at hi
    obtain ⟨v, hv, rfl⟩ := map_get hxi
    have vb := hb v (List.mem_of_getElem? hv)
    walk_at "rd"
    refine ⟨a, R, v, rfl, hR.mono s1, hz, by omega, fun H2 s2 => ?_⟩
    walk_at "rd"
    intro t ht
    have s3 := Same.newT (o := .tup [V.int v, V.int (KM.row R.own R.sh v)]) s2 ht
    refine lcEnd s1 hacc hal (by omega) hD s3 (Prs.updL (s3 _ _ hacc) ?_)
    rw [take_more hv]
    show Prs _ _ (List.map _ _)
    rw [List.map_append]
    exact (Prs.mono s3 hA).snoc (q := (v, KM.row R.own R.sh v)) ⟨t, rfl, upd_same⟩
  · intro H1 acc s1 hacc hal hA
    rw [List.length_map, List.take_length] at hA
    exact k H1 s1 ⟨acc, hacc, hA⟩
def zipS (l r : Bk) (i : Nat) : Bk := (List.range i).map fun i => ((l.getD i (0, 0)).1, (l.getD i (0, 0)).2 + (r.getD i (0, 0)).2)
theorem lc_both {c0 c1 c2 c3 c4 c5 c6 c7 c8 c9 c10 c11 c12 c13 c14 c15 c16 : Option V} {H : Hp} {x y D : Addr} {l r : Bk} {Qd : Hp → Prop} (hx : BkAt H x l) (hy : BkAt H y r) (e : r.length = l.length) (hl : l.length ≤ 100) (hD : H D = none) (k : ∀ H', Same H H' → BkAt H' D (zipS l r l.length) → Qd H') :
    LcW (Itz K x y) (gTup K 2 (gCons (gTup K 2 (gCons (gName 7) (gCons (gName 13) gNil))) (gCons (gTup K 2 (gCons (gName 14) (gCons (gName 15) gNil))) gNil))) tYes
      (tTup (tCons (tVar 7) (tCons (tOp (rI0 fun i j => V.int (i + j)) (tVar 13) (tVar 15)) tNil))) [7, 13, 14, 15] [c0, c1, c2, c3, c4, c5, c6, c7, c8, c9, c10, c11, c12, c13, c14, c15, c16] H D Qd := by
  obtain ⟨xs, hxs, px⟩ := hx
  obtain ⟨ys, hys, py⟩ := hy
  have lx := Paired.length px
  have ly := Paired.length py
  refine lcMap (walk_zip (xs := xs) (ys := ys) (n := l.length) (by omega)) (fun i H' acc => Prs H' acc (zipS l r i)) hD (fun _ => .nil) (fun H' s => ⟨SqL.of (s _ _ hxs), SqL.of (s _ _ hys)⟩) ?_ ?_
  · rintro i v H1 H' acc hi s1 hacc hal hA ⟨T1, x1, y1, rfl, hT, rfl, hxi, hyi⟩
    obtain ⟨t1, q1, hq1, rfl, ht1⟩ := px.get hxi
    obtain ⟨t2, q2, hq2, rfl, ht2⟩ := py.get hyi
    have s2 : Same H1 (upd H1 T1 (.tup [.ref t1, .ref t2])) := Same.new hT
    refine gtup upd_same ?_
    walk_at "rd"
    refine gtup (s2 _ _ (s1 _ _ ht1)) ?_
    walk_at "rd"
    refine gtup (s2 _ _ (s1 _ _ ht2)) ?_
    walk_at "rd"
    intro t3 ht3
    have s3 := Same.newT (o := .tup [V.int q1.1, V.int (q1.2 + q2.2)]) s2 ht3
    refine lcEnd s1 hacc hal (by omega) hD s3 (Prs.updL (s3 _ _ hacc) ?_)
    unfold zipS
    rw [range_more]
    have e1 : l.getD i (0, 0) = q1 := by rw [List.getD_eq_getElem?_getD, hq1]; rfl
    have e2 : r.getD i (0, 0) = q2 := by rw [List.getD_eq_getElem?_getD, hq2]; rfl
    rw [e1, e2]
    exact (Prs.mono s3 hA).snoc (q := (q1.1, q1.2 + q2.2)) ⟨t3, rfl, upd_same⟩
  · intro H1 acc s1 hacc hal hA
    exact k H1 s1 ⟨acc, hacc, hA⟩
theorem lc_abs {c0 c1 c2 c3 c4 c5 c6 c7 c8 c9 c10 c11 c12 c13 c14 c15 c16 : Option V} {H : Hp} {x D : Addr} {l : Bk} {Qd : Hp → Prop} (hx : BkAt H x l) (hl : l.length ≤ 300) (hD : H D = none) (k : ∀ H', Same H H' → IL H' D (l.map fun q => (q.2.natAbs : Int)) → Qd H') :
    LcW (Itl K x) (gTup K 2 (gCons (gName 7) (gCons (gName 16) gNil))) tYes (tCB rAbs (tCons (tVar 16) tNil)) [7, 16] [c0, c1, c2, c3, c4, c5, c6, c7, c8, c9, c10, c11, c12, c13, c14, c15, c16] H D Qd := by
  obtain ⟨xs, hxs, px⟩ := hx
  have lx := Paired.length px
  refine lcMap (walk_list (xs := xs)) (fun i H' acc => acc = ((l.take i).map fun q => (q.2.natAbs : Int)).map V.int) hD (fun _ => rfl) (fun H' s => SqL.of (s _ _ hxs)) ?_ ?_
  · rintro i v H1 H' acc hi s1 hacc hal hA ⟨rfl, hxi⟩
    obtain ⟨t1, q1, hq1, rfl, ht1⟩ := px.get hxi
    refine gtup (s1 _ _ ht1) ?_
    walk_at "rd"
    refine lcEnd s1 hacc hal (by omega) hD (Same.refl _) ?_
    rw [hA, take_more hq1, List.map_append, List.map_append]
    rfl
  · intro H1 acc s1 hacc hal hA
    rw [lx, List.take_length] at hA
    subst hA
    exact k H1 s1 hacc
theorem zipS_map {g : Int → Int} {ss : List Int} {l : Bk} (hl : l.length = ss.length) (hp : ∀ i, i < l.length → (l.getD i (0, 0)).1 = ss.getD i 0) : zipS l (KM.vals g ss) l.length = l.map fun q => (q.1, q.2 + g q.1) := by
  refine List.ext_getElem? fun i => ?_
  unfold zipS
  rw [List.getElem?_map, List.getElem?_map]
  by_cases hi : i < l.length
  · have hs : i < ss.length := by omega
    have e1 : l.getD i (0, 0) = l[i] := by rw [List.getD_eq_getElem?_getD, List.getElem?_eq_getElem hi]; rfl
    have e2 : (KM.vals g ss).getD i (0, 0) = (ss[i], g ss[i]) := by
      unfold KM.vals
      rw [List.getD_eq_getElem?_getD, List.getElem?_map, List.getElem?_eq_getElem hs]
      rfl
    have e3 : ss.getD i 0 = ss[i] := by rw [List.getD_eq_getElem?_getD, List.getElem?_eq_getElem hs]; rfl
    have e4 := hp i hi
    rw [e1, e3] at e4
    rw [List.getElem?_range hi, List.getElem?_eq_getElem hi]
    show some ((l.getD i (0, 0)).1, (l.getD i (0, 0)).2 + ((KM.vals g ss).getD i (0, 0)).2) = some (l[i].1, l[i].2 + g l[i].1)
    rw [e1, e2, ← e4]
  · rw [List.getElem?_eq_none (by rw [List.length_range]; omega), List.getElem?_eq_none (by omega)]
    rfl
theorem vals_len (f : Int → Int) (ss : List Int) : (KM.vals f ss).length = ss.length := List.length_map ..
theorem vals_place {f : Int → Int} {ss : List Int} {i : Nat} (hi : i < ss.length) : ((KM.vals f ss).getD i (0, 0)).1 = ss.getD i 0 := by
  unfold KM.vals
  rw [List.getD_eq_getElem?_getD, List.getElem?_map, List.getD_eq_getElem?_getD, List.getElem?_eq_getElem hi]
  rfl
theorem zipS_vals (f g : Int → Int) (ss : List Int) : zipS (KM.vals f ss) (KM.vals g ss) (KM.vals f ss).length = KM.vals (fun s => f s + g s) ss := by
  rw [zipS_map (vals_len f ss) fun i hi => vals_place (by rw [vals_len] at hi; exact hi)]
  unfold KM.vals
  rw [List.map_map]
  rfl
theorem asc_of {l : Bk} {ss : List Int} (hl : l.length = ss.length) (hp : ∀ i, i < l.length → (l.getD i (0, 0)).1 = ss.getD i 0) (h : ss.Pairwise (· < ·)) : l.Pairwise fun x y => x.1 < y.1 := by
  refine List.pairwise_iff_getElem.mpr fun i j hi hj hij => ?_
  have z := List.pairwise_iff_getElem.mp h i j (by omega) (by omega) hij
  have p1 := hp i hi
  have p2 := hp j hj
  rw [List.getD_eq_getElem?_getD, List.getD_eq_getElem?_getD, List.getElem?_eq_getElem hi, List.getElem?_eq_getElem (by omega)] at p1
  rw [List.getD_eq_getElem?_getD, List.getD_eq_getElem?_getD, List.getElem?_eq_getElem hj, List.getElem?_eq_getElem (by omega)] at p2
  have p1 : l[i].1 = ss[i] := p1
  have p2 : l[j].1 = ss[j] := p2
  rw [p1, p2]
  exact z
theorem book_of_places {l : Bk} {ss : List Int} (hl : l.length = ss.length) (hp : ∀ i, i < l.length → (l.getD i (0, 0)).1 = ss.getD i 0) (h : ss.Pairwise (· < ·)) (hs : ∀ x ∈ ss, -(10 ^ 29) ≤ x ∧ x ≤ 10 ^ 29) (h24 : ss.length ≤ 24) (hv : ∀ q ∈ l, -(10 ^ 30) ≤ q.2 ∧ q.2 ≤ 10 ^ 30) : BookOk l := by
  refine ⟨by omega, fun q hq => ?_, asc_of hl hp h⟩
  obtain ⟨i, hi, e⟩ := KM.mem_getD hq
  have p1 := hp i hi
  rw [e] at p1
  have hm : q.1 ∈ ss := by
    rw [p1, List.getD_eq_getElem?_getD, List.getElem?_eq_getElem (show i < ss.length by omega)]
    exact List.getElem_mem _
  have b := hs _ hm
  have c := hv q hq
  exact ⟨by omega, by omega, c.1, c.2⟩
theorem sc__law_sums_right : FnScope ["_law_purse_here", "_law_row_here_here", "_law_other_row", "_law_spots_here", "_law_one_book", "_law_other_book", "_law_both", "_law_spot", "_law_first_class", "_law_second_class", "_law_told", "_law_bent_here", "_law_mixed", "_law_a", "_law_near", "_law_b", "_law_val"] ["_law_purse_here", "_law_row_here_here", "_law_other_row", "_law_spots_here"] (defScope (topS 58)) := ⟨rfl, rfl, rfl, by decide +kernel, rfl, by decide +kernel, by decide +kernel⟩
theorem ok__law_sums_right (T : Txt K mg) (dn : Dfn K mg "_law_sums_right" (topS 58) ["_law_purse_here", "_law_row_here_here", "_law_other_row", "_law_spots_here"]) (h__law_at : Has P w K mg base "_law_at" 3 ["_law_row_here_here", "_law_spot"] spAt) (h_conflict_of : Has P w K mg base "conflict_of" 6 ["book"] spConfOf) (h__law_new : Has P w K mg base "_law_new" 2 ["_law_purse_here", "_law_book_here", "_law_row_here_here", "_law_most"] spNew) (h_class_at : Has P w K mg base "class_at" 7 ["book", "place"] spClsAt) (h__law_bent : Has P w K mg base "_law_bent" 2 ["_law_purse_here", "_law_book_here"] spBent) (h_all_conflicts : Has P w K mg base "all_conflicts" 6 ["book"] spAllConf) : Has P w K mg base "_law_sums_right" 8 ["_law_purse_here", "_law_row_here_here", "_law_other_row", "_law_spots_here"] spSums := by
  refine dn.has fun f fd F => ?_
  have nd := sc__law_sums_right.nd
  refine F.ok sc__law_sums_right (fun vs H Q E h => ?_) (fun cdv A outer s H vs Q E hr h => ?_)
  · obtain ⟨p, a, b, s0, n, R, R', ss, rfl, hp, hn, hR, hz, hR', hz', hS, hpw, hsb, hsl, k⟩ := h
    rfl
  · obtain ⟨p, a, b, s0, n, R, R', ss, rfl, hp, hn, hR, hz, hR', hz', hS, hpw, hsb, hsl, k⟩ := h
    refine ⟨_, 
      (pss_cons (ps_setLc (i := 4) (own := [("_law_spot", 7)]) rfl nd rfl rfl (sw_true rfl rfl rfl (by decide +kernel)) (pi_listK (K := K) (pv 3)) (blkOk_by (own := [("_law_spot", 7)]) (N := ["_law_purse_here", "_law_row_here_here", "_law_other_row", "_law_spots_here", "_law_one_book", "_law_other_book", "_law_both", "_law_spot", "_law_first_class", "_law_second_class", "_law_told", "_law_bent_here", "_law_mixed", "_law_a", "_law_near", "_law_b", "_law_val"]) (sc := defScope (topS 58)) (by decide +kernel)) (fun _ _ _ _ _ => (pg_name (i := 7) nd rfl (Or.inl rfl) (Or.inr rfl))) (fun _ _ _ _ _ => pts_nil) (fun _ _ _ _ _ => (pe_tup (pa_cons (pv 7) (pa_cons (pe_has h__law_at (hr.mono (by decide)) (pa_cons (pv 1) (pa_cons (pv 7) pa_nil))) pa_nil))))) 
      (pss_cons (ps_setLc (i := 5) (own := [("_law_spot", 7)]) rfl nd rfl rfl (sw_true rfl rfl rfl (by decide +kernel)) (pi_listK (K := K) (pv 3)) (blkOk_by (own := [("_law_spot", 7)]) (N := ["_law_purse_here", "_law_row_here_here", "_law_other_row", "_law_spots_here", "_law_one_book", "_law_other_book", "_law_both", "_law_spot", "_law_first_class", "_law_second_class", "_law_told", "_law_bent_here", "_law_mixed", "_law_a", "_law_near", "_law_b", "_law_val"]) (sc := defScope (topS 58)) (by decide +kernel)) (fun _ _ _ _ _ => (pg_name (i := 7) nd rfl (Or.inl rfl) (Or.inr rfl))) (fun _ _ _ _ _ => pts_nil) (fun _ _ _ _ _ => (pe_tup (pa_cons (pv 7) (pa_cons (pe_has h__law_at (hr.mono (by decide)) (pa_cons (pv 2) (pa_cons (pv 7) pa_nil))) pa_nil))))) 
      (pss_cons (ps_setLc (i := 6) (own := [("_law_spot", 7), ("_law_a", 13), ("_law_near", 14), ("_law_b", 15)]) rfl nd rfl rfl (sw_true rfl rfl rfl (by decide +kernel)) (pi_zipK (K := K) T.b_zip (pa_cons (pv 4) (pa_cons (pv 5) pa_nil))) (blkOk_by (own := [("_law_spot", 7), ("_law_a", 13), ("_law_near", 14), ("_law_b", 15)]) (N := ["_law_purse_here", "_law_row_here_here", "_law_other_row", "_law_spots_here", "_law_one_book", "_law_other_book", "_law_both", "_law_spot", "_law_first_class", "_law_second_class", "_law_told", "_law_bent_here", "_law_mixed", "_law_a", "_law_near", "_law_b", "_law_val"]) (sc := defScope (topS 58)) (by decide +kernel)) (fun _ _ _ _ _ => (pg_tupK (K := K) (n := 2) (pgs_cons (pg_tupK (K := K) (n := 2) (pgs_cons (pg_name (i := 7) nd rfl (Or.inl rfl) (Or.inr rfl)) (pgs_cons (pg_name (i := 13) nd rfl (Or.inl rfl) (Or.inr rfl)) pgs_nil))) (pgs_cons (pg_tupK (K := K) (n := 2) (pgs_cons (pg_name (i := 14) nd rfl (Or.inl rfl) (Or.inr rfl)) (pgs_cons (pg_name (i := 15) nd rfl (Or.inl rfl) (Or.inr rfl)) pgs_nil))) pgs_nil)))) (fun _ _ _ _ _ => pts_nil) (fun _ _ _ _ _ => (pe_tup (pa_cons (pv 7) (pa_cons (pe_op op_add (pv 13) (pv 15)) pa_nil))))) 
      (pss_cons (ps_if (pt_cmpR op_gt (pe_callB (cr_maxK (K := K)) (by rfl) T.b_max (by decide +kernel) (pa_cons (pe_op op_cat (pe_lc (own := [("_law_spot", 7), ("_law_val", 16)]) rfl nd (pi_listK (K := K) (pe_op op_cat (pe_op op_cat (pv 4) (pv 5)) (pv 6))) (blkOk_by (own := [("_law_spot", 7), ("_law_val", 16)]) (N := ["_law_purse_here", "_law_row_here_here", "_law_other_row", "_law_spots_here", "_law_one_book", "_law_other_book", "_law_both", "_law_spot", "_law_first_class", "_law_second_class", "_law_told", "_law_bent_here", "_law_mixed", "_law_a", "_law_near", "_law_b", "_law_val"]) (sc := defScope (topS 58)) (by decide +kernel)) (fun _ _ _ _ _ => (pg_tupK (K := K) (n := 2) (pgs_cons (pg_name (i := 7) nd rfl (Or.inl rfl) (Or.inr rfl)) (pgs_cons (pg_name (i := 16) nd rfl (Or.inl rfl) (Or.inr rfl)) pgs_nil)))) (fun _ _ _ _ _ => pts_nil) (fun _ _ _ _ _ => (pe_callB call_absK (by rfl) T.b_abs (by decide +kernel) (pa_cons (pv 16) pa_nil)))) (pe_lst (pa_cons pe_int pa_nil))) pa_nil)) (pe_op op_powW pe_int pe_int) (nomark _)) 
        (pss_one (ps_ret pe_bl)) pss_nil) 
      (pss_cons (ps_if (pt_cmpR op_notN (pe_has h_conflict_of (hr.mono (by decide)) (pa_cons (pv 6) pa_nil)) pe_non (nomark _)) 
        (pss_one (ps_ret pe_bl)) pss_nil) 
      (pss_cons (ps_for PassesOwn.never rfl (pi_listK (K := K) (pe_has h__law_new (hr.mono (by decide)) (pa_cons (pv 0) (pa_cons (pv 4) (pa_cons (pv 1) (pa_cons pe_int pa_nil)))))) (pg_name (i := 7) nd rfl (Or.inl rfl) (Or.inr rfl)) 
        (pss_cons (ps_par3 (i := 8) (j := 9) (l := 10) rfl nd rfl rfl rfl (by decide) (by decide) (by decide) rfl rfl rfl (pa_cons (pe_has h_class_at (hr.mono (by decide)) (pa_cons (pv 4) (pa_cons (pv 7) pa_nil))) (pa_cons (pe_has h_class_at (hr.mono (by decide)) (pa_cons (pv 5) (pa_cons (pv 7) pa_nil))) (pa_cons (pe_has h_class_at (hr.mono (by decide)) (pa_cons (pv 6) (pa_cons (pv 7) pa_nil))) pa_nil))) (by rfl)) 
        (pss_cons (ps_if (PW.pt (pw_or (pt_cmpR op_ne (pe_ix (ix_tupK (K := K)) (pv 8) pe_int (fun _ _ => rfl)) (pe_ix (ix_tupK (K := K)) (pv 10) pe_int (fun _ _ => rfl)) (nomark _)) (pw_or1 (pt_cmpR op_ne (pe_ix (ix_tupK (K := K)) (pv 9) pe_int (fun _ _ => rfl)) (pe_ix (ix_tupK (K := K)) (pv 10) pe_int (fun _ _ => rfl)) (nomark _))))) 
          (pss_one (ps_ret pe_bl)) pss_nil) 
        (pss_one (ps_if (pt_cmpR op_ne (pe_ix (ix_tupK (K := K)) (pv 10) pe_int (fun _ _ => rfl)) (pe_op op_mod (pe_callTy call_int1K (by rfl) T.b_int (by decide +kernel) (pa_cons (pe_op op_add (pe_ix (ix_tupK (K := K)) (pv 8) pe_int (fun _ _ => rfl)) (pe_ix (ix_tupK (K := K)) (pv 9) pe_int (fun _ _ => rfl))) pa_nil)) (pe_ix (ix_tupK (K := K)) (pv 10) pe_int (fun _ _ => rfl))) (nomark _)) 
          (pss_one (ps_ret pe_bl)) pss_nil))))) 
      (pss_cons (ps_set (i := 11) nd rfl (Or.inl rfl) (pe_has h__law_bent (hr.mono (by decide)) (pa_cons (pv 0) (pa_cons (pv 4) pa_nil))) (hf := Or.inr rfl)) 
      (pss_cons (ps_setLc (i := 12) (own := [("_law_spot", 7), ("_law_a", 13), ("_law_near", 14), ("_law_b", 15)]) rfl nd rfl rfl (sw_true rfl rfl rfl (by decide +kernel)) (pi_zipK (K := K) T.b_zip (pa_cons (pv 11) (pa_cons (pv 5) pa_nil))) (blkOk_by (own := [("_law_spot", 7), ("_law_a", 13), ("_law_near", 14), ("_law_b", 15)]) (N := ["_law_purse_here", "_law_row_here_here", "_law_other_row", "_law_spots_here", "_law_one_book", "_law_other_book", "_law_both", "_law_spot", "_law_first_class", "_law_second_class", "_law_told", "_law_bent_here", "_law_mixed", "_law_a", "_law_near", "_law_b", "_law_val"]) (sc := defScope (topS 58)) (by decide +kernel)) (fun _ _ _ _ _ => (pg_tupK (K := K) (n := 2) (pgs_cons (pg_tupK (K := K) (n := 2) (pgs_cons (pg_name (i := 7) nd rfl (Or.inl rfl) (Or.inr rfl)) (pgs_cons (pg_name (i := 13) nd rfl (Or.inl rfl) (Or.inr rfl)) pgs_nil))) (pgs_cons (pg_tupK (K := K) (n := 2) (pgs_cons (pg_name (i := 14) nd rfl (Or.inl rfl) (Or.inr rfl)) (pgs_cons (pg_name (i := 15) nd rfl (Or.inl rfl) (Or.inr rfl)) pgs_nil))) pgs_nil)))) (fun _ _ _ _ _ => pts_nil) (fun _ _ _ _ _ => (pe_tup (pa_cons (pv 7) (pa_cons (pe_op op_add (pv 13) (pv 15)) pa_nil))))) 
      (pss_cons (ps_if (pt_cmpR op_gt (pe_callB (cr_maxK (K := K)) (by rfl) T.b_max (by decide +kernel) (pa_cons (pe_op op_cat (pe_lc (own := [("_law_spot", 7), ("_law_val", 16)]) rfl nd (pi_listK (K := K) (pv 12)) (blkOk_by (own := [("_law_spot", 7), ("_law_val", 16)]) (N := ["_law_purse_here", "_law_row_here_here", "_law_other_row", "_law_spots_here", "_law_one_book", "_law_other_book", "_law_both", "_law_spot", "_law_first_class", "_law_second_class", "_law_told", "_law_bent_here", "_law_mixed", "_law_a", "_law_near", "_law_b", "_law_val"]) (sc := defScope (topS 58)) (by decide +kernel)) (fun _ _ _ _ _ => (pg_tupK (K := K) (n := 2) (pgs_cons (pg_name (i := 7) nd rfl (Or.inl rfl) (Or.inr rfl)) (pgs_cons (pg_name (i := 16) nd rfl (Or.inl rfl) (Or.inr rfl)) pgs_nil)))) (fun _ _ _ _ _ => pts_nil) (fun _ _ _ _ _ => (pe_callB call_absK (by rfl) T.b_abs (by decide +kernel) (pa_cons (pv 16) pa_nil)))) (pe_lst (pa_cons pe_int pa_nil))) pa_nil)) (pe_op op_powW pe_int pe_int) (nomark _)) 
        (pss_one (ps_ret pe_bl)) pss_nil) 
      (pss_one (ps_ret (pe_cmpR (op_eqDK (K := K) hr.units) (pe_has h_all_conflicts (hr.mono (by decide)) (pa_cons (pv 12) pa_nil)) (pe_has h_all_conflicts (hr.mono (by decide)) (pa_cons (pv 11) pa_nil)) (nomark _))))))))))))), ?_⟩
    walk_at "st"
    have hS0 : H s0 = some (.lst (ss.map V.int)) := (off_some hS).2
    have hR1 := hR.of_off
    have hR2 := hR'.of_off
    have f1 := KM.row_keeps R.own R.sh
    have f2 := KM.row_keeps R'.own R'.sh
    have so := Same.refl (off p H)
    -- 1, 2: the two books
    refine seq_opaque fun U hU => ?_
    walk_at "rd"
    refine ⟨⟨_, SqL.of hS0⟩, fun D hD => lc_vals1 hS0 hR1 hz hsb (by omega) hD fun H1 s1 b1 => hU _ _ ?_⟩
    clear hU U
    have nD := hp.ne hD
    refine seq_opaque fun U hU => ?_
    walk_at "rd"
    refine ⟨⟨_, SqL.of (s1 _ _ hS0)⟩, fun D2 hD2 => lc_vals2 (s1 _ _ hS0) (hR2.mono s1) hz' hsb (by omega) hD2 fun H2 s2 b2 => hU _ _ ?_⟩
    clear hU U
    have nD2 := (hp.mono s1).ne hD2
    have b12 := b1.mono s2
    generalize ef : KM.row R.own R.sh = f at *
    generalize eg : KM.row R'.own R'.sh = g at *
    have lf := vals_len f ss
    have lg := vals_len g ss
    -- 3: both
    refine seq_opaque fun U hU => ?_
    walk_at "rd"
    obtain ⟨xs, hxs, _⟩ := id b12
    obtain ⟨ys, hys, _⟩ := id b2
    refine ⟨D, D2, xs, ys, rfl, SqL.of hxs, SqL.of hys, fun D3 hD3 => lc_both b12 b2 (by omega) (by omega) hD3 fun H3 s3 b3 => hU _ _ ?_⟩
    clear hU U
    rw [zipS_vals] at b3
    have s03 := Same.trans s1 (Same.trans s2 s3)
    have b13 := b12.mono s3
    have b23 := b2.mono s3
    have hp3 := hp.mono s03
    have nD3 := (hp.mono (Same.trans s1 s2)).ne hD3
    clear hxs hys hD hD2 hD3
    -- 4: too great?
    refine seq_opaque fun U hU => ?_
    walk_at "rd"
    obtain ⟨xs1, h1, p1⟩ := id b13
    obtain ⟨xs2, h2, p2⟩ := id b23
    have z1 := Paired.length p1
    have z2 := Paired.length p2
    refine ⟨D, D2, _, _, rfl, rfl, h1, h2, Nat.le_trans (show xs1.length + xs2.length ≤ 1000 by omega) (by decide), fun c1 hc1 => ?_⟩
    have s4 : Same H3 (upd H3 c1 (.lst (xs1 ++ xs2))) := Same.new hc1
    have q12 : upd H3 c1 (.lst (xs1 ++ xs2)) c1 = some (.lst (xs1 ++ xs2)) := upd_same
    have p12 := (Prs.mono s4 p1).append (Prs.mono s4 p2)
    generalize upd H3 c1 (.lst (xs1 ++ xs2)) = H4 at *
    obtain ⟨xs3, h3, p3⟩ := id (b3.mono s4)
    have z3 := Paired.length p3
    have lb := vals_len (fun s => f s + g s) ss
    refine ⟨c1, D3, _, _, rfl, rfl, q12, h3, Nat.le_trans (show (xs1 ++ xs2).length + xs3.length ≤ 1000 by rw [List.length_append]; omega) (by decide), fun c2 hc2 => ?_⟩
    have s5 : Same H4 (upd H4 c2 (.lst (xs1 ++ xs2 ++ xs3))) := Same.new hc2
    have q123 : upd H4 c2 (.lst (xs1 ++ xs2 ++ xs3)) c2 = some (.lst (xs1 ++ xs2 ++ xs3)) := upd_same
    have p123 := (Prs.mono s5 p12).append (Prs.mono s5 p3)
    generalize upd H4 c2 (.lst (xs1 ++ xs2 ++ xs3)) = H5 at *
    walk_at "rd"
    refine ⟨⟨_, SqL.of q123⟩, fun c3 hc3 => lc_abs ⟨_, q123, p123⟩ (by rw [List.length_append, List.length_append]; omega) hc3 fun H6 s6 hab => ?_⟩
    have hN : ∀ q ∈ KM.vals f ss ++ KM.vals g ss ++ KM.vals (fun s => f s + g s) ss, (q.2.natAbs : Int) ∈ (KM.vals f ss ++ KM.vals g ss ++ KM.vals (fun s => f s + g s) ss).map fun q => (q.2.natAbs : Int) := fun q hq => List.mem_map_of_mem (f := fun q : Int × Int => (q.2.natAbs : Int)) hq
    have lN : ((KM.vals f ss ++ KM.vals g ss ++ KM.vals (fun s => f s + g s) ss).map fun q => (q.2.natAbs : Int)).length ≤ 200 := by
      rw [List.length_map, List.length_append, List.length_append]
      omega
    generalize (KM.vals f ss ++ KM.vals g ss ++ KM.vals (fun s => f s + g s) ss).map (fun q : Int × Int => (q.2.natAbs : Int)) = N at hab hN lN
    intro c4 hc4
    have hab' : H6 c3 = some (.lst (N.map V.int)) := hab
    have n34 := ne_of_none hab' hc4
    refine ⟨c3, c4, _, _, rfl, rfl, (upd_ne n34).trans hab', upd_same, ?_, fun c5 hc5 => ?_⟩
    · rw [List.length_map]
      exact Nat.le_trans (show N.length + 1 ≤ 1000 by omega) (by decide)
    have s7 := Same.newT (o := .lst (N.map V.int ++ [V.int 0])) (Same.newT (o := .lst [V.int 0]) s6 hc4) hc5
    refine ⟨c5, N ++ [0], rfl, SqL.of (by rw [List.map_append]; exact upd_same), (by rw [List.length_append, List.length_singleton]; omega), fun m hm hmax => ?_⟩
    have s37 := Same.trans s4 (Same.trans s5 s7)
    generalize upd (upd H6 c4 (.lst [V.int 0])) c5 (.lst (N.map V.int ++ [V.int 0])) = H7 at *
    walk_at "rd"
    refine ⟨cp10 (by decide) (by decide), ?_⟩
    have s07 := Same.trans s03 s37
    have hp7 := hp3.mono s37
    by_cases big : (10 ^ 30 : Int) < m
    · refine ifT (decide_eq_true big) (k H7 ⟨Same.off s07, hp7.more (by omega)⟩)
    refine ifF (decide_eq_false big) (hU _ _ ?_)
    clear hU U
    have vb : ∀ q ∈ KM.vals f ss ++ KM.vals g ss ++ KM.vals (fun s => f s + g s) ss, -(10 ^ 30) ≤ q.2 ∧ q.2 ≤ 10 ^ 30 := fun q hq => by
      have z := hmax (q.2.natAbs : Int) (List.mem_append_left _ (hN q hq))
      omega
    have ok1 : BookOk (KM.vals f ss) := book_of_places lf (fun i hi => vals_place (by omega)) hpw hsb hsl fun q hq => vb q (List.mem_append_left _ (List.mem_append_left _ hq))
    have ok2 : BookOk (KM.vals g ss) := book_of_places lg (fun i hi => vals_place (by omega)) hpw hsb hsl fun q hq => vb q (List.mem_append_left _ (List.mem_append_right _ hq))
    have ok3 : BookOk (KM.vals (fun s => f s + g s) ss) := book_of_places lb (fun i hi => vals_place (by omega)) hpw hsb hsl fun q hq => vb q (List.mem_append_right _ hq)
    have fsum : ∀ x y, x - y ∣ (fun s => f s + g s) x - (fun s => f s + g s) y := fun x y => by
      have z := Int.dvd_add (f1 x y) (f2 x y)
      have e : f x - f y + (g x - g y) = f x + g x - (f y + g y) := by omega
      rw [e] at z
      exact z
    have ft1 := KM.vals_fit f1 ss
    have ft2 := KM.vals_fit f2 ss
    have ft3 := KM.vals_fit fsum ss
    have b17 := b13.mono s37
    have b27 := b23.mono s37
    have b37 := b3.mono s37
    clear b13 b23 b3 b1 b12 b2 s1 s2 s3 s4 s5 s6 s7 hab hab' q12 q123 p12 p123 p1 p2 p3 h1 h2 h3 hc1 hc2 hc3 hc4 hc5 hp3 vb hmax hm s37
    -- 5: the sum has no conflict
    refine seq_opaque fun U hU => ?_
    walk_at "rd"
    refine ⟨D3, _, rfl, b37, ok3, fun H8 v s8 hv => ?_⟩
    rw [KM.conf_nil.mpr ft3] at hv
    have hv : v = .non := hv
    subst hv
    refine ifF (by simp) (hU _ _ ?_)
    clear hU U
    have s08 := Same.trans s07 s8
    have hp8 := hp7.mono s8
    have b18 := (b17.mono s8).to_off hp8 nD
    have b28 := (b27.mono s8).to_off hp8 nD2
    have b38 := (b37.mono s8).to_off hp8 nD3
    -- 6: the classes at new places
    refine seq_opaque fun U hU => ?_
    walk_at "rd"
    have rA8 : RowAt (off p H8) a R := hR.mono (Same.off s08)
    refine ⟨p, D, a, n, _, R, rfl, hp8, by omega, b18, by omega, fun q hq => ?_, rA8, hz, fun H9 nw ws g9 hnw hws wl => ?_⟩
    · have z := ok1.bnd q hq
      exact ⟨z.1, z.2.1⟩
    obtain ⟨s9, hp9⟩ := g9
    have s09 : Same (off p H) (off p H9) := (Same.off s08).trans s9
    have b19 := (b18.mono s9).of_off
    have b29 := (b28.mono s9).of_off
    have b39 := (b38.mono s9).of_off
    have hnw9 : H9 nw = some (.lst (ws.map V.int)) := hnw.of_off
    walk_at "rd"
    refine ⟨⟨_, SqL.of hnw9⟩, ?_⟩
    refine forW (walk_list (xs := ws.map V.int)) (fun i σ H' => (∃ u1 u2 u3 u4, σ = [some (.ref p), some (.ref a), some (.ref b), some (.ref s0), some (.ref D), some (.ref D2), some (.ref D3), u1, u2, u3, u4, none, none, none, none, none, none]) ∧ Same H9 H')
      ⟨⟨none, none, none, none, rfl⟩, Same.refl _⟩ (fun i σ H' _ h => SqL.of (h.2 _ _ hnw9)) ?_ ?_
    · rintro i x σ H10 H' hi ⟨⟨u1, u2, u3, u4, rfl⟩, s10⟩ ⟨rfl, hxi⟩
      obtain ⟨v, hv, rfl⟩ := map_get hxi
      obtain ⟨vne, vlo, vhi⟩ := hws v (List.mem_of_getElem? hv)
      have plc : ∀ h : Int → Int, PlaceOk (KM.vals h ss) v := fun h => by
        have key : ∀ q ∈ KM.vals h ss, v ≠ q.1 ∧ (v - q.1).natAbs < 2 ^ 110 := fun q hq => by
          obtain ⟨z, hz1, rfl⟩ := List.mem_map.mp hq
          have zb := hsb z hz1
          exact ⟨vne (z, f z) (List.mem_map_of_mem (f := fun s => (s, f s)) hz1), show (v - z).natAbs < 2 ^ 110 by omega⟩
        exact ⟨by rw [vals_len]; omega, fun q hq => (key q hq).1, fun q hq => (key q hq).2⟩
      walk_at "rd"
      refine ⟨D, _, v, rfl, b19.mono s10, ok1, ft1, plc f, fun H11 t1 r1 m1 s11 ht1 hc1 => ?_⟩
      refine ⟨D2, _, v, rfl, b29.mono (Same.trans s10 s11), ok2, ft2, plc g, fun H12 t2 r2 m2 s12 ht2 hc2 => ?_⟩
      refine ⟨D3, _, v, rfl, b39.mono (Same.trans s10 (Same.trans s11 s12)), ok3, ft3, plc _, fun H13 t3 r3 m3 s13 ht3 hc3 => ?_⟩
      walk_at "rd"
      have ht1' := s13 _ _ (s12 _ _ ht1)
      have ht2' := s13 _ _ ht2
      obtain ⟨e1, e2, e3⟩ := KM.cls_sum hc1 hc2 hc3
      have mp : 0 < m3 := by
        have z1 := hc3.lo
        have z2 := hc3.hi
        omega
      refine ixT ht1' rfl (ixT ht3 rfl ?_)
      walk_at "rd"
      refine ifF (by simp [e1]) (ixT ht2' rfl (ixT ht3 rfl ?_))
      walk_at "rd"
      refine ifF (by simp [e2]) (ixT ht3 rfl (ixT ht1' rfl (ixT ht2' rfl ?_)))
      walk_at "rd"
      refine ixT ht3 rfl ?_
      walk_at "rd"
      refine ⟨mp, ?_⟩
      refine ifF (by simp [e3]) ?_
      exact ⟨⟨_, _, _, _, rfl⟩, Same.trans s10 (Same.trans s11 (Same.trans s12 s13))⟩
    rintro σ H10 ⟨⟨u1, u2, u3, u4, rfl⟩, s10⟩
    refine hU _ _ ?_
    clear hU U
    have so10 : Same (off p H) (off p H10) := s09.trans (Same.off s10)
    have hp10 := hp9.mono s10
    have b110 := (b19.mono s10).to_off hp10 nD
    have b210 := (b29.mono s10).to_off hp10 nD2
    -- 7: one book bent
    refine seq_opaque fun U hU => ?_
    walk_at "rd"
    refine ⟨p, D, _, _, rfl, hp10, by omega, b110, by omega, fun H11 bb l' g11 hbb hB => hU _ _ ?_⟩
    clear hU U
    obtain ⟨s11, hp11⟩ := g11
    have bl := hB.len
    have so11 := so10.trans s11
    have b211 := (b210.mono s11).of_off
    have bb11 := hbb.of_off
    have nbb : bb ≠ p := by
      obtain ⟨_, hx, _⟩ := hbb
      exact (off_some hx).1
    have places : ∀ i, i < l'.length → (l'.getD i (0, 0)).1 = ss.getD i 0 := fun i hi => by
      rw [hB.pl i (by omega)]
      exact vals_place (by omega)
    -- 8: with the other one
    refine seq_opaque fun U hU => ?_
    walk_at "rd"
    obtain ⟨xs4, h4, _⟩ := id bb11
    obtain ⟨xs5, h5, _⟩ := id b211
    refine ⟨bb, D2, xs4, xs5, rfl, SqL.of h4, SqL.of h5, fun D5 hD5 => lc_both bb11 b211 (by omega) (by omega) hD5 fun H12 s12 b512 => hU _ _ ?_⟩
    clear hU U
    rw [zipS_map (by omega) places] at b512
    have nD5 := hp11.ne hD5
    have b412 := bb11.mono s12
    have hp12 := hp11.mono s12
    have so12 := so11.trans (Same.off s12)
    -- 9: too great?
    refine seq_opaque fun U hU => ?_
    walk_at "rd"
    obtain ⟨xs6, h6, p6⟩ := id b512
    have lm : (l'.map fun q => (q.1, q.2 + g q.1)).length = l'.length := List.length_map ..
    refine ⟨⟨_, SqL.of h6⟩, fun c3 hc3 => lc_abs b512 (by omega) hc3 fun H13 s13 hab => ?_⟩
    have hN : ∀ q ∈ l'.map fun q => (q.1, q.2 + g q.1), (q.2.natAbs : Int) ∈ (l'.map fun q => (q.1, q.2 + g q.1)).map fun q => (q.2.natAbs : Int) := fun q hq => List.mem_map_of_mem (f := fun q : Int × Int => (q.2.natAbs : Int)) hq
    have lN : ((l'.map fun q => (q.1, q.2 + g q.1)).map fun q => (q.2.natAbs : Int)).length ≤ 200 := by
      rw [List.length_map]
      omega
    generalize (l'.map fun q => (q.1, q.2 + g q.1)).map (fun q : Int × Int => (q.2.natAbs : Int)) = N at hab hN lN
    intro c4 hc4
    have hab' : H13 c3 = some (.lst (N.map V.int)) := hab
    have n34 := ne_of_none hab' hc4
    refine ⟨c3, c4, _, _, rfl, rfl, (upd_ne n34).trans hab', upd_same, ?_, fun c5 hc5 => ?_⟩
    · rw [List.length_map]
      exact Nat.le_trans (show N.length + 1 ≤ 1000 by omega) (by decide)
    have s14 := Same.newT (o := .lst (N.map V.int ++ [V.int 0])) (Same.newT (o := .lst [V.int 0]) s13 hc4) hc5
    refine ⟨c5, N ++ [0], rfl, SqL.of (by rw [List.map_append]; exact upd_same), (by rw [List.length_append, List.length_singleton]; omega), fun m hm hmax => ?_⟩
    generalize upd (upd H13 c4 (.lst [V.int 0])) c5 (.lst (N.map V.int ++ [V.int 0])) = H14 at *
    walk_at "rd"
    refine ⟨cp10 (by decide) (by decide), ?_⟩
    have so14 := so12.trans (Same.off s14)
    have hp14 := hp12.mono s14
    by_cases big : (10 ^ 30 : Int) < m
    · refine ifT (decide_eq_true big) (k H14 ⟨so14, hp14.more (by omega)⟩)
    refine ifF (decide_eq_false big) (hU _ _ ?_)
    clear hU U
    have okm : BookOk (l'.map fun q => (q.1, q.2 + g q.1)) := book_of_places (by omega) (fun i hi => by
      have hi' : i < l'.length := by omega
      rw [← places i hi', List.getD_eq_getElem?_getD, List.getElem?_map, List.getD_eq_getElem?_getD, List.getElem?_eq_getElem hi']
      rfl) hpw hsb hsl fun q hq => by
        have z := hmax (q.2.natAbs : Int) (List.mem_append_left _ (hN q hq))
        omega
    have okb : BookOk l' := book_of_places (by omega) places hpw hsb hsl fun q hq => by
      obtain ⟨i, hi, e⟩ := KM.mem_getD hq
      rcases hB.val i (by omega) with h | h
      · rw [e] at h
        have z := ok1.bnd _ (KM.getD_mem (l := KM.vals f ss) (i := i) (by omega))
        omega
      · rw [e] at h
        exact h
    -- 10: the same conflicts
    walk_at "rd"
    refine ⟨D5, _, rfl, b512.mono s14, okm, fun H15 q1 s15 hq1 => ?_⟩
    refine ⟨bb, l', rfl, b412.mono (Same.trans s14 s15), okb, fun H16 q2 s16 hq2 => ?_⟩
    rw [KM.conf_sum (l := l') (g := g) f2 rfl] at hq1
    refine eq_Bk (hq1.mono s16) hq2 ?_
    rw [decide_eq_true rfl]
    exact k H16 ⟨so14.trans (Same.off (Same.trans s15 s16)), (hp14.mono (Same.trans s15 s16)).more (by omega)⟩
theorem sc_law : FnScope ["_law_script", "_law_k", "_law_purse_here", "_law_most", "_law_row_here_here", "_law_other_row", "_law_begin", "_law_some", "_law_bent_here", "_law_spots_here", "_law_k_here", "_law_spot", "_law_val"] ["_law_script"] (defScope (topS 59)) := ⟨rfl, rfl, rfl, by decide +kernel, rfl, by decide +kernel, by decide +kernel⟩
theorem ok_law (T : Txt K mg) {f : Addr} {fd : FuncData} (F : Fun K "law" "law" (topS 59) f fd) (h__law_purse : Has P w K mg base "_law_purse" 1 ["_law_script", "_law_k"] (spPurse K)) (h__law_row : Has P w K mg base "_law_row" 2 ["_law_purse_here"] spRow) (h__law_toss : Has P w K mg base "_law_toss" 1 ["_law_purse_here", "_law_many"] spToss) (h__law_at : Has P w K mg base "_law_at" 3 ["_law_row_here_here", "_law_spot"] spAt) (h__law_bent : Has P w K mg base "_law_bent" 2 ["_law_purse_here", "_law_book_here"] spBent) (h__law_stretch_right : Has P w K mg base "_law_stretch_right" 10 ["_law_purse_here", "_law_some"] spRight) (h__law_spots : Has P w K mg base "_law_spots" 2 ["_law_purse_here", "_law_row_here_here", "_law_most"] spSpots) (h__law_sums_right : Has P w K mg base "_law_sums_right" 8 ["_law_purse_here", "_law_row_here_here", "_law_other_row", "_law_spots_here"] spSums) : FnOk P w K mg base CX0 11 f fd ["_law_script"] (spLaw K) := by
  have nd := sc_law.nd
  refine F.ok sc_law (fun vs H Q E h => ?_) (fun cdv A outer s H vs Q E hr h => ?_)
  · obtain ⟨a, ns, rfl, hS, hl, k⟩ := h
    rfl
  · obtain ⟨a, ns, rfl, hS, hl, k⟩ := h
    refine ⟨_, 
      (pss_cons (ps_for PassesOwn.never rfl (pi_range1 rfl T.b_range (pa_cons (pe_callB call_max2K (by rfl) T.b_max (by decide +kernel) (pa_cons pe_int (pa_cons (pe_callB call_min2K (by rfl) T.b_min (by decide +kernel) (pa_cons pe_int (pa_cons (pe_callB (call_lenK (K := K)) (by rfl) T.b_len (by decide +kernel) (pa_cons (pv 0) pa_nil)) pa_nil))) pa_nil))) pa_nil)) (pg_name (i := 1) nd rfl (Or.inl rfl) (Or.inr rfl)) 
        (pss_cons (ps_set (i := 2) nd rfl (Or.inl rfl) (pe_has h__law_purse (hr.mono (by decide)) (pa_cons (pv 0) (pa_cons (pv 1) pa_nil))) (hf := Or.inr rfl)) 
        (pss_one (ps_for PassesOwn.never rfl (pi_tupK (K := K) (pe_tup (pa_cons pe_int (pa_cons pe_int pa_nil)))) (pg_name (i := 3) nd rfl (Or.inl rfl) (Or.inr rfl)) 
          (pss_cons (ps_asg (pe_tup (pa_cons (pe_has h__law_row (hr.mono (by decide)) (pa_cons (pv 2) pa_nil)) (pa_cons (pe_has h__law_row (hr.mono (by decide)) (pa_cons (pv 2) pa_nil)) pa_nil))) (pg_tupK (K := K) (n := 2) (pgs_cons (pg_name (i := 4) nd rfl (Or.inr rfl) (Or.inl rfl)) (pgs_cons (pg_name (i := 5) nd rfl (Or.inl rfl) (Or.inr rfl)) pgs_nil)))) 
          (pss_cons (ps_set (i := 6) nd rfl (Or.inr rfl) (pe_ix (ix_listK (K := K)) (pe_lst (pa_cons (pe_has h__law_toss (hr.mono (by decide)) (pa_cons (pv 2) (pa_cons (pe_ix (ix_listK (K := K)) (pv 4) pe_int (fun _ _ => rfl)) pa_nil))) (pa_cons (pe_op op_sub (pe_has h__law_toss (hr.mono (by decide)) (pa_cons (pv 2) (pa_cons pe_int pa_nil))) pe_int) pa_nil))) (pe_has h__law_toss (hr.mono (by decide)) (pa_cons (pv 2) (pa_cons pe_int pa_nil))) (fun _ _ => rfl)) (hf := Or.inl rfl)) 
          (pss_cons (ps_setLc (i := 7) (own := [("_law_k_here", 10)]) rfl nd rfl rfl (sw_true rfl rfl rfl (by decide +kernel)) (pi_range1 rfl T.b_range (pa_cons (pe_op op_add pe_int (pe_has h__law_toss (hr.mono (by decide)) (pa_cons (pv 2) (pa_cons (pv 3) pa_nil)))) pa_nil)) (blkOk_by (own := [("_law_k_here", 10)]) (N := ["_law_script", "_law_k", "_law_purse_here", "_law_most", "_law_row_here_here", "_law_other_row", "_law_begin", "_law_some", "_law_bent_here", "_law_spots_here", "_law_k_here", "_law_spot", "_law_val"]) (sc := defScope (topS 59)) (by decide +kernel)) (fun _ _ _ _ _ => (pg_name (i := 10) nd rfl (Or.inl rfl) (Or.inr rfl))) (fun _ _ _ _ _ => pts_nil) (fun _ _ _ _ _ => (pe_has h__law_at (hr.mono (by decide)) (pa_cons (pv 4) (pa_cons (pe_op op_add (pv 6) (pv 10)) pa_nil))))) 
          (pss_cons (ps_setLc (i := 8) (own := [("_law_spot", 11), ("_law_val", 12)]) rfl nd rfl rfl (sw_true rfl rfl rfl (by decide +kernel)) (pi_listK (K := K) (pe_has h__law_bent (hr.mono (by decide)) (pa_cons (pv 2) (pa_cons (pe_listEnum T.b_list T.b_enumerate (pv 7)) pa_nil)))) (blkOk_by (own := [("_law_spot", 11), ("_law_val", 12)]) (N := ["_law_script", "_law_k", "_law_purse_here", "_law_most", "_law_row_here_here", "_law_other_row", "_law_begin", "_law_some", "_law_bent_here", "_law_spots_here", "_law_k_here", "_law_spot", "_law_val"]) (sc := defScope (topS 59)) (by decide +kernel)) (fun _ _ _ _ _ => (pg_tupK (K := K) (n := 2) (pgs_cons (pg_name (i := 11) nd rfl (Or.inl rfl) (Or.inr rfl)) (pgs_cons (pg_name (i := 12) nd rfl (Or.inl rfl) (Or.inr rfl)) pgs_nil)))) (fun _ _ _ _ _ => pts_nil) (fun _ _ _ _ _ => (pv 12))) 
          (pss_cons (ps_if (PW.pt (pw_or (pt_not (pt_val (pe_has h__law_stretch_right (hr.mono (by decide)) (pa_cons (pv 2) (pa_cons (pv 7) pa_nil))))) (pw_or1 (pt_not (pt_val (pe_has h__law_stretch_right (hr.mono (by decide)) (pa_cons (pv 2) (pa_cons (pv 8) pa_nil)))))))) 
            (pss_one (ps_ret pe_bl)) pss_nil) 
          (pss_cons (ps_set (i := 9) nd rfl (Or.inl rfl) (pe_has h__law_spots (hr.mono (by decide)) (pa_cons (pv 2) (pa_cons (pv 4) (pa_cons (pv 3) pa_nil)))) (hf := Or.inr rfl)) 
          (pss_cons (ps_if (pt_cmpR op_gt (pe_ix (ix_listK (K := K)) (pv 4) pe_int (fun _ _ => rfl)) (pe_ix (ix_listK (K := K)) (pv 5) pe_int (fun _ _ => rfl)) (nomark _)) 
            (pss_cons (ps_asg (pe_tup (pa_cons (pv 5) (pa_cons (pv 4) pa_nil))) (pg_tupK (K := K) (n := 2) (pgs_cons (pg_name (i := 4) nd rfl (Or.inr rfl) (Or.inl rfl)) (pgs_cons (pg_name (i := 5) nd rfl (Or.inl rfl) (Or.inr rfl)) pgs_nil)))) 
            (pss_one (ps_set (i := 9) nd rfl (Or.inl rfl) (pe_has h__law_spots (hr.mono (by decide)) (pa_cons (pv 2) (pa_cons (pv 4) (pa_cons (pv 3) pa_nil)))) (hf := Or.inr rfl)))) pss_nil) 
          (pss_one (ps_if (pt_not (pt_val (pe_has h__law_sums_right (hr.mono (by decide)) (pa_cons (pv 2) (pa_cons (pv 4) (pa_cons (pv 5) (pa_cons (pv 9) pa_nil))))))) 
            (pss_one (ps_ret pe_bl)) pss_nil))))))))))))) 
      (pss_one (ps_ret pe_bl))), ?_⟩
    walk_at "st"
    walk_at "rd"
    refine lenS hS ?_
    rw [List.length_map]
    walk_at "rd"
    refine ⟨by omega, by omega, ?_⟩
    have et : (max 1 (min 3 (ns.length : Int))).toNat ≤ 3 := by omega
    generalize (max 1 (min 3 (ns.length : Int))).toNat = turns at *
    refine forW walk_range (fun i σ H' => i ≤ turns ∧ (∃ u1 u2 u3 u4 u5 u6 u7 u8 u9 u10 u11 u12, σ = [some (.ref a), u1, u2, u3, u4, u5, u6, u7, u8, u9, u10, u11, u12]) ∧ Same H H')
      ⟨Nat.zero_le _, ⟨none, none, none, none, none, none, none, none, none, none, none, none, rfl⟩, Same.refl _⟩ (fun _ _ _ _ _ => trivial) ?_ ?_
    · rintro i x σ H1 H' hi ⟨hit, ⟨u1, u2, u3, u4, u5, u6, u7, u8, u9, u10, u11, u12, rfl⟩, s1⟩ ⟨rfl, rfl⟩
      simp only [r_gName, List.set_cons_succ, List.set_cons_zero]
      refine seq_opaque fun U hU => ?_
      walk_at "rd"
      refine ⟨a, ns, i, by rw [Int.zero_add], Same.seq s1 hS, by omega, fun H2 p s2 hp0 hP => hU _ _ ?_⟩
      clear hU U
      have hp00 : H p = none := by
        cases e : H p with
        | none => rfl
        | some o =>
          rw [s1 _ _ e] at hp0
          cases hp0
      have s02 := Same.trans s1 s2
      walk_at "rd"
      intro t ht
      have nt := hP.ne ht
      have hP3 := hP.upd (o := .tup [V.int 6, V.int 24]) nt
      have s23 : Same (off p H2) (off p (upd H2 t (.tup [V.int 6, V.int 24]))) := Same.off (Same.new ht)
      have htt : off p (upd H2 t (.tup [V.int 6, V.int 24])) t = some (.tup [V.int 6, V.int 24]) := by
        rw [off_ne nt]
        exact upd_same
      refine ⟨⟨_, SqT.of upd_same⟩, ?_⟩
      generalize upd H2 t (.tup [V.int 6, V.int 24]) = H3 at *
      refine forW (walk_tup (xs := [V.int 6, V.int 24])) (fun j σ H'' => j ≤ 2 ∧ (∃ u3 u4 u5 u6 u7 u8 u9 u10 u11 u12, σ = [some (.ref a), some (.int (0 + (i : Int))), some (.ref p), u3, u4, u5, u6, u7, u8, u9, u10, u11, u12]) ∧ Same (off p H3) (off p H'') ∧ PurseAt H'' p (1000 * j))
        ⟨Nat.zero_le _, ⟨u3, u4, u5, u6, u7, u8, u9, u10, u11, u12, rfl⟩, Same.refl _, hP3⟩ (fun j σ H'' _ h => SqT.of (off_some (h.2.2.1 _ _ htt)).2) ?_ ?_
      · clear u1 u2 u3 u4 u5 u6 u7 u8 u9 u10 u11 u12
        rintro j x σ H4 H' hj ⟨hj2, ⟨u3, u4, u5, u6, u7, u8, u9, u10, u11, u12, rfl⟩, s4, hp4⟩ ⟨rfl, hx⟩
        have hjl : j < 2 := hj
        obtain ⟨most, hm1, hm2, rfl⟩ : ∃ most : Nat, 1 ≤ most ∧ most ≤ 24 ∧ x = V.int (most : Nat) := by
          have hj' : j = 0 ∨ j = 1 := by omega
          rcases hj' with rfl | rfl
          · exact ⟨6, by decide, by decide, (Option.some.inj hx).symm⟩
          · exact ⟨24, by decide, by decide, (Option.some.inj hx).symm⟩
        simp only [r_gName, List.set_cons_succ, List.set_cons_zero]
        -- the rows
        refine seq_opaque fun U hU => ?_
        walk_at "rd"
        refine ⟨p, _, rfl, hp4, by omega, fun H5 ra Ra g5 hra oka => ?_⟩
        obtain ⟨s5, hp5⟩ := g5
        refine ⟨p, _, rfl, hp5, by omega, fun H6 rb Rb g6 hrb okb => ?_⟩
        obtain ⟨s6, hp6⟩ := g6
        walk_at "rd"
        intro t2 ht2
        refine gtup upd_same ?_
        walk_at "rd"
        refine hU _ _ ?_
        clear hU U
        have s7 := grow_new (o := .tup [.ref ra, .ref rb]) ((s4.trans s5).trans s6) ht2
        have hra7 := (hra.mono s6).mono (grow_new (o := .tup [.ref ra, .ref rb]) (Same.refl (off p H6)) ht2)
        have hrb7 := hrb.mono (grow_new (o := .tup [.ref ra, .ref rb]) (Same.refl (off p H6)) ht2)
        have hp7 := hp6.upd (o := .tup [.ref ra, .ref rb]) (hp6.ne ht2)
        generalize upd H6 t2 (.tup [.ref ra, .ref rb]) = H7 at *
        have za := oka.toRwSz
        have zb := okb.toRwSz
        have fa := za.far
        -- where it begins
        refine seq_opaque fun U hU => ?_
        walk_at "rd"
        obtain ⟨ba, hra1, _⟩ := id hra7.of_off
        refine ixL hra1 rfl ?_
        refine ⟨p, _, Ra.far, rfl, hp7, by omega, by omega, by omega, fun H8 y e8 hp8 y0 y1 => ?_⟩
        refine ⟨p, _, 40, rfl, hp8, by omega, by decide, by decide, fun H9 z e9 hp9 z0 z1 => ?_⟩
        walk_at "rd"
        intro q hq
        have nq := hp9.ne hq
        refine ⟨p, _, 2, rfl, hp9.upd nq, by omega, by decide, by decide, fun H10 w e10 hp10 w0 w1 => ?_⟩
        obtain ⟨v, hv1, hv2⟩ := atI_ints [y, z - 30] w0 w1
        refine ixL ((off_keep e10 nq).trans upd_same) hv2 (hU _ _ ?_)
        clear hU U
        have vb : -30 ≤ v ∧ v ≤ Ra.far := by
          simp only [List.mem_cons, List.not_mem_nil, or_false] at hv1
          omega
        have g10 := (grow_new (o := .lst [V.int y, V.int (z - 30)]) ((same_of e8).trans (same_of e9)) hq).trans (same_of e10)
        have s10 := s7.trans g10
        have hra10 := hra7.mono g10
        have hrb10 := hrb7.mono g10
        clear e8 e9 e10 hp8 hp9 hq hv1 hv2 hra1 g10 s7 hra7 hrb7 hp7 hp6 hp5 hp4 s5 s6 hra hrb ht2
        -- the values
        refine seq_opaque fun U hU => ?_
        walk_at "rd"
        refine ⟨p, _, (most : Int), rfl, hp10, by omega, by omega, by omega, fun H11 w e11 hp11 w0 w1 => ?_⟩
        have s11 := s10.trans (same_of e11)
        have hra11 := hra10.mono (same_of e11)
        have hrb11 := hrb10.mono (same_of e11)
        walk_at "rd"
        refine ⟨by omega, by omega, fun D hD => ?_⟩
        have hL : 1 ≤ (1 + w).toNat ∧ (1 + w).toNat ≤ 24 := by omega
        generalize (1 + w).toNat = L at *
        refine lcMap walk_range (fun i H' acc => acc = ((List.range i).map fun i => KM.row Ra.own Ra.sh (v + (i : Nat))).map V.int) hD (fun _ => rfl) (fun _ _ => trivial) ?_ ?_
        · rintro i2 x H12 H' acc hi2 s12 hacc hal hA ⟨rfl, rfl⟩
          walk_at "rd"
          refine ⟨ra, Ra, _, rfl, hra11.of_off.mono s12, za, by omega, fun H13 s13 => ?_⟩
          refine lcEnd s12 hacc hal (by omega) hD s13 ?_
          rw [hA, range_more, List.map_append, Int.zero_add]
          rfl
        intro H12 acc s12 hacc hal hA
        have ll : ((List.range L).map fun i => KM.row Ra.own Ra.sh (v + (i : Nat))).length = L := by rw [List.length_map, List.length_range]
        have lb : ∀ z ∈ (List.range L).map fun i => KM.row Ra.own Ra.sh (v + (i : Nat)), -(10 ^ 30) ≤ z ∧ z ≤ 10 ^ 30 := fun z hz => by
          obtain ⟨i3, h3, rfl⟩ := List.mem_map.mp hz
          have h3 := List.mem_range.mp h3
          exact row_bound oka (by omega) (by omega)
        generalize ((List.range L).map fun i => KM.row Ra.own Ra.sh (v + (i : Nat))) = l0 at *
        subst hA
        walk_at "rd"
        refine hU _ _ ?_
        clear hU U
        have s12' := s11.trans (Same.off s12)
        have hp12 := hp11.mono s12
        have hra12 := hra11.mono (Same.off s12)
        have hrb12 := hrb11.mono (Same.off s12)
        have nD := hp11.ne hD
        clear e11 hp11 hra10 hrb10 hra11 hrb11 s10 s11 hp10 s12 hD hal
        -- bent
        refine seq_opaque fun U hU => ?_
        walk_at "rd"
        refine ⟨D, l0.map V.int, rfl, SqL.of hacc, by rw [List.length_map]; omega, fun H13 q2 ts s13 hq0 hq2 hts htt2 => ?_⟩
        have nq2 := hp12.ne hq0
        have hp13 := hp12.mono s13
        have bk : BkAt H13 q2 (KM.en 0 l0) := ⟨_, hq2, enum_prs hts htt2⟩
        refine ⟨p, q2, _, KM.en 0 l0, rfl, hp13, by omega, bk.to_off hp13 nq2, by rw [KM.en_length]; omega, fun H14 bb l' g14 hbb hB => ?_⟩
        obtain ⟨s14, hp14⟩ := g14
        have hbl := hB.len
        rw [KM.en_length] at hbl
        obtain ⟨xs, hxs, hpr⟩ := hbb
        have xl := Paired.length hpr
        have hxs14 := (off_some hxs).2
        walk_at "rd"
        refine ⟨⟨_, SqL.of hxs14⟩, fun D2 hD2 => ?_⟩
        refine lcMap (walk_list (xs := xs)) (fun i H' acc => acc = ((l'.take i).map (·.2)).map V.int) hD2 (fun _ => rfl) (fun H' s => SqL.of (s _ _ hxs14)) ?_ ?_
        · rintro i2 x H15 H' acc hi2 s15 hacc2 hal hA ⟨rfl, hxi⟩
          obtain ⟨t3, q3, hq3, rfl, ht3⟩ := hpr.get hxi
          refine gtup (s15 _ _ (off_some ht3).2) ?_
          walk_at "rd"
          refine lcEnd s15 hacc2 hal (by omega) hD2 (Same.refl _) ?_
          rw [hA, take_more hq3, List.map_append, List.map_append]
          rfl
        intro H15 acc s15 hacc2 hal hA
        rw [xl, List.take_length] at hA
        subst hA
        have lb2 : ∀ z ∈ l'.map (·.2), -(10 ^ 30) ≤ z ∧ z ≤ 10 ^ 30 := fun z hz => by
          obtain ⟨q3, hq3, rfl⟩ := List.mem_map.mp hz
          obtain ⟨i3, hi3, e3⟩ := KM.mem_getD hq3
          rcases hB.val i3 (by rw [KM.en_length]; omega) with h | h
          · rw [e3, KM.en_getD (by omega)] at h
            rw [h]
            refine lb _ ?_
            rw [List.getD_eq_getElem?_getD, List.getElem?_eq_getElem (by omega)]
            exact List.getElem_mem _
          · rw [e3] at h
            exact h
        have ll2 : (l'.map (·.2)).length = L := by rw [List.length_map]; omega
        generalize l'.map (·.2) = l2 at *
        walk_at "rd"
        refine hU _ _ ?_
        clear hU U
        have g15 := (Same.off s13).trans (s14.trans (Same.off s15))
        have s15' := s12'.trans g15
        have hp15 := hp14.mono s15
        have hra15 := hra12.mono g15
        have hrb15 := hrb12.mono g15
        have h1D : IL (off p H15) D l0 := g15 _ _ (by rw [off_ne nD]; exact hacc)
        have h2D : IL (off p H15) D2 l2 := by
          show off p H15 D2 = _
          rw [off_ne (hp14.ne hD2)]
          exact hacc2
        clear hra12 hrb12 hp12 hp13 hp14 s13 s14 bk hts htt2 hq0 hq2 hxs hxs14 hpr hB hD2 hacc hacc2 hal s12' s15 xl hbl g15
        -- both stretches
        refine seq_opaque fun U hU => ?_
        walk_at "rd"
        refine ⟨p, D, _, l0, rfl, hp15, by omega, h1D, by omega, by omega, lb, fun H16 g16 => ?_⟩
        obtain ⟨s16, hp16⟩ := g16
        walk_at "rd"
        refine ⟨p, D2, _, l2, rfl, hp16, by omega, s16 _ _ h2D, by omega, by omega, lb2, fun H17 g17 => ?_⟩
        obtain ⟨s17, hp17⟩ := g17
        walk_at "rd"
        refine hU _ _ ?_
        clear hU U
        have s17' := (s15'.trans s16).trans s17
        have hra17 := (hra15.mono s16).mono s17
        have hrb17 := (hrb15.mono s16).mono s17
        clear hra15 hrb15 s15' hp15 hp16 s16 s17 h1D h2D
        -- places
        refine seq_opaque fun U hU => ?_
        walk_at "rd"
        refine ⟨p, ra, _, Ra, most, rfl, hp17, by omega, hra17, za, by omega, fun H18 q4 ss g18 hq4 hpw hsb hsl => hU _ _ ?_⟩
        obtain ⟨s18, hp18⟩ := g18
        clear hU U
        have s18' := s17'.trans s18
        have hra18 := hra17.mono s18
        have hrb18 := hrb17.mono s18
        refine seq_opaque fun U hU => ?_
        have fin : ∀ (c d : Addr) (R1 R2 : Rw) (q5 : Addr) (ss : List Int) (n : Nat) (H19 : Hp), Same (off p H3) (off p H19) → PurseAt H19 p n → n ≤ 1000 * j + 300 → RowAt (off p H19) c R1 → RowAt (off p H19) d R2 → RwSz R1 → RwSz R2 → IL (off p H19) q5 ss → ss.Pairwise (· < ·) →
            (∀ s ∈ ss, -(10 ^ 29) ≤ s ∧ s ≤ 10 ^ 29) → ss.length ≤ most → U [some (.ref a), some (.int (0 + (i : Int))), some (.ref p), some (.int (most : Nat)), some (.ref c), some (.ref d), some (.int v), some (.ref D), some (.ref D2), some (.ref q5), u10, u11, u12] H19 := by
          intro c d R1 R2 q5 ss n H19 s19 hp19 hn19 hc hd z1 z2 hq5 pw sb sl
          refine hU _ _ ?_
          clear hU U
          walk_at "rd"
          refine ⟨p, c, d, q5, _, R1, R2, ss, rfl, hp19, by omega, hc, z1, hd, z2, hq5, pw, sb, by omega, fun H20 g20 => ?_⟩
          obtain ⟨s20, hp20⟩ := g20
          walk_at "rd"
          exact ⟨by omega, ⟨_, _, _, _, _, _, _, _, _, _, rfl⟩, s19.trans s20, hp20.more (by omega)⟩
        clear hU
        walk_at "rd"
        obtain ⟨ba, hra1, _⟩ := id hra18.of_off
        obtain ⟨bb2, hrb1, _⟩ := id hrb18.of_off
        refine ixL hra1 rfl (ixL hrb1 rfl ?_)
        walk_at "rd"
        by_cases sw : Rb.far < Ra.far
        · refine ifT (decide_eq_true sw) ?_
          intro t4 ht4
          have g19 := grow_new (o := .tup [.ref rb, .ref ra]) (Same.refl (off p H18)) ht4
          have hp19 := hp18.upd (o := .tup [.ref rb, .ref ra]) (hp18.ne ht4)
          refine gtup upd_same ?_
          generalize upd H18 t4 (.tup [.ref rb, .ref ra]) = H19 at *
          walk_at "rd"
          have hra19 := hra18.mono g19
          have hrb19 := hrb18.mono g19
          refine ⟨p, rb, _, Rb, most, rfl, hp19, by omega, hrb19, zb, by omega, fun H20 q5 ss5 g20 hq5 pw5 sb5 sl5 => ?_⟩
          obtain ⟨s20, hp20⟩ := g20
          walk_at "rd"
          exact fin rb ra Rb Ra q5 ss5 _ H20 ((s18'.trans g19).trans s20) hp20 (by omega) (hrb19.mono s20) (hra19.mono s20) zb za hq5 pw5 sb5 sl5
        · refine ifF (decide_eq_false sw) ?_
          exact fin ra rb Ra Rb q4 ss _ H18 s18' hp18 (by omega) hra18 hrb18 za zb hq4 hpw hsb hsl
      · rintro σ H5 ⟨_, ⟨v3, v4, v5, v6, v7, v8, v9, v10, v11, v12, rfl⟩, s5, _⟩
        exact ⟨by omega, ⟨_, _, _, _, _, _, _, _, _, _, _, _, rfl⟩, same_behind s02 hp00 (s23.trans s5)⟩
    · rintro σ H5 ⟨_, ⟨v1, v2, v3, v4, v5, v6, v7, v8, v9, v10, v11, v12, rfl⟩, s5⟩
      walk_at "rd"
      exact k H5
end
section
open PyProof.Rows
/-- what the text has written holds the law to its promise -/
theorem all_mk {P : Program} {w : World} {K : PySem.W.Frag} {h : Heap} {mg : Str → Option Value} {fa : Addr} (X : K.In h) (G : h.Ns mainGlobals mg) (hfa : mg "law" = some (.ref fa))
    {t_MOST_ITEMS : Tok}
    {t_MOST : Tok}
    {t_MOST_VALUES : Tok}
    {fis_integer : Addr} {odis_integer anis_integer : Option Addr} {slis_integer : Array (Option Value)} {ocis_integer kVis_integer dcis_integer pmis_integer cdis_integer ctis_integer : Value}
    {fis_told : Addr} {odis_told anis_told : Option Addr} {slis_told : Array (Option Value)} {ocis_told kVis_told dcis_told pmis_told cdis_told ctis_told : Value}
    {fis_item : Addr} {odis_item anis_item : Option Addr} {slis_item : Array (Option Value)} {ocis_item kVis_item dcis_item pmis_item cdis_item ctis_item : Value}
    {fis_book : Addr} {odis_book anis_book : Option Addr} {slis_book : Array (Option Value)} {ocis_book kVis_book dcis_book pmis_book cdis_book ctis_book : Value}
    {fneed_book : Addr} {odneed_book anneed_book : Option Addr} {slneed_book : Array (Option Value)} {ocneed_book kVneed_book dcneed_book pmneed_book cdneed_book ctneed_book : Value}
    {fdivisor_of : Addr} {oddivisor_of andivisor_of : Option Addr} {sldivisor_of : Array (Option Value)} {ocdivisor_of kVdivisor_of dcdivisor_of pmdivisor_of cddivisor_of ctdivisor_of : Value}
    {fmultiple_of : Addr} {odmultiple_of anmultiple_of : Option Addr} {slmultiple_of : Array (Option Value)} {ocmultiple_of kVmultiple_of dcmultiple_of pmmultiple_of cdmultiple_of ctmultiple_of : Value}
    {fdivides : Addr} {oddivides andivides : Option Addr} {sldivides : Array (Option Value)} {ocdivides kVdivides dcdivides pmdivides cddivides ctdivides : Value}
    {fdo_fit : Addr} {oddo_fit ando_fit : Option Addr} {sldo_fit : Array (Option Value)} {ocdo_fit kVdo_fit dcdo_fit pmdo_fit cddo_fit ctdo_fit : Value}
    {fconflicts_in : Addr} {odconflicts_in anconflicts_in : Option Addr} {slconflicts_in : Array (Option Value)} {occonflicts_in kVconflicts_in dcconflicts_in pmconflicts_in cdconflicts_in ctconflicts_in : Value}
    {fconflict_in : Addr} {odconflict_in anconflict_in : Option Addr} {slconflict_in : Array (Option Value)} {occonflict_in kVconflict_in dcconflict_in pmconflict_in cdconflict_in ctconflict_in : Value}
    {fneed_fitting : Addr} {odneed_fitting anneed_fitting : Option Addr} {slneed_fitting : Array (Option Value)} {ocneed_fitting kVneed_fitting dcneed_fitting pmneed_fitting cdneed_fitting ctneed_fitting : Value}
    {fneed_possible : Addr} {odneed_possible anneed_possible : Option Addr} {slneed_possible : Array (Option Value)} {ocneed_possible kVneed_possible dcneed_possible pmneed_possible cdneed_possible ctneed_possible : Value}
    {fconflict_of : Addr} {odconflict_of anconflict_of : Option Addr} {slconflict_of : Array (Option Value)} {occonflict_of kVconflict_of dcconflict_of pmconflict_of cdconflict_of ctconflict_of : Value}
    {fall_conflicts : Addr} {odall_conflicts anall_conflicts : Option Addr} {slall_conflicts : Array (Option Value)} {ocall_conflicts kVall_conflicts dcall_conflicts pmall_conflicts cdall_conflicts ctall_conflicts : Value}
    {finverse_of : Addr} {odinverse_of aninverse_of : Option Addr} {slinverse_of : Array (Option Value)} {ocinverse_of kVinverse_of dcinverse_of pminverse_of cdinverse_of ctinverse_of : Value}
    {fmet : Addr} {odmet anmet : Option Addr} {slmet : Array (Option Value)} {ocmet kVmet dcmet pmmet cdmet ctmet : Value}
    {fclass_by : Addr} {odclass_by anclass_by : Option Addr} {slclass_by : Array (Option Value)} {occlass_by kVclass_by dcclass_by pmclass_by cdclass_by ctclass_by : Value}
    {fclass_at : Addr} {odclass_at anclass_at : Option Addr} {slclass_at : Array (Option Value)} {occlass_at kVclass_at dcclass_at pmclass_at cdclass_at ctclass_at : Value}
    {ffirst_from : Addr} {odfirst_from anfirst_from : Option Addr} {slfirst_from : Array (Option Value)} {ocfirst_from kVfirst_from dcfirst_from pmfirst_from cdfirst_from ctfirst_from : Value}
    {fnext_value : Addr} {odnext_value annext_value : Option Addr} {slnext_value : Array (Option Value)} {ocnext_value kVnext_value dcnext_value pmnext_value cdnext_value ctnext_value : Value}
    {fis_stretch : Addr} {odis_stretch anis_stretch : Option Addr} {slis_stretch : Array (Option Value)} {ocis_stretch kVis_stretch dcis_stretch pmis_stretch cdis_stretch ctis_stretch : Value}
    {gis_stretch : Addr} {gois_stretch : Obj} {gtis_stretch : Tok} {gmis_stretch : Nat}
    {fneed_stretch : Addr} {odneed_stretch anneed_stretch : Option Addr} {slneed_stretch : Array (Option Value)} {ocneed_stretch kVneed_stretch dcneed_stretch pmneed_stretch cdneed_stretch ctneed_stretch : Value}
    {gneed_stretch : Addr} {goneed_stretch : Obj} {gtneed_stretch : Tok} {gmneed_stretch : Nat}
    {fitems_in : Addr} {oditems_in anitems_in : Option Addr} {slitems_in : Array (Option Value)} {ocitems_in kVitems_in dcitems_in pmitems_in cditems_in ctitems_in : Value}
    {fneed_right : Addr} {odneed_right anneed_right : Option Addr} {slneed_right : Array (Option Value)} {ocneed_right kVneed_right dcneed_right pmneed_right cdneed_right ctneed_right : Value}
    {fdifferences_in : Addr} {oddifferences_in andifferences_in : Option Addr} {sldifferences_in : Array (Option Value)} {ocdifferences_in kVdifferences_in dcdifferences_in pmdifferences_in cddifferences_in ctdifferences_in : Value}
    {fdifferences : Addr} {oddifferences andifferences : Option Addr} {sldifferences : Array (Option Value)} {ocdifferences kVdifferences dcdifferences pmdifferences cddifferences ctdifferences : Value}
    {fstretch_conflict : Addr} {odstretch_conflict anstretch_conflict : Option Addr} {slstretch_conflict : Array (Option Value)} {ocstretch_conflict kVstretch_conflict dcstretch_conflict pmstretch_conflict cdstretch_conflict ctstretch_conflict : Value}
    {fnext_class : Addr} {odnext_class annext_class : Option Addr} {slnext_class : Array (Option Value)} {ocnext_class kVnext_class dcnext_class pmnext_class cdnext_class ctnext_class : Value}
    {fclass_ahead : Addr} {odclass_ahead anclass_ahead : Option Addr} {slclass_ahead : Array (Option Value)} {occlass_ahead kVclass_ahead dcclass_ahead pmclass_ahead cdclass_ahead ctclass_ahead : Value}
    {flonger : Addr} {odlonger anlonger : Option Addr} {sllonger : Array (Option Value)} {oclonger kVlonger dclonger pmlonger cdlonger ctlonger : Value}
    {fbook_of : Addr} {odbook_of anbook_of : Option Addr} {slbook_of : Array (Option Value)} {ocbook_of kVbook_of dcbook_of pmbook_of cdbook_of ctbook_of : Value}
    {f_law_purse : Addr} {od_law_purse an_law_purse : Option Addr} {sl_law_purse : Array (Option Value)} {oc_law_purse kV_law_purse dc_law_purse pm_law_purse cd_law_purse ct_law_purse : Value}
    {f_law_toss : Addr} {od_law_toss an_law_toss : Option Addr} {sl_law_toss : Array (Option Value)} {oc_law_toss kV_law_toss dc_law_toss pm_law_toss cd_law_toss ct_law_toss : Value}
    {f_law_divisor : Addr} {od_law_divisor an_law_divisor : Option Addr} {sl_law_divisor : Array (Option Value)} {oc_law_divisor kV_law_divisor dc_law_divisor pm_law_divisor cd_law_divisor ct_law_divisor : Value}
    {f_law_multiple : Addr} {od_law_multiple an_law_multiple : Option Addr} {sl_law_multiple : Array (Option Value)} {oc_law_multiple kV_law_multiple dc_law_multiple pm_law_multiple cd_law_multiple ct_law_multiple : Value}
    {f_law_row : Addr} {od_law_row an_law_row : Option Addr} {sl_law_row : Array (Option Value)} {oc_law_row kV_law_row dc_law_row pm_law_row cd_law_row ct_law_row : Value}
    {f_law_at : Addr} {od_law_at an_law_at : Option Addr} {sl_law_at : Array (Option Value)} {oc_law_at kV_law_at dc_law_at pm_law_at cd_law_at ct_law_at : Value}
    {f_law_spots : Addr} {od_law_spots an_law_spots : Option Addr} {sl_law_spots : Array (Option Value)} {oc_law_spots kV_law_spots dc_law_spots pm_law_spots cd_law_spots ct_law_spots : Value}
    {f_law_bent : Addr} {od_law_bent an_law_bent : Option Addr} {sl_law_bent : Array (Option Value)} {oc_law_bent kV_law_bent dc_law_bent pm_law_bent cd_law_bent ct_law_bent : Value}
    {f_law_new : Addr} {od_law_new an_law_new : Option Addr} {sl_law_new : Array (Option Value)} {oc_law_new kV_law_new dc_law_new pm_law_new cd_law_new ct_law_new : Value}
    {f_law_refused : Addr} {od_law_refused an_law_refused : Option Addr} {sl_law_refused : Array (Option Value)} {oc_law_refused kV_law_refused dc_law_refused pm_law_refused cd_law_refused ct_law_refused : Value}
    {f_law_stretch_right : Addr} {od_law_stretch_right an_law_stretch_right : Option Addr} {sl_law_stretch_right : Array (Option Value)} {oc_law_stretch_right kV_law_stretch_right dc_law_stretch_right pm_law_stretch_right cd_law_stretch_right ct_law_stretch_right : Value}
    {f_law_sums_right : Addr} {od_law_sums_right an_law_sums_right : Option Addr} {sl_law_sums_right : Array (Option Value)} {oc_law_sums_right kV_law_sums_right dc_law_sums_right pm_law_sums_right cd_law_sums_right ct_law_sums_right : Value}
    {flaw : Addr} {odlaw anlaw : Option Addr} {sllaw : Array (Option Value)} {oclaw kVlaw dclaw pmlaw cdlaw ctlaw : Value}
    {C R fI N : Addr} {nm q : Str} {bs bm sub : List Value} {sn : List Str} {ab : Bool} {col : Option Bool} {dd : Option Addr} {m0 m1 m2 m3 m5 : Option Value} {odI anI : Option Addr} {slI : Array (Option Value)} {ocI kVI dcI pmI cdI ctI : Value}
    (m_MOST_ITEMS : PySem.W.nsIn K mainGlobals "MOST_ITEMS" = some (some (.int 24 t_MOST_ITEMS)))
    (m_MOST : PySem.W.nsIn K mainGlobals "MOST" = some (some (.int (10 ^ 30) t_MOST)))
    (m_MOST_VALUES : PySem.W.nsIn K mainGlobals "MOST_VALUES" = some (some (.int 40 t_MOST_VALUES)))
    (z_len : PySem.W.nsIn K mainGlobals "len" = some none)
    (z_abs : PySem.W.nsIn K mainGlobals "abs" = some none)
    (z_all : PySem.W.nsIn K mainGlobals "all" = some none)
    (z_isinstance : PySem.W.nsIn K mainGlobals "isinstance" = some none)
    (z_int : PySem.W.nsIn K mainGlobals "int" = some none)
    (z_bool : PySem.W.nsIn K mainGlobals "bool" = some none)
    (z_tuple : PySem.W.nsIn K mainGlobals "tuple" = some none)
    (z_list : PySem.W.nsIn K mainGlobals "list" = some none)
    (z_range : PySem.W.nsIn K mainGlobals "range" = some none)
    (z_enumerate : PySem.W.nsIn K mainGlobals "enumerate" = some none)
    (z_zip : PySem.W.nsIn K mainGlobals "zip" = some none)
    (z_sorted : PySem.W.nsIn K mainGlobals "sorted" = some none)
    (z_set : PySem.W.nsIn K mainGlobals "set" = some none)
    (z_max : PySem.W.nsIn K mainGlobals "max" = some none)
    (z_min : PySem.W.nsIn K mainGlobals "min" = some none)
    (a_is_integer : PySem.W.nsIn K mainGlobals "is_integer" = some (some (.ref fis_integer)))
    (l_is_integer : K.lookup fis_integer = some ⟨ocis_integer, odis_integer, .func (PySem.W.fnOf "is_integer" "is_integer" (defArgs (topS 9)) (defBody (topS 9)) (defScope (topS 9)) .none kVis_integer dcis_integer pmis_integer anis_integer cdis_integer ctis_integer), slis_integer⟩)
    (c_is_integer : PySem.W.codeIn K cdis_integer "is_integer" = true)
    (k_is_integer : PySem.W.keepIn K (.ref fis_integer) = true)
    (a_is_told : PySem.W.nsIn K mainGlobals "is_told" = some (some (.ref fis_told)))
    (l_is_told : K.lookup fis_told = some ⟨ocis_told, odis_told, .func (PySem.W.fnOf "is_told" "is_told" (defArgs (topS 10)) (defBody (topS 10)) (defScope (topS 10)) .none kVis_told dcis_told pmis_told anis_told cdis_told ctis_told), slis_told⟩)
    (c_is_told : PySem.W.codeIn K cdis_told "is_told" = true)
    (k_is_told : PySem.W.keepIn K (.ref fis_told) = true)
    (a_is_item : PySem.W.nsIn K mainGlobals "is_item" = some (some (.ref fis_item)))
    (l_is_item : K.lookup fis_item = some ⟨ocis_item, odis_item, .func (PySem.W.fnOf "is_item" "is_item" (defArgs (topS 11)) (defBody (topS 11)) (defScope (topS 11)) .none kVis_item dcis_item pmis_item anis_item cdis_item ctis_item), slis_item⟩)
    (c_is_item : PySem.W.codeIn K cdis_item "is_item" = true)
    (k_is_item : PySem.W.keepIn K (.ref fis_item) = true)
    (a_is_book : PySem.W.nsIn K mainGlobals "is_book" = some (some (.ref fis_book)))
    (l_is_book : K.lookup fis_book = some ⟨ocis_book, odis_book, .func (PySem.W.fnOf "is_book" "is_book" (defArgs (topS 12)) (defBody (topS 12)) (defScope (topS 12)) .none kVis_book dcis_book pmis_book anis_book cdis_book ctis_book), slis_book⟩)
    (c_is_book : PySem.W.codeIn K cdis_book "is_book" = true)
    (k_is_book : PySem.W.keepIn K (.ref fis_book) = true)
    (a_need_book : PySem.W.nsIn K mainGlobals "need_book" = some (some (.ref fneed_book)))
    (l_need_book : K.lookup fneed_book = some ⟨ocneed_book, odneed_book, .func (PySem.W.fnOf "need_book" "need_book" (defArgs (topS 13)) (defBody (topS 13)) (defScope (topS 13)) .none kVneed_book dcneed_book pmneed_book anneed_book cdneed_book ctneed_book), slneed_book⟩)
    (c_need_book : PySem.W.codeIn K cdneed_book "need_book" = true)
    (k_need_book : PySem.W.keepIn K (.ref fneed_book) = true)
    (a_divisor_of : PySem.W.nsIn K mainGlobals "divisor_of" = some (some (.ref fdivisor_of)))
    (l_divisor_of : K.lookup fdivisor_of = some ⟨ocdivisor_of, oddivisor_of, .func (PySem.W.fnOf "divisor_of" "divisor_of" (defArgs (topS 14)) (defBody (topS 14)) (defScope (topS 14)) .none kVdivisor_of dcdivisor_of pmdivisor_of andivisor_of cddivisor_of ctdivisor_of), sldivisor_of⟩)
    (c_divisor_of : PySem.W.codeIn K cddivisor_of "divisor_of" = true)
    (k_divisor_of : PySem.W.keepIn K (.ref fdivisor_of) = true)
    (a_multiple_of : PySem.W.nsIn K mainGlobals "multiple_of" = some (some (.ref fmultiple_of)))
    (l_multiple_of : K.lookup fmultiple_of = some ⟨ocmultiple_of, odmultiple_of, .func (PySem.W.fnOf "multiple_of" "multiple_of" (defArgs (topS 15)) (defBody (topS 15)) (defScope (topS 15)) .none kVmultiple_of dcmultiple_of pmmultiple_of anmultiple_of cdmultiple_of ctmultiple_of), slmultiple_of⟩)
    (c_multiple_of : PySem.W.codeIn K cdmultiple_of "multiple_of" = true)
    (k_multiple_of : PySem.W.keepIn K (.ref fmultiple_of) = true)
    (a_divides : PySem.W.nsIn K mainGlobals "divides" = some (some (.ref fdivides)))
    (l_divides : K.lookup fdivides = some ⟨ocdivides, oddivides, .func (PySem.W.fnOf "divides" "divides" (defArgs (topS 16)) (defBody (topS 16)) (defScope (topS 16)) .none kVdivides dcdivides pmdivides andivides cddivides ctdivides), sldivides⟩)
    (c_divides : PySem.W.codeIn K cddivides "divides" = true)
    (k_divides : PySem.W.keepIn K (.ref fdivides) = true)
    (a_do_fit : PySem.W.nsIn K mainGlobals "do_fit" = some (some (.ref fdo_fit)))
    (l_do_fit : K.lookup fdo_fit = some ⟨ocdo_fit, oddo_fit, .func (PySem.W.fnOf "do_fit" "do_fit" (defArgs (topS 17)) (defBody (topS 17)) (defScope (topS 17)) .none kVdo_fit dcdo_fit pmdo_fit ando_fit cddo_fit ctdo_fit), sldo_fit⟩)
    (c_do_fit : PySem.W.codeIn K cddo_fit "do_fit" = true)
    (k_do_fit : PySem.W.keepIn K (.ref fdo_fit) = true)
    (a_conflicts_in : PySem.W.nsIn K mainGlobals "conflicts_in" = some (some (.ref fconflicts_in)))
    (l_conflicts_in : K.lookup fconflicts_in = some ⟨occonflicts_in, odconflicts_in, .func (PySem.W.fnOf "conflicts_in" "conflicts_in" (defArgs (topS 18)) (defBody (topS 18)) (defScope (topS 18)) .none kVconflicts_in dcconflicts_in pmconflicts_in anconflicts_in cdconflicts_in ctconflicts_in), slconflicts_in⟩)
    (c_conflicts_in : PySem.W.codeIn K cdconflicts_in "conflicts_in" = true)
    (k_conflicts_in : PySem.W.keepIn K (.ref fconflicts_in) = true)
    (a_conflict_in : PySem.W.nsIn K mainGlobals "conflict_in" = some (some (.ref fconflict_in)))
    (l_conflict_in : K.lookup fconflict_in = some ⟨occonflict_in, odconflict_in, .func (PySem.W.fnOf "conflict_in" "conflict_in" (defArgs (topS 19)) (defBody (topS 19)) (defScope (topS 19)) .none kVconflict_in dcconflict_in pmconflict_in anconflict_in cdconflict_in ctconflict_in), slconflict_in⟩)
    (c_conflict_in : PySem.W.codeIn K cdconflict_in "conflict_in" = true)
    (k_conflict_in : PySem.W.keepIn K (.ref fconflict_in) = true)
    (a_need_fitting : PySem.W.nsIn K mainGlobals "need_fitting" = some (some (.ref fneed_fitting)))
    (l_need_fitting : K.lookup fneed_fitting = some ⟨ocneed_fitting, odneed_fitting, .func (PySem.W.fnOf "need_fitting" "need_fitting" (defArgs (topS 20)) (defBody (topS 20)) (defScope (topS 20)) .none kVneed_fitting dcneed_fitting pmneed_fitting anneed_fitting cdneed_fitting ctneed_fitting), slneed_fitting⟩)
    (c_need_fitting : PySem.W.codeIn K cdneed_fitting "need_fitting" = true)
    (k_need_fitting : PySem.W.keepIn K (.ref fneed_fitting) = true)
    (a_need_possible : PySem.W.nsIn K mainGlobals "need_possible" = some (some (.ref fneed_possible)))
    (l_need_possible : K.lookup fneed_possible = some ⟨ocneed_possible, odneed_possible, .func (PySem.W.fnOf "need_possible" "need_possible" (defArgs (topS 21)) (defBody (topS 21)) (defScope (topS 21)) .none kVneed_possible dcneed_possible pmneed_possible anneed_possible cdneed_possible ctneed_possible), slneed_possible⟩)
    (c_need_possible : PySem.W.codeIn K cdneed_possible "need_possible" = true)
    (k_need_possible : PySem.W.keepIn K (.ref fneed_possible) = true)
    (a_conflict_of : PySem.W.nsIn K mainGlobals "conflict_of" = some (some (.ref fconflict_of)))
    (l_conflict_of : K.lookup fconflict_of = some ⟨occonflict_of, odconflict_of, .func (PySem.W.fnOf "conflict_of" "conflict_of" (defArgs (topS 22)) (defBody (topS 22)) (defScope (topS 22)) .none kVconflict_of dcconflict_of pmconflict_of anconflict_of cdconflict_of ctconflict_of), slconflict_of⟩)
    (c_conflict_of : PySem.W.codeIn K cdconflict_of "conflict_of" = true)
    (k_conflict_of : PySem.W.keepIn K (.ref fconflict_of) = true)
    (a_all_conflicts : PySem.W.nsIn K mainGlobals "all_conflicts" = some (some (.ref fall_conflicts)))
    (l_all_conflicts : K.lookup fall_conflicts = some ⟨ocall_conflicts, odall_conflicts, .func (PySem.W.fnOf "all_conflicts" "all_conflicts" (defArgs (topS 23)) (defBody (topS 23)) (defScope (topS 23)) .none kVall_conflicts dcall_conflicts pmall_conflicts anall_conflicts cdall_conflicts ctall_conflicts), slall_conflicts⟩)
    (c_all_conflicts : PySem.W.codeIn K cdall_conflicts "all_conflicts" = true)
    (k_all_conflicts : PySem.W.keepIn K (.ref fall_conflicts) = true)
    (a_inverse_of : PySem.W.nsIn K mainGlobals "inverse_of" = some (some (.ref finverse_of)))
    (l_inverse_of : K.lookup finverse_of = some ⟨ocinverse_of, odinverse_of, .func (PySem.W.fnOf "inverse_of" "inverse_of" (defArgs (topS 25)) (defBody (topS 25)) (defScope (topS 25)) .none kVinverse_of dcinverse_of pminverse_of aninverse_of cdinverse_of ctinverse_of), slinverse_of⟩)
    (c_inverse_of : PySem.W.codeIn K cdinverse_of "inverse_of" = true)
    (k_inverse_of : PySem.W.keepIn K (.ref finverse_of) = true)
    (a_met : PySem.W.nsIn K mainGlobals "met" = some (some (.ref fmet)))
    (l_met : K.lookup fmet = some ⟨ocmet, odmet, .func (PySem.W.fnOf "met" "met" (defArgs (topS 26)) (defBody (topS 26)) (defScope (topS 26)) .none kVmet dcmet pmmet anmet cdmet ctmet), slmet⟩)
    (c_met : PySem.W.codeIn K cdmet "met" = true)
    (k_met : PySem.W.keepIn K (.ref fmet) = true)
    (a_class_by : PySem.W.nsIn K mainGlobals "class_by" = some (some (.ref fclass_by)))
    (l_class_by : K.lookup fclass_by = some ⟨occlass_by, odclass_by, .func (PySem.W.fnOf "class_by" "class_by" (defArgs (topS 27)) (defBody (topS 27)) (defScope (topS 27)) .none kVclass_by dcclass_by pmclass_by anclass_by cdclass_by ctclass_by), slclass_by⟩)
    (c_class_by : PySem.W.codeIn K cdclass_by "class_by" = true)
    (k_class_by : PySem.W.keepIn K (.ref fclass_by) = true)
    (a_class_at : PySem.W.nsIn K mainGlobals "class_at" = some (some (.ref fclass_at)))
    (l_class_at : K.lookup fclass_at = some ⟨occlass_at, odclass_at, .func (PySem.W.fnOf "class_at" "class_at" (defArgs (topS 28)) (defBody (topS 28)) (defScope (topS 28)) .none kVclass_at dcclass_at pmclass_at anclass_at cdclass_at ctclass_at), slclass_at⟩)
    (c_class_at : PySem.W.codeIn K cdclass_at "class_at" = true)
    (k_class_at : PySem.W.keepIn K (.ref fclass_at) = true)
    (a_first_from : PySem.W.nsIn K mainGlobals "first_from" = some (some (.ref ffirst_from)))
    (l_first_from : K.lookup ffirst_from = some ⟨ocfirst_from, odfirst_from, .func (PySem.W.fnOf "first_from" "first_from" (defArgs (topS 29)) (defBody (topS 29)) (defScope (topS 29)) .none kVfirst_from dcfirst_from pmfirst_from anfirst_from cdfirst_from ctfirst_from), slfirst_from⟩)
    (c_first_from : PySem.W.codeIn K cdfirst_from "first_from" = true)
    (k_first_from : PySem.W.keepIn K (.ref ffirst_from) = true)
    (a_next_value : PySem.W.nsIn K mainGlobals "next_value" = some (some (.ref fnext_value)))
    (l_next_value : K.lookup fnext_value = some ⟨ocnext_value, odnext_value, .func (PySem.W.fnOf "next_value" "next_value" (defArgs (topS 30)) (defBody (topS 30)) (defScope (topS 30)) .none kVnext_value dcnext_value pmnext_value annext_value cdnext_value ctnext_value), slnext_value⟩)
    (c_next_value : PySem.W.codeIn K cdnext_value "next_value" = true)
    (k_next_value : PySem.W.keepIn K (.ref fnext_value) = true)
    (a_is_stretch : PySem.W.nsIn K mainGlobals "is_stretch" = some (some (.ref fis_stretch)))
    (l_is_stretch : K.lookup fis_stretch = some ⟨ocis_stretch, odis_stretch, .func (PySem.W.fnOf "is_stretch" "is_stretch" (defArgs (topS 33)) (defBody (topS 33)) (defScope (topS 33)) (.ref gis_stretch) kVis_stretch dcis_stretch pmis_stretch anis_stretch cdis_stretch ctis_stretch), slis_stretch⟩)
    (c_is_stretch : PySem.W.codeIn K cdis_stretch "is_stretch" = true)
    (k_is_stretch : PySem.W.keepIn K (.ref fis_stretch) = true)
    (g_is_stretch : K.lookup gis_stretch = some gois_stretch)
    (gd_is_stretch : gois_stretch.data = .seq #[.int 40 gtis_stretch] gmis_stretch)
    (a_need_stretch : PySem.W.nsIn K mainGlobals "need_stretch" = some (some (.ref fneed_stretch)))
    (l_need_stretch : K.lookup fneed_stretch = some ⟨ocneed_stretch, odneed_stretch, .func (PySem.W.fnOf "need_stretch" "need_stretch" (defArgs (topS 34)) (defBody (topS 34)) (defScope (topS 34)) (.ref gneed_stretch) kVneed_stretch dcneed_stretch pmneed_stretch anneed_stretch cdneed_stretch ctneed_stretch), slneed_stretch⟩)
    (c_need_stretch : PySem.W.codeIn K cdneed_stretch "need_stretch" = true)
    (k_need_stretch : PySem.W.keepIn K (.ref fneed_stretch) = true)
    (g_need_stretch : K.lookup gneed_stretch = some goneed_stretch)
    (gd_need_stretch : goneed_stretch.data = .seq #[.int 40 gtneed_stretch] gmneed_stretch)
    (a_items_in : PySem.W.nsIn K mainGlobals "items_in" = some (some (.ref fitems_in)))
    (l_items_in : K.lookup fitems_in = some ⟨ocitems_in, oditems_in, .func (PySem.W.fnOf "items_in" "items_in" (defArgs (topS 35)) (defBody (topS 35)) (defScope (topS 35)) .none kVitems_in dcitems_in pmitems_in anitems_in cditems_in ctitems_in), slitems_in⟩)
    (c_items_in : PySem.W.codeIn K cditems_in "items_in" = true)
    (k_items_in : PySem.W.keepIn K (.ref fitems_in) = true)
    (a_need_right : PySem.W.nsIn K mainGlobals "need_right" = some (some (.ref fneed_right)))
    (l_need_right : K.lookup fneed_right = some ⟨ocneed_right, odneed_right, .func (PySem.W.fnOf "need_right" "need_right" (defArgs (topS 36)) (defBody (topS 36)) (defScope (topS 36)) .none kVneed_right dcneed_right pmneed_right anneed_right cdneed_right ctneed_right), slneed_right⟩)
    (c_need_right : PySem.W.codeIn K cdneed_right "need_right" = true)
    (k_need_right : PySem.W.keepIn K (.ref fneed_right) = true)
    (a_differences_in : PySem.W.nsIn K mainGlobals "differences_in" = some (some (.ref fdifferences_in)))
    (l_differences_in : K.lookup fdifferences_in = some ⟨ocdifferences_in, oddifferences_in, .func (PySem.W.fnOf "differences_in" "differences_in" (defArgs (topS 37)) (defBody (topS 37)) (defScope (topS 37)) .none kVdifferences_in dcdifferences_in pmdifferences_in andifferences_in cddifferences_in ctdifferences_in), sldifferences_in⟩)
    (c_differences_in : PySem.W.codeIn K cddifferences_in "differences_in" = true)
    (k_differences_in : PySem.W.keepIn K (.ref fdifferences_in) = true)
    (a_differences : PySem.W.nsIn K mainGlobals "differences" = some (some (.ref fdifferences)))
    (l_differences : K.lookup fdifferences = some ⟨ocdifferences, oddifferences, .func (PySem.W.fnOf "differences" "differences" (defArgs (topS 38)) (defBody (topS 38)) (defScope (topS 38)) .none kVdifferences dcdifferences pmdifferences andifferences cddifferences ctdifferences), sldifferences⟩)
    (c_differences : PySem.W.codeIn K cddifferences "differences" = true)
    (k_differences : PySem.W.keepIn K (.ref fdifferences) = true)
    (a_stretch_conflict : PySem.W.nsIn K mainGlobals "stretch_conflict" = some (some (.ref fstretch_conflict)))
    (l_stretch_conflict : K.lookup fstretch_conflict = some ⟨ocstretch_conflict, odstretch_conflict, .func (PySem.W.fnOf "stretch_conflict" "stretch_conflict" (defArgs (topS 39)) (defBody (topS 39)) (defScope (topS 39)) .none kVstretch_conflict dcstretch_conflict pmstretch_conflict anstretch_conflict cdstretch_conflict ctstretch_conflict), slstretch_conflict⟩)
    (c_stretch_conflict : PySem.W.codeIn K cdstretch_conflict "stretch_conflict" = true)
    (k_stretch_conflict : PySem.W.keepIn K (.ref fstretch_conflict) = true)
    (a_next_class : PySem.W.nsIn K mainGlobals "next_class" = some (some (.ref fnext_class)))
    (l_next_class : K.lookup fnext_class = some ⟨ocnext_class, odnext_class, .func (PySem.W.fnOf "next_class" "next_class" (defArgs (topS 40)) (defBody (topS 40)) (defScope (topS 40)) .none kVnext_class dcnext_class pmnext_class annext_class cdnext_class ctnext_class), slnext_class⟩)
    (c_next_class : PySem.W.codeIn K cdnext_class "next_class" = true)
    (k_next_class : PySem.W.keepIn K (.ref fnext_class) = true)
    (a_class_ahead : PySem.W.nsIn K mainGlobals "class_ahead" = some (some (.ref fclass_ahead)))
    (l_class_ahead : K.lookup fclass_ahead = some ⟨occlass_ahead, odclass_ahead, .func (PySem.W.fnOf "class_ahead" "class_ahead" (defArgs (topS 41)) (defBody (topS 41)) (defScope (topS 41)) .none kVclass_ahead dcclass_ahead pmclass_ahead anclass_ahead cdclass_ahead ctclass_ahead), slclass_ahead⟩)
    (c_class_ahead : PySem.W.codeIn K cdclass_ahead "class_ahead" = true)
    (k_class_ahead : PySem.W.keepIn K (.ref fclass_ahead) = true)
    (a_longer : PySem.W.nsIn K mainGlobals "longer" = some (some (.ref flonger)))
    (l_longer : K.lookup flonger = some ⟨oclonger, odlonger, .func (PySem.W.fnOf "longer" "longer" (defArgs (topS 42)) (defBody (topS 42)) (defScope (topS 42)) .none kVlonger dclonger pmlonger anlonger cdlonger ctlonger), sllonger⟩)
    (c_longer : PySem.W.codeIn K cdlonger "longer" = true)
    (k_longer : PySem.W.keepIn K (.ref flonger) = true)
    (a_book_of : PySem.W.nsIn K mainGlobals "book_of" = some (some (.ref fbook_of)))
    (l_book_of : K.lookup fbook_of = some ⟨ocbook_of, odbook_of, .func (PySem.W.fnOf "book_of" "book_of" (defArgs (topS 43)) (defBody (topS 43)) (defScope (topS 43)) .none kVbook_of dcbook_of pmbook_of anbook_of cdbook_of ctbook_of), slbook_of⟩)
    (c_book_of : PySem.W.codeIn K cdbook_of "book_of" = true)
    (k_book_of : PySem.W.keepIn K (.ref fbook_of) = true)
    (a__law_purse : PySem.W.nsIn K mainGlobals "_law_purse" = some (some (.ref f_law_purse)))
    (l__law_purse : K.lookup f_law_purse = some ⟨oc_law_purse, od_law_purse, .func (PySem.W.fnOf "_law_purse" "_law_purse" (defArgs (topS 45)) (defBody (topS 45)) (defScope (topS 45)) .none kV_law_purse dc_law_purse pm_law_purse an_law_purse cd_law_purse ct_law_purse), sl_law_purse⟩)
    (c__law_purse : PySem.W.codeIn K cd_law_purse "_law_purse" = true)
    (k__law_purse : PySem.W.keepIn K (.ref f_law_purse) = true)
    (a__law_toss : PySem.W.nsIn K mainGlobals "_law_toss" = some (some (.ref f_law_toss)))
    (l__law_toss : K.lookup f_law_toss = some ⟨oc_law_toss, od_law_toss, .func (PySem.W.fnOf "_law_toss" "_law_toss" (defArgs (topS 46)) (defBody (topS 46)) (defScope (topS 46)) .none kV_law_toss dc_law_toss pm_law_toss an_law_toss cd_law_toss ct_law_toss), sl_law_toss⟩)
    (c__law_toss : PySem.W.codeIn K cd_law_toss "_law_toss" = true)
    (k__law_toss : PySem.W.keepIn K (.ref f_law_toss) = true)
    (a__law_divisor : PySem.W.nsIn K mainGlobals "_law_divisor" = some (some (.ref f_law_divisor)))
    (l__law_divisor : K.lookup f_law_divisor = some ⟨oc_law_divisor, od_law_divisor, .func (PySem.W.fnOf "_law_divisor" "_law_divisor" (defArgs (topS 47)) (defBody (topS 47)) (defScope (topS 47)) .none kV_law_divisor dc_law_divisor pm_law_divisor an_law_divisor cd_law_divisor ct_law_divisor), sl_law_divisor⟩)
    (c__law_divisor : PySem.W.codeIn K cd_law_divisor "_law_divisor" = true)
    (k__law_divisor : PySem.W.keepIn K (.ref f_law_divisor) = true)
    (a__law_multiple : PySem.W.nsIn K mainGlobals "_law_multiple" = some (some (.ref f_law_multiple)))
    (l__law_multiple : K.lookup f_law_multiple = some ⟨oc_law_multiple, od_law_multiple, .func (PySem.W.fnOf "_law_multiple" "_law_multiple" (defArgs (topS 48)) (defBody (topS 48)) (defScope (topS 48)) .none kV_law_multiple dc_law_multiple pm_law_multiple an_law_multiple cd_law_multiple ct_law_multiple), sl_law_multiple⟩)
    (c__law_multiple : PySem.W.codeIn K cd_law_multiple "_law_multiple" = true)
    (k__law_multiple : PySem.W.keepIn K (.ref f_law_multiple) = true)
    (a__law_row : PySem.W.nsIn K mainGlobals "_law_row" = some (some (.ref f_law_row)))
    (l__law_row : K.lookup f_law_row = some ⟨oc_law_row, od_law_row, .func (PySem.W.fnOf "_law_row" "_law_row" (defArgs (topS 49)) (defBody (topS 49)) (defScope (topS 49)) .none kV_law_row dc_law_row pm_law_row an_law_row cd_law_row ct_law_row), sl_law_row⟩)
    (c__law_row : PySem.W.codeIn K cd_law_row "_law_row" = true)
    (k__law_row : PySem.W.keepIn K (.ref f_law_row) = true)
    (a__law_at : PySem.W.nsIn K mainGlobals "_law_at" = some (some (.ref f_law_at)))
    (l__law_at : K.lookup f_law_at = some ⟨oc_law_at, od_law_at, .func (PySem.W.fnOf "_law_at" "_law_at" (defArgs (topS 50)) (defBody (topS 50)) (defScope (topS 50)) .none kV_law_at dc_law_at pm_law_at an_law_at cd_law_at ct_law_at), sl_law_at⟩)
    (c__law_at : PySem.W.codeIn K cd_law_at "_law_at" = true)
    (k__law_at : PySem.W.keepIn K (.ref f_law_at) = true)
    (a__law_spots : PySem.W.nsIn K mainGlobals "_law_spots" = some (some (.ref f_law_spots)))
    (l__law_spots : K.lookup f_law_spots = some ⟨oc_law_spots, od_law_spots, .func (PySem.W.fnOf "_law_spots" "_law_spots" (defArgs (topS 51)) (defBody (topS 51)) (defScope (topS 51)) .none kV_law_spots dc_law_spots pm_law_spots an_law_spots cd_law_spots ct_law_spots), sl_law_spots⟩)
    (c__law_spots : PySem.W.codeIn K cd_law_spots "_law_spots" = true)
    (k__law_spots : PySem.W.keepIn K (.ref f_law_spots) = true)
    (a__law_bent : PySem.W.nsIn K mainGlobals "_law_bent" = some (some (.ref f_law_bent)))
    (l__law_bent : K.lookup f_law_bent = some ⟨oc_law_bent, od_law_bent, .func (PySem.W.fnOf "_law_bent" "_law_bent" (defArgs (topS 53)) (defBody (topS 53)) (defScope (topS 53)) .none kV_law_bent dc_law_bent pm_law_bent an_law_bent cd_law_bent ct_law_bent), sl_law_bent⟩)
    (c__law_bent : PySem.W.codeIn K cd_law_bent "_law_bent" = true)
    (k__law_bent : PySem.W.keepIn K (.ref f_law_bent) = true)
    (a__law_new : PySem.W.nsIn K mainGlobals "_law_new" = some (some (.ref f_law_new)))
    (l__law_new : K.lookup f_law_new = some ⟨oc_law_new, od_law_new, .func (PySem.W.fnOf "_law_new" "_law_new" (defArgs (topS 55)) (defBody (topS 55)) (defScope (topS 55)) .none kV_law_new dc_law_new pm_law_new an_law_new cd_law_new ct_law_new), sl_law_new⟩)
    (c__law_new : PySem.W.codeIn K cd_law_new "_law_new" = true)
    (k__law_new : PySem.W.keepIn K (.ref f_law_new) = true)
    (a__law_refused : PySem.W.nsIn K mainGlobals "_law_refused" = some (some (.ref f_law_refused)))
    (l__law_refused : K.lookup f_law_refused = some ⟨oc_law_refused, od_law_refused, .func (PySem.W.fnOf "_law_refused" "_law_refused" (defArgs (topS 56)) (defBody (topS 56)) (defScope (topS 56)) .none kV_law_refused dc_law_refused pm_law_refused an_law_refused cd_law_refused ct_law_refused), sl_law_refused⟩)
    (c__law_refused : PySem.W.codeIn K cd_law_refused "_law_refused" = true)
    (k__law_refused : PySem.W.keepIn K (.ref f_law_refused) = true)
    (a__law_stretch_right : PySem.W.nsIn K mainGlobals "_law_stretch_right" = some (some (.ref f_law_stretch_right)))
    (l__law_stretch_right : K.lookup f_law_stretch_right = some ⟨oc_law_stretch_right, od_law_stretch_right, .func (PySem.W.fnOf "_law_stretch_right" "_law_stretch_right" (defArgs (topS 57)) (defBody (topS 57)) (defScope (topS 57)) .none kV_law_stretch_right dc_law_stretch_right pm_law_stretch_right an_law_stretch_right cd_law_stretch_right ct_law_stretch_right), sl_law_stretch_right⟩)
    (c__law_stretch_right : PySem.W.codeIn K cd_law_stretch_right "_law_stretch_right" = true)
    (k__law_stretch_right : PySem.W.keepIn K (.ref f_law_stretch_right) = true)
    (a__law_sums_right : PySem.W.nsIn K mainGlobals "_law_sums_right" = some (some (.ref f_law_sums_right)))
    (l__law_sums_right : K.lookup f_law_sums_right = some ⟨oc_law_sums_right, od_law_sums_right, .func (PySem.W.fnOf "_law_sums_right" "_law_sums_right" (defArgs (topS 58)) (defBody (topS 58)) (defScope (topS 58)) .none kV_law_sums_right dc_law_sums_right pm_law_sums_right an_law_sums_right cd_law_sums_right ct_law_sums_right), sl_law_sums_right⟩)
    (c__law_sums_right : PySem.W.codeIn K cd_law_sums_right "_law_sums_right" = true)
    (k__law_sums_right : PySem.W.keepIn K (.ref f_law_sums_right) = true)
    (a_law : PySem.W.nsIn K mainGlobals "law" = some (some (.ref flaw)))
    (l_law : K.lookup flaw = some ⟨oclaw, odlaw, .func (PySem.W.fnOf "law" "law" (defArgs (topS 59)) (defBody (topS 59)) (defScope (topS 59)) .none kVlaw dclaw pmlaw anlaw cdlaw ctlaw), sllaw⟩)
    (c_law : PySem.W.codeIn K cdlaw "law" = true)
    (k_law : PySem.W.keepIn K (.ref flaw) = true)
    (u_a : PySem.W.nsIn K mainGlobals "Unfit" = some (some (.ref C)))
    (u_l : K.lookup C = some (excClassObj nm q C N bs bm true sn sub ab col dd m0 m1 m2 m3 m5 "ValueError.__new__"))
    (u_b : PySem.HandSPX.refsVE bm = true)
    (u_sa : PySem.W.findIn K (.ref C) "__setattr__" = some (some (.builtin "object.__setattr__")))
    (u_ex : PySem.W.subIn K (.ref C) (.type "BaseException") = some true)
    (u_ty : PySem.W.typeIn K (.ref C) = some (.type "type"))
    (u_k : PySem.W.keepIn K (.ref C) = true)
    (u_ga : PySem.W.findIn K (.ref C) "__getattribute__" = some (some (.builtin "BaseException.__getattribute__")))
    (u_gg : PySem.W.findIn K (.ref C) "__getattr__" = some none)
    (u_hd : PySem.W.hasDictIn K C = true)
    (u_n1 : PySem.W.findIn K (.ref C) "first" = some none)
    (u_n2 : PySem.W.findIn K (.ref C) "second" = some none)
    (u_is : PySem.W.isClsIn K C = true)
    (u_ss : PySem.W.subIn K (.ref C) (.ref C) = some true)
    (i_f : PySem.W.findIn K (.ref C) "__init__" = some (some (.ref fI)))
    (i_t : PySem.W.typeIn K (.ref fI) = some (.type "function"))
    (i_l : K.lookup fI = some ⟨ocI, odI, .func (PySem.W.fnOf "__init__" "Unfit.__init__" (defArgs (inClass (topS 5) 0)) (defBody (inClass (topS 5) 0)) (defScope (inClass (topS 5) 0)) .none kVI dcI pmI anI cdI ctI), slI⟩)
    (i_c : PySem.W.codeIn K cdI "Unfit.__init__" = true)
    (i_k : PySem.W.keepIn K (.ref fI) = true)
    (r_a : PySem.W.nsIn K mainGlobals "RestError" = some (some (.ref R)))
    (r_ga : PySem.W.specialIn K (.ref R) "__getattribute__" = some (some (.builtin "type.__getattribute__")))
    (r_ty : PySem.W.typeIn K (.ref R) = some (.type "type"))
    (r_rd : PySem.W.readsIn K R (.type "type") = true)
    (r_fc : PySem.W.findCls K (.ref R) (.type "type") "__init__" = some (.val (.builtin "ValueError.__init__"))) :
    ∃ fd : FuncData, (∀ (s : Shared) (u : Value), BindsTo s fd ⟨[u], []⟩ [("_law_script", u)]) ∧ ∀ base : Heap, K.In base → base.Ns mainGlobals mg → FnOk P w K mg base CX0 11 fa fd ["_law_script"] (spLaw K) := by
  have e := hfa.symm.trans (PySem.W.mg_of X G a_law)
  cases e
  have T : Txt K mg := ⟨⟨_, PySem.W.mg_of X G m_MOST_ITEMS⟩, ⟨_, PySem.W.mg_of X G m_MOST⟩, ⟨_, PySem.W.mg_of X G m_MOST_VALUES⟩, PySem.W.mg_none_of X G z_len, PySem.W.mg_none_of X G z_abs, PySem.W.mg_none_of X G z_all, PySem.W.mg_none_of X G z_isinstance, PySem.W.mg_none_of X G z_int, PySem.W.mg_none_of X G z_bool, PySem.W.mg_none_of X G z_tuple, PySem.W.mg_none_of X G z_list, PySem.W.mg_none_of X G z_range, PySem.W.mg_none_of X G z_enumerate, PySem.W.mg_none_of X G z_zip, PySem.W.mg_none_of X G z_sorted, PySem.W.mg_none_of X G z_set, PySem.W.mg_none_of X G z_max, PySem.W.mg_none_of X G z_min⟩
  have FI := fun_mk (st := inClass (topS 5) 0) i_l i_c i_k
  have TX : TxtX K mg C := ⟨PySem.W.mg_of X G u_a, ⟨⟨nm, q, N, bs, bm, sn, sub, ab, col, dd, m0, m1, m2, m3, m5, u_l, u_b⟩, u_sa, u_ex, u_ty, u_k⟩, ⟨u_ga, u_gg, u_ex, u_hd⟩, u_n1, u_n2, exm_same u_ex u_is u_ty u_ss,
    ⟨fI, _, i_f, i_t, FI, FI.binds fun _ _ _ _ _ _ us hl => match us, hl with | [_, _, _], _ => rfl⟩, ⟨R, PySem.W.mg_of X G r_a, r_ga, r_ty, r_rd, r_fc⟩⟩
  have dn_is_integer : Dfn K mg "is_integer" (topS 9) ["thing"] := ⟨_, _, PySem.W.mg_of X G a_is_integer, fun_mk l_is_integer c_is_integer k_is_integer, (fun_mk (st := topS 9) l_is_integer c_is_integer k_is_integer).binds fun _ _ _ _ _ _ us hl => match us, hl with | [_], _ => rfl⟩
  have dn_is_told : Dfn K mg "is_told" (topS 10) ["thing"] := ⟨_, _, PySem.W.mg_of X G a_is_told, fun_mk l_is_told c_is_told k_is_told, (fun_mk (st := topS 10) l_is_told c_is_told k_is_told).binds fun _ _ _ _ _ _ us hl => match us, hl with | [_], _ => rfl⟩
  have dn_is_item : Dfn K mg "is_item" (topS 11) ["thing"] := ⟨_, _, PySem.W.mg_of X G a_is_item, fun_mk l_is_item c_is_item k_is_item, (fun_mk (st := topS 11) l_is_item c_is_item k_is_item).binds fun _ _ _ _ _ _ us hl => match us, hl with | [_], _ => rfl⟩
  have dn_is_book : Dfn K mg "is_book" (topS 12) ["thing"] := ⟨_, _, PySem.W.mg_of X G a_is_book, fun_mk l_is_book c_is_book k_is_book, (fun_mk (st := topS 12) l_is_book c_is_book k_is_book).binds fun _ _ _ _ _ _ us hl => match us, hl with | [_], _ => rfl⟩
  have dn_need_book : Dfn K mg "need_book" (topS 13) ["book"] := ⟨_, _, PySem.W.mg_of X G a_need_book, fun_mk l_need_book c_need_book k_need_book, (fun_mk (st := topS 13) l_need_book c_need_book k_need_book).binds fun _ _ _ _ _ _ us hl => match us, hl with | [_], _ => rfl⟩
  have dn_divisor_of : Dfn K mg "divisor_of" (topS 14) ["one", "other"] := ⟨_, _, PySem.W.mg_of X G a_divisor_of, fun_mk l_divisor_of c_divisor_of k_divisor_of, (fun_mk (st := topS 14) l_divisor_of c_divisor_of k_divisor_of).binds fun _ _ _ _ _ _ us hl => match us, hl with | [_, _], _ => rfl⟩
  have dn_multiple_of : Dfn K mg "multiple_of" (topS 15) ["numbers"] := ⟨_, _, PySem.W.mg_of X G a_multiple_of, fun_mk l_multiple_of c_multiple_of k_multiple_of, (fun_mk (st := topS 15) l_multiple_of c_multiple_of k_multiple_of).binds fun _ _ _ _ _ _ us hl => match us, hl with | [_], _ => rfl⟩
  have dn_divides : Dfn K mg "divides" (topS 16) ["number", "other"] := ⟨_, _, PySem.W.mg_of X G a_divides, fun_mk l_divides c_divides k_divides, (fun_mk (st := topS 16) l_divides c_divides k_divides).binds fun _ _ _ _ _ _ us hl => match us, hl with | [_, _], _ => rfl⟩
  have dn_do_fit : Dfn K mg "do_fit" (topS 17) ["one", "other"] := ⟨_, _, PySem.W.mg_of X G a_do_fit, fun_mk l_do_fit c_do_fit k_do_fit, (fun_mk (st := topS 17) l_do_fit c_do_fit k_do_fit).binds fun _ _ _ _ _ _ us hl => match us, hl with | [_, _], _ => rfl⟩
  have dn_conflicts_in : Dfn K mg "conflicts_in" (topS 18) ["book"] := ⟨_, _, PySem.W.mg_of X G a_conflicts_in, fun_mk l_conflicts_in c_conflicts_in k_conflicts_in, (fun_mk (st := topS 18) l_conflicts_in c_conflicts_in k_conflicts_in).binds fun _ _ _ _ _ _ us hl => match us, hl with | [_], _ => rfl⟩
  have dn_conflict_in : Dfn K mg "conflict_in" (topS 19) ["book"] := ⟨_, _, PySem.W.mg_of X G a_conflict_in, fun_mk l_conflict_in c_conflict_in k_conflict_in, (fun_mk (st := topS 19) l_conflict_in c_conflict_in k_conflict_in).binds fun _ _ _ _ _ _ us hl => match us, hl with | [_], _ => rfl⟩
  have dn_need_fitting : Dfn K mg "need_fitting" (topS 20) ["book"] := ⟨_, _, PySem.W.mg_of X G a_need_fitting, fun_mk l_need_fitting c_need_fitting k_need_fitting, (fun_mk (st := topS 20) l_need_fitting c_need_fitting k_need_fitting).binds fun _ _ _ _ _ _ us hl => match us, hl with | [_], _ => rfl⟩
  have dn_need_possible : Dfn K mg "need_possible" (topS 21) ["book"] := ⟨_, _, PySem.W.mg_of X G a_need_possible, fun_mk l_need_possible c_need_possible k_need_possible, (fun_mk (st := topS 21) l_need_possible c_need_possible k_need_possible).binds fun _ _ _ _ _ _ us hl => match us, hl with | [_], _ => rfl⟩
  have dn_conflict_of : Dfn K mg "conflict_of" (topS 22) ["book"] := ⟨_, _, PySem.W.mg_of X G a_conflict_of, fun_mk l_conflict_of c_conflict_of k_conflict_of, (fun_mk (st := topS 22) l_conflict_of c_conflict_of k_conflict_of).binds fun _ _ _ _ _ _ us hl => match us, hl with | [_], _ => rfl⟩
  have dn_all_conflicts : Dfn K mg "all_conflicts" (topS 23) ["book"] := ⟨_, _, PySem.W.mg_of X G a_all_conflicts, fun_mk l_all_conflicts c_all_conflicts k_all_conflicts, (fun_mk (st := topS 23) l_all_conflicts c_all_conflicts k_all_conflicts).binds fun _ _ _ _ _ _ us hl => match us, hl with | [_], _ => rfl⟩
  have dn_inverse_of : Dfn K mg "inverse_of" (topS 25) ["number", "modulus"] := ⟨_, _, PySem.W.mg_of X G a_inverse_of, fun_mk l_inverse_of c_inverse_of k_inverse_of, (fun_mk (st := topS 25) l_inverse_of c_inverse_of k_inverse_of).binds fun _ _ _ _ _ _ us hl => match us, hl with | [_, _], _ => rfl⟩
  have dn_met : Dfn K mg "met" (topS 26) ["one", "other"] := ⟨_, _, PySem.W.mg_of X G a_met, fun_mk l_met c_met k_met, (fun_mk (st := topS 26) l_met c_met k_met).binds fun _ _ _ _ _ _ us hl => match us, hl with | [_, _], _ => rfl⟩
  have dn_class_by : Dfn K mg "class_by" (topS 27) ["items", "place"] := ⟨_, _, PySem.W.mg_of X G a_class_by, fun_mk l_class_by c_class_by k_class_by, (fun_mk (st := topS 27) l_class_by c_class_by k_class_by).binds fun _ _ _ _ _ _ us hl => match us, hl with | [_, _], _ => rfl⟩
  have dn_class_at : Dfn K mg "class_at" (topS 28) ["book", "place"] := ⟨_, _, PySem.W.mg_of X G a_class_at, fun_mk l_class_at c_class_at k_class_at, (fun_mk (st := topS 28) l_class_at c_class_at k_class_at).binds fun _ _ _ _ _ _ us hl => match us, hl with | [_, _], _ => rfl⟩
  have dn_first_from : Dfn K mg "first_from" (topS 29) ["own_class", "value"] := ⟨_, _, PySem.W.mg_of X G a_first_from, fun_mk l_first_from c_first_from k_first_from, (fun_mk (st := topS 29) l_first_from c_first_from k_first_from).binds fun _ _ _ _ _ _ us hl => match us, hl with | [_, _], _ => rfl⟩
  have dn_next_value : Dfn K mg "next_value" (topS 30) ["book", "place", "value"] := ⟨_, _, PySem.W.mg_of X G a_next_value, fun_mk l_next_value c_next_value k_next_value, (fun_mk (st := topS 30) l_next_value c_next_value k_next_value).binds fun _ _ _ _ _ _ us hl => match us, hl with | [_, _, _], _ => rfl⟩
  have dn_is_stretch : DfnD K mg "is_stretch" (topS 33) ["thing", "most"] := dfnD_mk (PySem.W.mg_of X G a_is_stretch) l_is_stretch c_is_stretch k_is_stretch g_is_stretch gd_is_stretch 1 rfl
    (fun T kV doc pm an cdv ct us its h1 h2 => match us, its, h1, h2 with | [_, _], [_], _, _ => ⟨_, rfl, rfl⟩) (fun T kV doc pm an cdv ct us its h1 h2 => match us, its, h1, h2 with | [_], [_], _, _ => ⟨_, rfl, rfl⟩)
  have dn_need_stretch : DfnD K mg "need_stretch" (topS 34) ["stretch", "most"] := dfnD_mk (PySem.W.mg_of X G a_need_stretch) l_need_stretch c_need_stretch k_need_stretch g_need_stretch gd_need_stretch 1 rfl
    (fun T kV doc pm an cdv ct us its h1 h2 => match us, its, h1, h2 with | [_, _], [_], _, _ => ⟨_, rfl, rfl⟩) (fun T kV doc pm an cdv ct us its h1 h2 => match us, its, h1, h2 with | [_], [_], _, _ => ⟨_, rfl, rfl⟩)
  have dn_items_in : Dfn K mg "items_in" (topS 35) ["stretch"] := ⟨_, _, PySem.W.mg_of X G a_items_in, fun_mk l_items_in c_items_in k_items_in, (fun_mk (st := topS 35) l_items_in c_items_in k_items_in).binds fun _ _ _ _ _ _ us hl => match us, hl with | [_], _ => rfl⟩
  have dn_need_right : Dfn K mg "need_right" (topS 36) ["stretch"] := ⟨_, _, PySem.W.mg_of X G a_need_right, fun_mk l_need_right c_need_right k_need_right, (fun_mk (st := topS 36) l_need_right c_need_right k_need_right).binds fun _ _ _ _ _ _ us hl => match us, hl with | [_], _ => rfl⟩
  have dn_differences_in : Dfn K mg "differences_in" (topS 37) ["stretch"] := ⟨_, _, PySem.W.mg_of X G a_differences_in, fun_mk l_differences_in c_differences_in k_differences_in, (fun_mk (st := topS 37) l_differences_in c_differences_in k_differences_in).binds fun _ _ _ _ _ _ us hl => match us, hl with | [_], _ => rfl⟩
  have dn_differences : Dfn K mg "differences" (topS 38) ["stretch"] := ⟨_, _, PySem.W.mg_of X G a_differences, fun_mk l_differences c_differences k_differences, (fun_mk (st := topS 38) l_differences c_differences k_differences).binds fun _ _ _ _ _ _ us hl => match us, hl with | [_], _ => rfl⟩
  have dn_stretch_conflict : Dfn K mg "stretch_conflict" (topS 39) ["stretch"] := ⟨_, _, PySem.W.mg_of X G a_stretch_conflict, fun_mk l_stretch_conflict c_stretch_conflict k_stretch_conflict, (fun_mk (st := topS 39) l_stretch_conflict c_stretch_conflict k_stretch_conflict).binds fun _ _ _ _ _ _ us hl => match us, hl with | [_], _ => rfl⟩
  have dn_next_class : Dfn K mg "next_class" (topS 40) ["stretch"] := ⟨_, _, PySem.W.mg_of X G a_next_class, fun_mk l_next_class c_next_class k_next_class, (fun_mk (st := topS 40) l_next_class c_next_class k_next_class).binds fun _ _ _ _ _ _ us hl => match us, hl with | [_], _ => rfl⟩
  have dn_class_ahead : Dfn K mg "class_ahead" (topS 41) ["stretch"] := ⟨_, _, PySem.W.mg_of X G a_class_ahead, fun_mk l_class_ahead c_class_ahead k_class_ahead, (fun_mk (st := topS 41) l_class_ahead c_class_ahead k_class_ahead).binds fun _ _ _ _ _ _ us hl => match us, hl with | [_], _ => rfl⟩
  have dn_longer : Dfn K mg "longer" (topS 42) ["stretch", "many"] := ⟨_, _, PySem.W.mg_of X G a_longer, fun_mk l_longer c_longer k_longer, (fun_mk (st := topS 42) l_longer c_longer k_longer).binds fun _ _ _ _ _ _ us hl => match us, hl with | [_, _], _ => rfl⟩
  have dn_book_of : Dfn K mg "book_of" (topS 43) ["place", "stretch"] := ⟨_, _, PySem.W.mg_of X G a_book_of, fun_mk l_book_of c_book_of k_book_of, (fun_mk (st := topS 43) l_book_of c_book_of k_book_of).binds fun _ _ _ _ _ _ us hl => match us, hl with | [_, _], _ => rfl⟩
  have dn__law_purse : Dfn K mg "_law_purse" (topS 45) ["_law_script", "_law_k"] := ⟨_, _, PySem.W.mg_of X G a__law_purse, fun_mk l__law_purse c__law_purse k__law_purse, (fun_mk (st := topS 45) l__law_purse c__law_purse k__law_purse).binds fun _ _ _ _ _ _ us hl => match us, hl with | [_, _], _ => rfl⟩
  have dn__law_toss : Dfn K mg "_law_toss" (topS 46) ["_law_purse_here", "_law_many"] := ⟨_, _, PySem.W.mg_of X G a__law_toss, fun_mk l__law_toss c__law_toss k__law_toss, (fun_mk (st := topS 46) l__law_toss c__law_toss k__law_toss).binds fun _ _ _ _ _ _ us hl => match us, hl with | [_, _], _ => rfl⟩
  have dn__law_divisor : Dfn K mg "_law_divisor" (topS 47) ["_law_a", "_law_b"] := ⟨_, _, PySem.W.mg_of X G a__law_divisor, fun_mk l__law_divisor c__law_divisor k__law_divisor, (fun_mk (st := topS 47) l__law_divisor c__law_divisor k__law_divisor).binds fun _ _ _ _ _ _ us hl => match us, hl with | [_, _], _ => rfl⟩
  have dn__law_multiple : Dfn K mg "_law_multiple" (topS 48) ["_law_some"] := ⟨_, _, PySem.W.mg_of X G a__law_multiple, fun_mk l__law_multiple c__law_multiple k__law_multiple, (fun_mk (st := topS 48) l__law_multiple c__law_multiple k__law_multiple).binds fun _ _ _ _ _ _ us hl => match us, hl with | [_], _ => rfl⟩
  have dn__law_row : Dfn K mg "_law_row" (topS 49) ["_law_purse_here"] := ⟨_, _, PySem.W.mg_of X G a__law_row, fun_mk l__law_row c__law_row k__law_row, (fun_mk (st := topS 49) l__law_row c__law_row k__law_row).binds fun _ _ _ _ _ _ us hl => match us, hl with | [_], _ => rfl⟩
  have dn__law_at : Dfn K mg "_law_at" (topS 50) ["_law_row_here_here", "_law_spot"] := ⟨_, _, PySem.W.mg_of X G a__law_at, fun_mk l__law_at c__law_at k__law_at, (fun_mk (st := topS 50) l__law_at c__law_at k__law_at).binds fun _ _ _ _ _ _ us hl => match us, hl with | [_, _], _ => rfl⟩
  have dn__law_spots : Dfn K mg "_law_spots" (topS 51) ["_law_purse_here", "_law_row_here_here", "_law_most"] := ⟨_, _, PySem.W.mg_of X G a__law_spots, fun_mk l__law_spots c__law_spots k__law_spots, (fun_mk (st := topS 51) l__law_spots c__law_spots k__law_spots).binds fun _ _ _ _ _ _ us hl => match us, hl with | [_, _, _], _ => rfl⟩
  have dn__law_bent : Dfn K mg "_law_bent" (topS 53) ["_law_purse_here", "_law_book_here"] := ⟨_, _, PySem.W.mg_of X G a__law_bent, fun_mk l__law_bent c__law_bent k__law_bent, (fun_mk (st := topS 53) l__law_bent c__law_bent k__law_bent).binds fun _ _ _ _ _ _ us hl => match us, hl with | [_, _], _ => rfl⟩
  have dn__law_new : Dfn K mg "_law_new" (topS 55) ["_law_purse_here", "_law_book_here", "_law_row_here_here", "_law_most"] := ⟨_, _, PySem.W.mg_of X G a__law_new, fun_mk l__law_new c__law_new k__law_new, (fun_mk (st := topS 55) l__law_new c__law_new k__law_new).binds fun _ _ _ _ _ _ us hl => match us, hl with | [_, _, _, _], _ => rfl⟩
  have dn__law_refused : Dfn K mg "_law_refused" (topS 56) ["_law_some"] := ⟨_, _, PySem.W.mg_of X G a__law_refused, fun_mk l__law_refused c__law_refused k__law_refused, (fun_mk (st := topS 56) l__law_refused c__law_refused k__law_refused).binds fun _ _ _ _ _ _ us hl => match us, hl with | [_], _ => rfl⟩
  have dn__law_stretch_right : Dfn K mg "_law_stretch_right" (topS 57) ["_law_purse_here", "_law_some"] := ⟨_, _, PySem.W.mg_of X G a__law_stretch_right, fun_mk l__law_stretch_right c__law_stretch_right k__law_stretch_right, (fun_mk (st := topS 57) l__law_stretch_right c__law_stretch_right k__law_stretch_right).binds fun _ _ _ _ _ _ us hl => match us, hl with | [_, _], _ => rfl⟩
  have dn__law_sums_right : Dfn K mg "_law_sums_right" (topS 58) ["_law_purse_here", "_law_row_here_here", "_law_other_row", "_law_spots_here"] := ⟨_, _, PySem.W.mg_of X G a__law_sums_right, fun_mk l__law_sums_right c__law_sums_right k__law_sums_right, (fun_mk (st := topS 58) l__law_sums_right c__law_sums_right k__law_sums_right).binds fun _ _ _ _ _ _ us hl => match us, hl with | [_, _, _, _], _ => rfl⟩
  refine ⟨PySem.W.fnOf "law" "law" (defArgs (topS 59)) (defBody (topS 59)) (defScope (topS 59)) .none kVlaw dclaw pmlaw anlaw cdlaw ctlaw, fun s u => .of_eq rfl, fun base _ _ => ?_⟩
  have h_is_integer : Has P w K mg base "is_integer" 1 ["thing"] spIsInt := ok_is_integer T dn_is_integer
  have h_is_told : Has P w K mg base "is_told" 2 ["thing"] spTold := ok_is_told T dn_is_told h_is_integer
  have h_is_item : Has P w K mg base "is_item" 3 ["thing"] spItem := ok_is_item T dn_is_item h_is_told
  have h_is_book : Has P w K mg base "is_book" 4 ["thing"] spIsBook := ok_is_book T dn_is_book h_is_item
  have h_need_book : Has P w K mg base "need_book" 5 ["book"] spNeedBook := ok_need_book T dn_need_book h_is_book
  have h_divisor_of : Has P w K mg base "divisor_of" 1 ["one", "other"] spGcd := ok_divisor_of T dn_divisor_of
  have h_multiple_of : Has P w K mg base "multiple_of" 2 ["numbers"] spLcm := ok_multiple_of T dn_multiple_of h_divisor_of
  have h_divides : Has P w K mg base "divides" 1 ["number", "other"] spDivides := ok_divides T dn_divides
  have h_do_fit : Has P w K mg base "do_fit" 2 ["one", "other"] spDoFit := ok_do_fit T dn_do_fit h_divides
  have h_conflicts_in : Has P w K mg base "conflicts_in" 3 ["book"] spConfs := ok_conflicts_in T dn_conflicts_in h_do_fit
  have h_conflict_in : Has P w K mg base "conflict_in" 4 ["book"] spConfIn := ok_conflict_in T dn_conflict_in h_conflicts_in
  have h_need_fitting : Has P w K mg base "need_fitting" 5 ["book"] spNeedFit := ok_need_fitting T dn_need_fitting h_conflict_in
  have h_need_possible : Has P w K mg base "need_possible" 6 ["book"] spNeedPoss := ok_need_possible T dn_need_possible h_need_book h_need_fitting
  have h_conflict_of : Has P w K mg base "conflict_of" 6 ["book"] spConfOf := ok_conflict_of T dn_conflict_of h_need_book h_conflict_in
  have h_all_conflicts : Has P w K mg base "all_conflicts" 6 ["book"] spAllConf := ok_all_conflicts T dn_all_conflicts h_need_book h_conflicts_in
  have h_inverse_of : Has P w K mg base "inverse_of" 1 ["number", "modulus"] spInv := ok_inverse_of T dn_inverse_of
  have h_met : Has P w K mg base "met" 2 ["one", "other"] spMet := ok_met T dn_met h_divisor_of h_inverse_of
  have h_class_by : Has P w K mg base "class_by" 3 ["items", "place"] spClsBy := ok_class_by T dn_class_by h_met
  have h_class_at : Has P w K mg base "class_at" 7 ["book", "place"] spClsAt := ok_class_at T dn_class_at h_need_possible h_class_by
  have h_first_from : Has P w K mg base "first_from" 1 ["own_class", "value"] spFirst := ok_first_from T dn_first_from
  have h_next_value : Has P w K mg base "next_value" 7 ["book", "place", "value"] spNextVal := ok_next_value T dn_next_value h_need_possible h_first_from h_class_by
  have h_is_stretch : HasD P w K mg base "is_stretch" 2 ["thing", "most"] spIsStretch := ok_is_stretch T dn_is_stretch h_is_integer
  have h_need_stretch : HasD P w K mg base "need_stretch" 3 ["stretch", "most"] spNeedStretch := ok_need_stretch T dn_need_stretch h_is_stretch
  have h_items_in : Has P w K mg base "items_in" 1 ["stretch"] spItems := ok_items_in T dn_items_in
  have h_need_right : HasX P w K mg base "need_right" 7 ["stretch"] (spNeedRight C) := ok_need_right (C := C) T TX dn_need_right h_conflict_in h_items_in
  have h_differences_in : Has P w K mg base "differences_in" 1 ["stretch"] spDiffs := ok_differences_in T dn_differences_in
  have h_differences : Has P w K mg base "differences" 4 ["stretch"] spDiffs := ok_differences T dn_differences h_need_stretch h_differences_in
  have h_stretch_conflict : Has P w K mg base "stretch_conflict" 4 ["stretch"] spSC := ok_stretch_conflict T dn_stretch_conflict h_need_stretch h_differences_in h_divides h_multiple_of
  have h_next_class : HasX P w K mg base "next_class" 8 ["stretch"] (spNextCls C) := ok_next_class (C := C) T dn_next_class h_need_stretch h_need_right h_class_by h_items_in
  have h_class_ahead : Has P w K mg base "class_ahead" 8 ["stretch"] spClsAhead := ok_class_ahead (C := C) T dn_class_ahead h_need_stretch h_need_right h_class_by h_items_in
  have h_longer : Has P w K mg base "longer" 8 ["stretch", "many"] spLonger := ok_longer (C := C) T dn_longer h_need_stretch h_need_right h_first_from h_class_by h_items_in
  have h_book_of : Has P w K mg base "book_of" 4 ["place", "stretch"] spBookOf := ok_book_of T dn_book_of h_need_stretch
  have h__law_purse : Has P w K mg base "_law_purse" 1 ["_law_script", "_law_k"] (spPurse K) := ok__law_purse T dn__law_purse
  have h__law_toss : Has P w K mg base "_law_toss" 1 ["_law_purse_here", "_law_many"] spToss := ok__law_toss T dn__law_toss
  have h__law_divisor : Has P w K mg base "_law_divisor" 1 ["_law_a", "_law_b"] spGcd := ok__law_divisor T dn__law_divisor
  have h__law_multiple : Has P w K mg base "_law_multiple" 2 ["_law_some"] spLawLcm := ok__law_multiple T dn__law_multiple h__law_divisor
  have h__law_row : Has P w K mg base "_law_row" 2 ["_law_purse_here"] spRow := ok__law_row T dn__law_row h__law_toss
  have h__law_at : Has P w K mg base "_law_at" 3 ["_law_row_here_here", "_law_spot"] spAt := ok__law_at T dn__law_at h__law_multiple
  have h__law_spots : Has P w K mg base "_law_spots" 2 ["_law_purse_here", "_law_row_here_here", "_law_most"] spSpots := ok__law_spots T dn__law_spots h__law_toss
  have h__law_bent : Has P w K mg base "_law_bent" 2 ["_law_purse_here", "_law_book_here"] spBent := ok__law_bent T dn__law_bent h__law_toss
  have h__law_new : Has P w K mg base "_law_new" 2 ["_law_purse_here", "_law_book_here", "_law_row_here_here", "_law_most"] spNew := ok__law_new T dn__law_new h__law_toss
  have h__law_refused : Has P w K mg base "_law_refused" 9 ["_law_some"] spRefused := ok__law_refused (C := C) T TX dn__law_refused h_next_class
  have h__law_stretch_right : Has P w K mg base "_law_stretch_right" 10 ["_law_purse_here", "_law_some"] spRight := ok__law_stretch_right (C := C) T dn__law_stretch_right h__law_toss h_book_of h_conflict_of h_stretch_conflict h__law_refused h_all_conflicts h_class_ahead h_next_class h_class_at h_longer h_next_value h_differences
  have h__law_sums_right : Has P w K mg base "_law_sums_right" 8 ["_law_purse_here", "_law_row_here_here", "_law_other_row", "_law_spots_here"] spSums := ok__law_sums_right T dn__law_sums_right h__law_at h_conflict_of h__law_new h_class_at h__law_bent h_all_conflicts
  exact ok_law T (fun_mk (st := topS 59) l_law c_law k_law) h__law_purse h__law_row h__law_toss h__law_at h__law_bent h__law_stretch_right h__law_spots h__law_sums_right
end
end KR
open PySem PySem.W PyProof.Rows in
set_option maxRecDepth 100000 in
set_option maxHeartbeats 0 in
theorem PySem.Challenge.cw_keeprests_k23_whole_books_and_stretches_holds : PySem.Challenge.rw_keeprests_k23_whole_books_and_stretches.Holds := by
  w_on; o_law; k_head; (case hw => w_witness2)
  k_fill
  refine L2.walk_ofK (l := PySem.Challenge.rw_keeprests_k23_whole_books_and_stretches) (n := 63) (k := 11) (x := "_law_script") (CX := L2.CX0) (sp := KR.spLaw) rfl (by decide) rfl ⟨rfl, by decide, by decide⟩ (fun w h Y => PySem.W.kIn_of Y) ?F (fun K H a ns hl _ hS => ⟨a, ns, rfl, hS, hl, fun _ => rfl⟩) (fun _ _ _ _ z => z)
  case F =>
    intro w mg fa h KX G hmg
    refine' KR.all_mk KX G hmg ?m_MOST_ITEMS ?m_MOST ?m_MOST_VALUES ?z_len ?z_abs ?z_all ?z_isinstance ?z_int ?z_bool ?z_tuple ?z_list ?z_range ?z_enumerate ?z_zip ?z_sorted ?z_set ?z_max ?z_min ?a_is_integer ?l_is_integer ?c_is_integer ?k_is_integer ?a_is_told ?l_is_told ?c_is_told ?k_is_told ?a_is_item ?l_is_item ?c_is_item ?k_is_item ?a_is_book ?l_is_book ?c_is_book ?k_is_book ?a_need_book ?l_need_book ?c_need_book ?k_need_book ?a_divisor_of ?l_divisor_of ?c_divisor_of ?k_divisor_of ?a_multiple_of ?l_multiple_of ?c_multiple_of ?k_multiple_of ?a_divides ?l_divides ?c_divides ?k_divides ?a_do_fit ?l_do_fit ?c_do_fit ?k_do_fit ?a_conflicts_in ?l_conflicts_in ?c_conflicts_in ?k_conflicts_in ?a_conflict_in ?l_conflict_in ?c_conflict_in ?k_conflict_in ?a_need_fitting ?l_need_fitting ?c_need_fitting ?k_need_fitting ?a_need_possible ?l_need_possible ?c_need_possible ?k_need_possible ?a_conflict_of ?l_conflict_of ?c_conflict_of ?k_conflict_of ?a_all_conflicts ?l_all_conflicts ?c_all_conflicts ?k_all_conflicts ?a_inverse_of ?l_inverse_of ?c_inverse_of ?k_inverse_of ?a_met ?l_met ?c_met ?k_met ?a_class_by ?l_class_by ?c_class_by ?k_class_by ?a_class_at ?l_class_at ?c_class_at ?k_class_at ?a_first_from ?l_first_from ?c_first_from ?k_first_from ?a_next_value ?l_next_value ?c_next_value ?k_next_value ?a_is_stretch ?l_is_stretch ?c_is_stretch ?k_is_stretch ?g_is_stretch ?gd_is_stretch ?a_need_stretch ?l_need_stretch ?c_need_stretch ?k_need_stretch ?g_need_stretch ?gd_need_stretch ?a_items_in ?l_items_in ?c_items_in ?k_items_in ?a_need_right ?l_need_right ?c_need_right ?k_need_right ?a_differences_in ?l_differences_in ?c_differences_in ?k_differences_in ?a_differences ?l_differences ?c_differences ?k_differences ?a_stretch_conflict ?l_stretch_conflict ?c_stretch_conflict ?k_stretch_conflict ?a_next_class ?l_next_class ?c_next_class ?k_next_class ?a_class_ahead ?l_class_ahead ?c_class_ahead ?k_class_ahead ?a_longer ?l_longer ?c_longer ?k_longer ?a_book_of ?l_book_of ?c_book_of ?k_book_of ?a__law_purse ?l__law_purse ?c__law_purse ?k__law_purse ?a__law_toss ?l__law_toss ?c__law_toss ?k__law_toss ?a__law_divisor ?l__law_divisor ?c__law_divisor ?k__law_divisor ?a__law_multiple ?l__law_multiple ?c__law_multiple ?k__law_multiple ?a__law_row ?l__law_row ?c__law_row ?k__law_row ?a__law_at ?l__law_at ?c__law_at ?k__law_at ?a__law_spots ?l__law_spots ?c__law_spots ?k__law_spots ?a__law_bent ?l__law_bent ?c__law_bent ?k__law_bent ?a__law_new ?l__law_new ?c__law_new ?k__law_new ?a__law_refused ?l__law_refused ?c__law_refused ?k__law_refused ?a__law_stretch_right ?l__law_stretch_right ?c__law_stretch_right ?k__law_stretch_right ?a__law_sums_right ?l__law_sums_right ?c__law_sums_right ?k__law_sums_right ?a_law ?l_law ?c_law ?k_law ?u_a ?u_l ?u_b ?u_sa ?u_ex ?u_ty ?u_k ?u_ga ?u_gg ?u_hd ?u_n1 ?u_n2 ?u_is ?u_ss ?i_f ?i_t ?i_l ?i_c ?i_k ?r_a ?r_ga ?r_ty ?r_rd ?r_fc
    (case m_MOST_ITEMS => k_is)
    (case m_MOST => k_is)
    (case m_MOST_VALUES => k_is)
    (case z_len => k_is)
    (case z_abs => k_is)
    (case z_all => k_is)
    (case z_isinstance => k_is)
    (case z_int => k_is)
    (case z_bool => k_is)
    (case z_tuple => k_is)
    (case z_list => k_is)
    (case z_range => k_is)
    (case z_enumerate => k_is)
    (case z_zip => k_is)
    (case z_sorted => k_is)
    (case z_set => k_is)
    (case z_max => k_is)
    (case z_min => k_is)
    (case a_is_integer => k_is)
    (case l_is_integer => k_is)
    (case c_is_integer => k_is)
    (case k_is_integer => k_is)
    (case a_is_told => k_is)
    (case l_is_told => k_is)
    (case c_is_told => k_is)
    (case k_is_told => k_is)
    (case a_is_item => k_is)
    (case l_is_item => k_is)
    (case c_is_item => k_is)
    (case k_is_item => k_is)
    (case a_is_book => k_is)
    (case l_is_book => k_is)
    (case c_is_book => k_is)
    (case k_is_book => k_is)
    (case a_need_book => k_is)
    (case l_need_book => k_is)
    (case c_need_book => k_is)
    (case k_need_book => k_is)
    (case a_divisor_of => k_is)
    (case l_divisor_of => k_is)
    (case c_divisor_of => k_is)
    (case k_divisor_of => k_is)
    (case a_multiple_of => k_is)
    (case l_multiple_of => k_is)
    (case c_multiple_of => k_is)
    (case k_multiple_of => k_is)
    (case a_divides => k_is)
    (case l_divides => k_is)
    (case c_divides => k_is)
    (case k_divides => k_is)
    (case a_do_fit => k_is)
    (case l_do_fit => k_is)
    (case c_do_fit => k_is)
    (case k_do_fit => k_is)
    (case a_conflicts_in => k_is)
    (case l_conflicts_in => k_is)
    (case c_conflicts_in => k_is)
    (case k_conflicts_in => k_is)
    (case a_conflict_in => k_is)
    (case l_conflict_in => k_is)
    (case c_conflict_in => k_is)
    (case k_conflict_in => k_is)
    (case a_need_fitting => k_is)
    (case l_need_fitting => k_is)
    (case c_need_fitting => k_is)
    (case k_need_fitting => k_is)
    (case a_need_possible => k_is)
    (case l_need_possible => k_is)
    (case c_need_possible => k_is)
    (case k_need_possible => k_is)
    (case a_conflict_of => k_is)
    (case l_conflict_of => k_is)
    (case c_conflict_of => k_is)
    (case k_conflict_of => k_is)
    (case a_all_conflicts => k_is)
    (case l_all_conflicts => k_is)
    (case c_all_conflicts => k_is)
    (case k_all_conflicts => k_is)
    (case a_inverse_of => k_is)
    (case l_inverse_of => k_is)
    (case c_inverse_of => k_is)
    (case k_inverse_of => k_is)
    (case a_met => k_is)
    (case l_met => k_is)
    (case c_met => k_is)
    (case k_met => k_is)
    (case a_class_by => k_is)
    (case l_class_by => k_is)
    (case c_class_by => k_is)
    (case k_class_by => k_is)
    (case a_class_at => k_is)
    (case l_class_at => k_is)
    (case c_class_at => k_is)
    (case k_class_at => k_is)
    (case a_first_from => k_is)
    (case l_first_from => k_is)
    (case c_first_from => k_is)
    (case k_first_from => k_is)
    (case a_next_value => k_is)
    (case l_next_value => k_is)
    (case c_next_value => k_is)
    (case k_next_value => k_is)
    (case a_is_stretch => k_is)
    (case l_is_stretch => k_is)
    (case c_is_stretch => k_is)
    (case k_is_stretch => k_is)
    (case g_is_stretch => k_is)
    (case gd_is_stretch => first | rfl | decide +kernel)
    (case a_need_stretch => k_is)
    (case l_need_stretch => k_is)
    (case c_need_stretch => k_is)
    (case k_need_stretch => k_is)
    (case g_need_stretch => k_is)
    (case gd_need_stretch => first | rfl | decide +kernel)
    (case a_items_in => k_is)
    (case l_items_in => k_is)
    (case c_items_in => k_is)
    (case k_items_in => k_is)
    (case a_need_right => k_is)
    (case l_need_right => k_is)
    (case c_need_right => k_is)
    (case k_need_right => k_is)
    (case a_differences_in => k_is)
    (case l_differences_in => k_is)
    (case c_differences_in => k_is)
    (case k_differences_in => k_is)
    (case a_differences => k_is)
    (case l_differences => k_is)
    (case c_differences => k_is)
    (case k_differences => k_is)
    (case a_stretch_conflict => k_is)
    (case l_stretch_conflict => k_is)
    (case c_stretch_conflict => k_is)
    (case k_stretch_conflict => k_is)
    (case a_next_class => k_is)
    (case l_next_class => k_is)
    (case c_next_class => k_is)
    (case k_next_class => k_is)
    (case a_class_ahead => k_is)
    (case l_class_ahead => k_is)
    (case c_class_ahead => k_is)
    (case k_class_ahead => k_is)
    (case a_longer => k_is)
    (case l_longer => k_is)
    (case c_longer => k_is)
    (case k_longer => k_is)
    (case a_book_of => k_is)
    (case l_book_of => k_is)
    (case c_book_of => k_is)
    (case k_book_of => k_is)
    (case a__law_purse => k_is)
    (case l__law_purse => k_is)
    (case c__law_purse => k_is)
    (case k__law_purse => k_is)
    (case a__law_toss => k_is)
    (case l__law_toss => k_is)
    (case c__law_toss => k_is)
    (case k__law_toss => k_is)
    (case a__law_divisor => k_is)
    (case l__law_divisor => k_is)
    (case c__law_divisor => k_is)
    (case k__law_divisor => k_is)
    (case a__law_multiple => k_is)
    (case l__law_multiple => k_is)
    (case c__law_multiple => k_is)
    (case k__law_multiple => k_is)
    (case a__law_row => k_is)
    (case l__law_row => k_is)
    (case c__law_row => k_is)
    (case k__law_row => k_is)
    (case a__law_at => k_is)
    (case l__law_at => k_is)
    (case c__law_at => k_is)
    (case k__law_at => k_is)
    (case a__law_spots => k_is)
    (case l__law_spots => k_is)
    (case c__law_spots => k_is)
    (case k__law_spots => k_is)
    (case a__law_bent => k_is)
    (case l__law_bent => k_is)
    (case c__law_bent => k_is)
    (case k__law_bent => k_is)
    (case a__law_new => k_is)
    (case l__law_new => k_is)
    (case c__law_new => k_is)
    (case k__law_new => k_is)
    (case a__law_refused => k_is)
    (case l__law_refused => k_is)
    (case c__law_refused => k_is)
    (case k__law_refused => k_is)
    (case a__law_stretch_right => k_is)
    (case l__law_stretch_right => k_is)
    (case c__law_stretch_right => k_is)
    (case k__law_stretch_right => k_is)
    (case a__law_sums_right => k_is)
    (case l__law_sums_right => k_is)
    (case c__law_sums_right => k_is)
    (case k__law_sums_right => k_is)
    (case a_law => k_is)
    (case l_law => k_is)
    (case c_law => k_is)
    (case k_law => k_is)
    (case u_a => k_is)
    (case u_l => k_is)
    (case u_b => first | rfl | decide +kernel)
    (case u_sa => k_is)
    (case u_ex => k_is)
    (case u_ty => k_is)
    (case u_k => k_is)
    (case u_ga => k_is)
    (case u_gg => k_is)
    (case u_hd => k_is)
    (case u_n1 => k_is)
    (case u_n2 => k_is)
    (case u_is => k_is)
    (case u_ss => first | rfl | k_is)
    (case i_f => k_is)
    (case i_t => k_is)
    (case i_l => k_is)
    (case i_c => k_is)
    (case i_k => k_is)
    (case r_a => k_is)
    (case r_ga => k_is)
    (case r_ty => k_is)
    (case r_rd => k_is)
    (case r_fc => k_is)
