/- Numbers in words of 32 bits: values of rows of words, the words of a number, how many words a number has. No condition; nothing here speaks of the program. -/
namespace Go.Proofs.Ytenpbnmmadbkdaa

/-- 2^32 to the n -/
def bp (n : Nat) : Nat := 4294967296 ^ n
theorem bp_zero : bp 0 = 1 := rfl
theorem bp_succ (n : Nat) : bp (n + 1) = 4294967296 * bp n := by unfold bp; rw [Nat.pow_succ, Nat.mul_comm]
theorem bp_add (m n : Nat) : bp (m + n) = bp m * bp n := by unfold bp; rw [Nat.pow_add]
theorem bp_pos (n : Nat) : 0 < bp n := by unfold bp; exact Nat.pow_pos (by decide)
theorem bp_le {m n : Nat} (h : m ≤ n) : bp m ≤ bp n := by unfold bp; exact Nat.pow_le_pow_right (by decide) h
theorem bp_lt {m n : Nat} (h : m < n) : bp m < bp n := by unfold bp; exact Nat.pow_lt_pow_right (by decide) h
theorem bp_one : bp 1 = 4294967296 := rfl
theorem bp_two : bp 2 = 18446744073709551616 := by decide
theorem bp_eq (n : Nat) : bp n = 2 ^ (32 * n) := by unfold bp; rw [show (4294967296 : Nat) = 2 ^ 32 from rfl, ← Nat.pow_mul]

/-- the value of the first n words of f, least significant first -/
def vl (f : Nat → Nat) : Nat → Nat
  | 0 => 0
  | n + 1 => vl f n + f n * bp n

theorem vl_zero (f : Nat → Nat) : vl f 0 = 0 := rfl
theorem vl_succ (f : Nat → Nat) (n : Nat) : vl f (n + 1) = vl f n + f n * bp n := rfl

theorem vl_congr {f g : Nat → Nat} {n : Nat} (h : ∀ i, i < n → f i = g i) : vl f n = vl g n := by
  induction n with
  | zero => rfl
  | succ n ih => rw [vl_succ, vl_succ, ih (fun i hi => h i (by omega)), h n (by omega)]

theorem vl_lt {f : Nat → Nat} {n : Nat} (h : ∀ i, i < n → f i < 4294967296) : vl f n < bp n := by
  induction n with
  | zero => simp [vl, bp]
  | succ n ih =>
    have h1 := ih (fun i hi => h i (by omega))
    have h2 := h n (by omega)
    have h3 : f n * bp n ≤ 4294967295 * bp n := Nat.mul_le_mul_right _ (by omega)
    rw [vl_succ, bp_succ]
    omega

theorem vl_split (f : Nat → Nat) (m n : Nat) : vl f (m + n) = vl f m + bp m * vl (fun i => f (m + i)) n := by
  induction n with
  | zero => simp [vl]
  | succ n ih =>
    rw [← Nat.add_assoc, vl_succ, ih, vl_succ, Nat.mul_add, bp_add, Nat.add_assoc]
    congr 2
    rw [← Nat.mul_assoc, ← Nat.mul_assoc, Nat.mul_comm (f (m + n))]

theorem vl_cons (f : Nat → Nat) (n : Nat) : vl f (n + 1) = f 0 + 4294967296 * vl (fun i => f (i + 1)) n := by
  rw [Nat.add_comm n 1, vl_split]
  simp [vl, bp_one, bp_zero, Nat.add_comm]

theorem vl_tail {f : Nat → Nat} {m n : Nat} (hmn : m ≤ n) (h : ∀ i, m ≤ i → i < n → f i = 0) : vl f n = vl f m := by
  induction n with
  | zero => obtain rfl : m = 0 := by omega
            rfl
  | succ n ih =>
    by_cases hm : m = n + 1
    · rw [hm]
    · rw [vl_succ, ih (by omega) (fun i h1 h2 => h i h1 (by omega)), h n (by omega) (by omega)]; simp

theorem vl_mono {f : Nat → Nat} {m n : Nat} (h : m ≤ n) : vl f m ≤ vl f n := by
  induction n with
  | zero => obtain rfl : m = 0 := by omega
            exact Nat.le_refl _
  | succ n ih =>
    by_cases hm : m = n + 1
    · rw [hm]; exact Nat.le_refl _
    · have := ih (by omega); rw [vl_succ]; omega

theorem vl_top {f : Nat → Nat} {n : Nat} (h : f n ≠ 0) : bp n ≤ vl f (n + 1) := by
  rw [vl_succ]
  have : 1 * bp n ≤ f n * bp n := Nat.mul_le_mul_right _ (by omega)
  omega

/-- the first words agree above i, and differ at i -/
theorem vl_less {f g : Nat → Nat} {n i : Nat} (hi : i < n) (hf : ∀ j, j < n → f j < 4294967296) (he : ∀ j, i < j → j < n → f j = g j) (hl : f i < g i) : vl f n < vl g n := by
  have h1 : vl f n = vl f (i + 1) + bp (i + 1) * vl (fun j => f (i + 1 + j)) (n - (i + 1)) := by
    rw [← vl_split]; congr 1; omega
  have h2 : vl g n = vl g (i + 1) + bp (i + 1) * vl (fun j => g (i + 1 + j)) (n - (i + 1)) := by
    rw [← vl_split]; congr 1; omega
  have h3 : vl (fun j => f (i + 1 + j)) (n - (i + 1)) = vl (fun j => g (i + 1 + j)) (n - (i + 1)) := vl_congr (fun j hj => he _ (by omega) (by omega))
  have h4 : vl f (i + 1) < vl g (i + 1) := by
    rw [vl_succ, vl_succ]
    have h5 := vl_lt (f := f) (n := i) (fun j hj => hf j (by omega))
    have h6 : (f i + 1) * bp i ≤ g i * bp i := Nat.mul_le_mul_right _ (by omega)
    rw [Nat.add_mul] at h6
    omega
  rw [h1, h2, h3]; omega

/-- word i of n -/
def dg (n i : Nat) : Nat := n / bp i % 4294967296
theorem dg_lt (n i : Nat) : dg n i < 4294967296 := Nat.mod_lt _ (by decide)
theorem dg_zero (i : Nat) : dg 0 i = 0 := by simp [dg]

theorem vl_dg (n k : Nat) : vl (dg n) k = n % bp k := by
  induction k with
  | zero => simp [vl, bp, Nat.mod_one]
  | succ k ih =>
    rw [vl_succ, ih, dg, bp_succ, Nat.mul_comm 4294967296, Nat.mod_mul, Nat.mul_comm (bp k)]

theorem vl_dg_of_lt {n k : Nat} (h : n < bp k) : vl (dg n) k = n := by rw [vl_dg, Nat.mod_eq_of_lt h]

theorem dg_vl {f : Nat → Nat} {n : Nat} (hf : ∀ j, j < n → f j < 4294967296) {i : Nat} (hi : i < n) : dg (vl f n) i = f i := by
  have h1 : vl f n = vl f i + bp i * vl (fun j => f (i + j)) (n - i) := by
    rw [← vl_split]; congr 1; omega
  have h2 : vl f i < bp i := vl_lt (fun j hj => hf j (by omega))
  rw [dg, h1, Nat.add_mul_div_left _ _ (bp_pos i), Nat.div_eq_of_lt h2, Nat.zero_add, show n - i = (n - i - 1) + 1 by omega, vl_cons]
  rw [Nat.add_mul_mod_self_left]
  exact Nat.mod_eq_of_lt (hf _ hi)

theorem vl_inj {f g : Nat → Nat} {n : Nat} (hf : ∀ j, j < n → f j < 4294967296) (hg : ∀ j, j < n → g j < 4294967296) (h : vl f n = vl g n) {i : Nat} (hi : i < n) : f i = g i := by
  rw [← dg_vl hf hi, ← dg_vl hg hi, h]

/-- how many words n has -/
def wl (n : Nat) : Nat := if n = 0 then 0 else Nat.log2 n / 32 + 1

theorem wl_le {n k : Nat} : wl n ≤ k ↔ n < bp k := by
  unfold wl
  split
  · next h => subst h; simp [bp_pos]
  · next h =>
    rw [bp_eq, ← Nat.log2_lt h]
    omega
theorem lt_wl {n k : Nat} : k < wl n ↔ bp k ≤ n := by
  have := @wl_le n k
  omega
theorem lt_bp_wl (n : Nat) : n < bp (wl n) := wl_le.1 (Nat.le_refl _)
theorem wl_zero : wl 0 = 0 := rfl
theorem wl_pos {n : Nat} (h : 0 < n) : 0 < wl n := lt_wl.2 (by rw [bp_zero]; exact h)
theorem wl_eq_zero {n : Nat} : wl n = 0 ↔ n = 0 := by
  have := @wl_le n 0
  rw [bp_zero] at this
  omega
theorem wl_mono {m n : Nat} (h : m ≤ n) : wl m ≤ wl n := wl_le.2 (Nat.lt_of_le_of_lt h (lt_bp_wl n))
theorem wl_of {n k : Nat} (h1 : bp k ≤ n) (h2 : n < bp (k + 1)) : wl n = k + 1 := by
  have a := wl_le.2 h2
  have b := lt_wl.2 h1
  omega
theorem wl_add (a b : Nat) : wl (a + b) ≤ max (wl a) (wl b) + 1 := by
  apply wl_le.2
  rw [bp_succ]
  have h1 := Nat.lt_of_lt_of_le (lt_bp_wl a) (bp_le (Nat.le_max_left (wl a) (wl b)))
  have h2 := Nat.lt_of_lt_of_le (lt_bp_wl b) (bp_le (Nat.le_max_right (wl a) (wl b)))
  omega
theorem wl_mul (a b : Nat) : wl (a * b) ≤ wl a + wl b := by
  apply wl_le.2
  rw [bp_add]
  exact Nat.mul_lt_mul_of_lt_of_le (lt_bp_wl a) (Nat.le_of_lt (lt_bp_wl b)) (bp_pos _)
theorem wl_sub (a b : Nat) : wl (a - b) ≤ wl a := wl_mono (Nat.sub_le _ _)
theorem wl_div (a b : Nat) : wl (a / b) ≤ wl a := wl_mono (Nat.div_le_self _ _)
theorem wl_mod (a b : Nat) : wl (a % b) ≤ wl a := wl_mono (Nat.mod_le _ _)
theorem wl_mod_lt (a : Nat) {b : Nat} (h : 0 < b) : wl (a % b) ≤ wl b := wl_mono (Nat.le_of_lt (Nat.mod_lt _ h))
theorem wl_gcd_left (a b : Nat) (h : 0 < a) : wl (Nat.gcd a b) ≤ wl a := wl_mono (Nat.le_of_dvd h (Nat.gcd_dvd_left _ _))
theorem wl_gcd_right (a b : Nat) (h : 0 < b) : wl (Nat.gcd a b) ≤ wl b := wl_mono (Nat.le_of_dvd h (Nat.gcd_dvd_right _ _))
theorem wl_gcd (a b : Nat) : wl (Nat.gcd a b) ≤ max (wl a) (wl b) := by
  by_cases h : a = 0
  · subst h; rw [Nat.gcd_zero_left]; omega
  · have := wl_gcd_left a b (by omega); omega
theorem wl_small {n : Nat} (h : n < 4294967296) : wl n ≤ 1 := wl_le.2 (by rw [bp_one]; exact h)
theorem wl_le_two {n : Nat} : wl n ≤ 2 ↔ n < 18446744073709551616 := by rw [wl_le, bp_two]
theorem wl_succ (a : Nat) : wl (a + 1) ≤ wl a + 1 := by
  have := wl_add a 1
  have h1 : wl 1 ≤ 1 := wl_small (by decide)
  by_cases h : a = 0
  · subst h; have : wl (0 + 1) ≤ 1 := wl_small (by decide); omega
  · have := wl_pos (n := a) (by omega); omega

/-- the top word of a row is not 0: the row's value has as many words as the row -/
theorem wl_vl {f : Nat → Nat} {n : Nat} (hf : ∀ j, j < n → f j < 4294967296) (ht : 0 < n → f (n - 1) ≠ 0) : wl (vl f n) = n := by
  cases n with
  | zero => rfl
  | succ n => exact wl_of (vl_top (ht (by omega))) (vl_lt hf)

theorem dg_top {n : Nat} (h : 0 < n) : dg n (wl n - 1) ≠ 0 := by
  have hp := wl_pos h
  have h1 : bp (wl n - 1) ≤ n := lt_wl.1 (by omega)
  have h2 := lt_bp_wl n
  rw [show wl n = (wl n - 1) + 1 by omega, bp_succ, Nat.mul_comm] at h2
  have h3 : n / bp (wl n - 1) < 4294967296 := Nat.div_lt_of_lt_mul (by simpa using h2)
  have h4 : 0 < n / bp (wl n - 1) := Nat.div_pos h1 (bp_pos _)
  rw [dg, Nat.mod_eq_of_lt h3]
  omega

/-- words beyond the number's are 0 -/
theorem dg_high {n k i : Nat} (h : n < bp k) (hi : k ≤ i) : dg n i = 0 := by
  rw [dg, Nat.div_eq_of_lt (Nat.lt_of_lt_of_le h (bp_le hi))]

end Go.Proofs.Ytenpbnmmadbkdaa
