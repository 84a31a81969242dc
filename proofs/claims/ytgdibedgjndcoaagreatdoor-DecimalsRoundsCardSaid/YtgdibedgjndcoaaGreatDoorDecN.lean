
/- number theory of decimal expansions. No condition but those stated. -/
import Derived.Test.YtgdibedgjndcoaaGreatDoorDecC
import Derived.Test.YtgdibedgjndcoaaGreatDoorRoundD0
namespace Go.Proofs.YtgdibedgjndcoaaGreatDoor
open Go.RowKit
set_option linter.unusedSimpArgs false
set_option linter.unusedVariables false
theorem wo_eq (f : Nat) : ∀ (k x : Nat), x = f ^ (wo f x k).2 * (wo f x k).1
  | 0, x => by simp [wo]
  | k + 1, x => by
    unfold wo
    split
    · rename_i h
      have ih := wo_eq f k (x / f)
      have hd := Nat.mul_div_cancel' (Nat.dvd_of_mod_eq_zero h)
      show x = f ^ ((wo f (x / f) k).2 + 1) * (wo f (x / f) k).1
      rw [Nat.pow_succ, Nat.mul_comm (f ^ _) f, Nat.mul_assoc, ← ih, hd]
    · simp
theorem wo_end (f : Nat) : ∀ (k x : Nat), (wo f x k).2 < k → ¬ (wo f x k).1 % f = 0
  | 0, x, h => absurd h (by omega)
  | k + 1, x, h => by
    unfold wo at h ⊢
    split
    · rename_i h2
      rw [if_pos h2] at h
      exact wo_end f k (x / f) (by simpa using h)
    · rename_i h2
      exact h2
theorem cyr_end {d a : Nat} : ∀ (k p j : Nat), p = 10 ^ j % d → 101 ≤ j + k → a + cyr d a k p j ≤ 100 → 10 ^ (cyr d a k p j) % d = 1 ∧ j < cyr d a k p j ∧ ∀ i, j < i → i < cyr d a k p j → ¬ 10 ^ i % d = 1
  | 0, p, j, _, h1, h2 => by unfold cyr at h2; omega
  | k + 1, p, j, hp, h1, h2 => by
    have e : p * 10 % d = 10 ^ (j + 1) % d := by rw [hp, Nat.pow_succ, Nat.mod_mul_mod]
    by_cases h : p * 10 % d = 1 ∨ 100 < a + (j + 1)
    · rw [cyr_stop h] at h2 ⊢
      refine ⟨?_, by omega, fun i h3 h4 => by omega⟩
      rcases h with h | h
      · rw [← e]; exact h
      · omega
    · rw [cyr_go h] at h2 ⊢
      obtain ⟨g1, g2, g3⟩ := cyr_end k _ (j + 1) e (by omega) h2
      refine ⟨g1, by omega, fun i h3 h4 => ?_⟩
      by_cases hi : i = j + 1
      · subst hi; rw [← e]; exact fun h5 => h (.inl h5)
      · exact g3 i (by omega) h4
/-- the multiplier -/
def mul9 (n : Nat) : Nat := if n = 0 then 1 else 10 ^ n - 1
theorem ten_split (k : Nat) : 10 ^ k = 2 ^ k * 5 ^ k := by rw [← Nat.mul_pow]
theorem mul9_odd (n : Nat) : mul9 n % 2 = 1 := by
  unfold mul9
  split
  · rfl
  · rename_i h
    obtain ⟨k, rfl⟩ : ∃ k, n = k + 1 := ⟨n - 1, by omega⟩
    have : 0 < 10 ^ k := Nat.pow_pos (by decide)
    rw [Nat.pow_succ]; omega
theorem mul9_five (n : Nat) : mul9 n % 5 = 1 ∨ mul9 n % 5 = 4 := by
  unfold mul9
  split
  · left; rfl
  · rename_i h
    obtain ⟨k, rfl⟩ : ∃ k, n = k + 1 := ⟨n - 1, by omega⟩
    have : 0 < 10 ^ k := Nat.pow_pos (by decide)
    rw [Nat.pow_succ]; omega
theorem cop_pow {a b : Nat} (h : Nat.Coprime a b) (k : Nat) : Nat.Coprime a (b ^ k) := Nat.Coprime.pow_right k h
theorem dvd_pred {d n : Nat} (hd : 1 < d) : 10 ^ n % d = 1 ↔ d ∣ 10 ^ n - 1 := by
  have hp : 0 < 10 ^ n := Nat.pow_pos (by decide)
  constructor
  · intro h
    have := Nat.div_add_mod (10 ^ n) d
    rw [h] at this
    exact ⟨10 ^ n / d, by omega⟩
  · rintro ⟨c, hc⟩
    have : 10 ^ n = d * c + 1 := by omega
    rw [this, Nat.mul_add_mod, Nat.mod_eq_of_lt hd]
section
variable {n : Nat} (hn : 0 < n) (hl : cya n + cyl n ≤ 100)
include hn hl
theorem cyc_parts : ∃ t f : Nat, n = 2 ^ t * (5 ^ f * cyd n) ∧ cya n = max t f ∧ ¬ cyd n % 2 = 0 ∧ ¬ cyd n % 5 = 0 ∧ 0 < cyd n := by
  have e1 := wo_eq 2 101 n
  have e2 := wo_eq 5 101 (wo 2 n 101).1
  have ha : cya n ≤ 100 := by omega
  unfold cya at ha
  have s1 := wo_end 2 101 n (by omega)
  have s2 := wo_end 5 101 (wo 2 n 101).1 (by omega)
  have p1 := wo_pos 2 101 n hn
  have p2 := wo_pos 5 101 _ p1
  refine ⟨_, _, e1.trans (congrArg (fun z => 2 ^ (wo 2 n 101).2 * z) e2), rfl, ?_, s2, p2⟩
  intro h
  apply s1
  rw [e2]
  have := Nat.mul_mod (5 ^ (wo 5 (wo 2 n 101).1 101).2) (wo 5 (wo 2 n 101).1 101).1 2
  unfold cyd at h
  rw [this, h, Nat.mul_zero, Nat.zero_mod]
theorem cyd_cop : Nat.Coprime (cyd n) 10 := by
  obtain ⟨t, f, _, _, h2, h5, _⟩ := cyc_parts hn hl
  have c2 : Nat.Coprime (cyd n) 2 := by
    have : Nat.gcd 2 (cyd n) = 1 := by rw [Nat.gcd_rec, show cyd n % 2 = 1 by omega]; rfl
    rw [Nat.coprime_comm]; exact this
  have c5 : Nat.Coprime (cyd n) 5 := by
    have : Nat.gcd 5 (cyd n) = 1 := by
      rw [Nat.gcd_rec]
      have h : cyd n % 5 = 1 ∨ cyd n % 5 = 2 ∨ cyd n % 5 = 3 ∨ cyd n % 5 = 4 := by omega
      rcases h with h | h | h | h <;> rw [h]
      all_goals decide
    rw [Nat.coprime_comm]; exact this
  exact Nat.Coprime.mul_right c2 c5
theorem cyl_facts : (cyl n = 0 ∧ cyd n = 1) ∨ (0 < cyl n ∧ 1 < cyd n ∧ 10 ^ cyl n % cyd n = 1 ∧ ∀ i, 0 < i → i < cyl n → ¬ 10 ^ i % cyd n = 1) := by
  obtain ⟨t, f, _, _, _, _, hp⟩ := cyc_parts hn hl
  unfold cyl at hl ⊢
  by_cases h : cyd n = 1
  · left; rw [if_pos h]; exact ⟨rfl, h⟩
  · right
    rw [if_neg h] at hl ⊢
    obtain ⟨g1, g2, g3⟩ := cyr_end (a := cya n) 101 1 0 (by rw [Nat.pow_zero, Nat.mod_eq_of_lt (by omega)]) (by omega) hl
    exact ⟨g2, by omega, g1, g3⟩
theorem cyc_1 : n ∣ 10 ^ cya n * mul9 (cyl n) := by
  obtain ⟨t, f, e, ha, _, _, _⟩ := cyc_parts hn hl
  have h1 : 2 ^ t * 5 ^ f ∣ 10 ^ cya n := by
    rw [ten_split]
    exact Nat.mul_dvd_mul (Nat.pow_dvd_pow 2 (by omega)) (Nat.pow_dvd_pow 5 (by omega))
  have h2 : cyd n ∣ mul9 (cyl n) := by
    rcases cyl_facts hn hl with ⟨_, h⟩ | ⟨h0, h1, h2, _⟩
    · rw [h]; exact Nat.one_dvd _
    · unfold mul9; rw [if_neg (by omega)]
      exact (dvd_pred h1).1 h2
  have h3 := Nat.mul_dvd_mul h1 h2
  rwa [Nat.mul_assoc, ← e] at h3
theorem cyc_2 {B : Nat} (hB : cya n = B + 1) : ¬ n ∣ 10 ^ B * mul9 (cyl n) := by
  obtain ⟨t, f, e, ha, _, _, _⟩ := cyc_parts hn hl
  intro h
  have m2 := mul9_odd (cyl n)
  have m5 := mul9_five (cyl n)
  generalize mul9 (cyl n) = M at *
  rcases (show t = B + 1 ∨ f = B + 1 by omega) with ht | hf
  · subst ht
    have h1 : 2 ^ (B + 1) ∣ 2 ^ B * (5 ^ B * M) := by
      rw [← Nat.mul_assoc, ← ten_split]
      exact Nat.dvd_trans ⟨_, e⟩ h
    rw [Nat.pow_succ] at h1
    have h2 := Nat.dvd_of_mul_dvd_mul_left (Nat.pow_pos (by decide)) h1
    have h3 : Nat.Coprime 2 (5 ^ B) := cop_pow (by decide) B
    have h4 := h3.dvd_of_dvd_mul_left h2
    omega
  · subst hf
    have h1 : 5 ^ (B + 1) ∣ 5 ^ B * (2 ^ B * M) := by
      rw [← Nat.mul_assoc, Nat.mul_comm (5 ^ B), ← ten_split]
      refine Nat.dvd_trans ⟨2 ^ t * cyd n, ?_⟩ h
      rw [← Nat.mul_assoc, Nat.mul_comm (5 ^ (B + 1)), Nat.mul_assoc]; exact e
    rw [Nat.pow_succ] at h1
    have h2 := Nat.dvd_of_mul_dvd_mul_left (Nat.pow_pos (by decide)) h1
    have h3 : Nat.Coprime 5 (2 ^ B) := cop_pow (by decide) B
    have h4 := h3.dvd_of_dvd_mul_left h2
    omega
theorem cyc_3 {i : Nat} (h0 : 0 < i) (h1 : i < cyl n) : ¬ n ∣ 10 ^ cya n * mul9 i := by
  obtain ⟨t, f, e, ha, _, _, _⟩ := cyc_parts hn hl
  rcases cyl_facts hn hl with ⟨h, _⟩ | ⟨_, g1, _, g3⟩
  · omega
  · intro h
    have h2 : cyd n ∣ 10 ^ cya n * mul9 i := Nat.dvd_trans ⟨2 ^ t * 5 ^ f, by rw [Nat.mul_comm, Nat.mul_assoc]; exact e⟩ h
    have h3 := (cop_pow (cyd_cop hn hl) (cya n)).dvd_of_dvd_mul_left h2
    unfold mul9 at h3
    rw [if_neg (by omega)] at h3
    exact g3 i h0 h1 ((dvd_pred g1).2 h3)
theorem cyc_4 (h0 : ¬ cyl n = 0) : ¬ n ∣ 10 ^ cya n * mul9 0 := by
  obtain ⟨t, f, e, ha, _, _, _⟩ := cyc_parts hn hl
  rcases cyl_facts hn hl with ⟨h, _⟩ | ⟨_, g1, _, _⟩
  · exact absurd h h0
  · intro h
    have h2 : cyd n ∣ 10 ^ cya n * mul9 0 := Nat.dvd_trans ⟨2 ^ t * 5 ^ f, by rw [Nat.mul_comm, Nat.mul_assoc]; exact e⟩ h
    have h3 := (cop_pow (cyd_cop hn hl) (cya n)).dvd_of_dvd_mul_left h2
    unfold mul9 at h3
    rw [if_pos rfl] at h3
    have := Nat.le_of_dvd (by decide) h3
    omega
end
theorem den_dvd (a : Rat) (N : Nat) : (a * ((N : Int) : Rat)).den = 1 ↔ a.den ∣ N := by
  rw [Rat.den_mul, Rat.den_intCast, Rat.num_intCast, Nat.mul_one, Int.natAbs_mul, Int.natAbs_natCast]
  have hp := a.den_pos
  have hc : Nat.Coprime a.den a.num.natAbs := by have := a.reduced; rwa [Nat.coprime_comm] at this
  have hg : Nat.gcd (a.num.natAbs * N) a.den = Nat.gcd N a.den := by
    rw [Nat.gcd_comm, Nat.Coprime.gcd_mul_left_cancel_right N a.reduced, Nat.gcd_comm]
  rw [hg]
  constructor
  · intro h
    have hd : Nat.gcd N a.den ∣ a.den := Nat.gcd_dvd_right _ _
    have e := Nat.mul_div_cancel' hd
    rw [h, Nat.mul_one] at e
    rw [← e]; exact Nat.gcd_dvd_left _ _
  · intro h
    have : Nat.gcd N a.den = a.den := by rw [Nat.gcd_comm]; exact Nat.gcd_eq_left h
    rw [this, Nat.div_self hp]
theorem ten_cast (m : Nat) : (10 : Rat) ^ m = (((10 ^ m : Nat) : Int) : Rat) := by
  rw [Rat.intCast_natCast, Rat.natCast_pow]; rfl
theorem rwz_eq (a : Rat) (m n : Nat) : rwz a m n = a * (((10 ^ m * mul9 n : Nat) : Int) : Rat) := by
  unfold rwz mul9
  by_cases h : n = 0
  · rw [if_pos h, if_pos h, Nat.mul_one, ten_cast]
  · rw [if_neg h, if_neg h, Int.natCast_mul, Rat.intCast_mul, ← Rat.mul_assoc, ten_cast, ten_cast]
    congr 1
    have : 0 < 10 ^ n := Nat.pow_pos (by decide)
    rw [show ((10 ^ n - 1 : Nat) : Int) = ((10 ^ n : Nat) : Int) - 1 by omega, Rat.intCast_sub]
    rfl
theorem rwz_den (a : Rat) (m n : Nat) : (rwz a m n).den = 1 ↔ a.den ∣ 10 ^ m * mul9 n := by rw [rwz_eq]; exact den_dvd _ _
theorem den_addi (a : Rat) (k : Int) : (a + (k : Rat)).den = a.den := by
  rw [Rat.add_def', Rat.den_intCast, Rat.num_intCast, Nat.mul_one]
  have hp := a.den_pos
  rw [Rat.den_mkRat, if_neg (by omega)]
  have e : Nat.gcd a.den (a.num * ((1 : Nat) : Int) + k * (a.den : Int)).natAbs = 1 := by
    have h1 : Int.gcd (a.num * ((1 : Nat) : Int) + k * (a.den : Int)) (a.den : Int) = Int.gcd a.num (a.den : Int) := by
      rw [show a.num * ((1 : Nat) : Int) = a.num by omega, Int.gcd_add_mul_right_left]
    have h2 : Int.gcd a.num (a.den : Int) = 1 := by
      have := a.reduced
      unfold Int.gcd; rw [Int.natAbs_natCast]; exact this
    rw [Nat.gcd_comm]
    unfold Int.gcd at h1 h2
    rw [Int.natAbs_natCast] at h1 h2
    rw [h1]; exact h2
  rw [e, Nat.div_one]
/-- Cycle's answer, as the law asks it -/
theorem cyc_cases (n : Nat) : (cyc n = (0, 0, 3) ∧ 100 < cya n + cyl n) ∨ (cyc n = ((cya n : Int), (cyl n : Int), 0) ∧ cya n + cyl n ≤ 100) := by
  unfold cyc
  by_cases h : 100 < cya n + cyl n
  · left; rw [if_pos h]; exact ⟨rfl, h⟩
  · right; rw [if_neg h]; exact ⟨rfl, by omega⟩
end Go.Proofs.YtgdibedgjndcoaaGreatDoor
