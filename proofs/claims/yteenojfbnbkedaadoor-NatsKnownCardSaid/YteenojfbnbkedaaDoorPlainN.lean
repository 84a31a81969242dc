
/- plain facts for the laws of gussetlaw01. -/
import Derived.Test.YteenojfbnbkedaaDoorPJ
namespace Go.Proofs.YteenojfbnbkedaaDoor
open Go.RowKit
set_option linter.unusedSimpArgs false
set_option linter.unusedVariables false
attribute [local go_sem ↓] Go.wp_at_zero Go.wp_at_succ
theorem cmpI_nonneg {x y : Int} (h : y ≤ x) : ¬ cmpI x y < 0 := by
  rcases Int.lt_or_eq_of_le h with h | h
  · rw [cmpI_gt h]; decide
  · rw [cmpI_eq h.symm]; decide
theorem cmpI_nonpos {x y : Int} (h : x ≤ y) : ¬ 0 < cmpI x y := by
  rcases Int.lt_or_eq_of_le h with h | h
  · rw [cmpI_lt h]; decide
  · rw [cmpI_eq h]; decide
theorem dv1 (a b c : Nat) (h : 0 < b) : (a * b + c % b) / b = a := by
  rw [Nat.add_comm, Nat.add_mul_div_right _ _ h, Nat.div_eq_of_lt (Nat.mod_lt _ h), Nat.zero_add]
theorem dv2 (a b c : Nat) : (a * b + c % b) % b = c % b := by
  rw [Nat.add_comm, Nat.add_mul_mod_self_right, Nat.mod_mod]
theorem gc1 (a b : Nat) : Nat.gcd b (a % b) = Nat.gcd a b := by
  rw [Nat.gcd_comm b, ← Nat.gcd_rec, Nat.gcd_comm]
theorem gc2 (a b : Nat) (h : 0 < b) : Nat.gcd (a / Nat.gcd a b) (b / Nat.gcd a b) = 1 := by
  have h1 := Nat.gcd_pos_of_pos_right a h
  have h2 := Nat.gcd_mul_left (Nat.gcd a b) (a / Nat.gcd a b) (b / Nat.gcd a b)
  rw [Nat.mul_div_cancel' (Nat.gcd_dvd_left a b), Nat.mul_div_cancel' (Nat.gcd_dvd_right a b)] at h2
  exact Nat.eq_of_mul_eq_mul_left h1 (by rw [Nat.mul_one]; exact h2.symm)
theorem gc3 (a b : Nat) (h : 0 < b) : ¬ Nat.gcd a b = 0 := Nat.ne_of_gt (Nat.gcd_pos_of_pos_right _ h)
theorem gc4 (a b : Nat) (h : 0 < b) : 0 < Nat.gcd a b := Nat.gcd_pos_of_pos_right _ h
theorem gc5 (a b : Nat) : a % Nat.gcd a b = 0 := Nat.mod_eq_zero_of_dvd (Nat.gcd_dvd_left _ _)
theorem gc6 (a b : Nat) : b % Nat.gcd a b = 0 := Nat.mod_eq_zero_of_dvd (Nat.gcd_dvd_right _ _)

end Go.Proofs.YteenojfbnbkedaaDoor
