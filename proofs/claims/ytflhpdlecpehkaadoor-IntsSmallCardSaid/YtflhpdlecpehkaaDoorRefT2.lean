
/- gussetref02: Neg, Sign, Mul. -/
import Derived.Test.YtflhpdlecpehkaaDoorPI
namespace Go.Proofs.YtflhpdlecpehkaaDoor
open Go.RowKit
set_option linter.unusedSimpArgs false
set_option linter.unusedVariables false
attribute [local go_sem ↓] Go.wp_at_zero Go.wp_at_succ
theorem sg_mul (a b : Int) : (if (decide (a < 0) != decide (b < 0)) then -((a.natAbs * b.natAbs : Nat) : Int) else ((a.natAbs * b.natAbs : Nat) : Int)) = a * b := by
  have h : ((a.natAbs * b.natAbs : Nat) : Int) = (a.natAbs : Int) * (b.natAbs : Int) := Int.natCast_mul _ _
  rw [h]
  by_cases h1 : a < 0 <;> by_cases h2 : b < 0
  · rw [Int.ofNat_natAbs_of_nonpos (by omega), Int.ofNat_natAbs_of_nonpos (by omega)]; simp [h1, h2, Int.neg_mul, Int.mul_neg]
  · rw [Int.ofNat_natAbs_of_nonpos (by omega), Int.natAbs_of_nonneg (by omega)]; simp [h1, h2, Int.neg_mul, Int.mul_neg]
  · rw [Int.natAbs_of_nonneg (by omega), Int.ofNat_natAbs_of_nonpos (by omega)]; simp [h1, h2, Int.neg_mul, Int.mul_neg]
  · rw [Int.natAbs_of_nonneg (by omega), Int.natAbs_of_nonneg (by omega)]; simp [h1, h2, Int.neg_mul, Int.mul_neg]
/-- the sign of an integer -/
def sgZ (a : Int) : Int := if a = 0 then 0 else if a < 0 then -1 else 1
end Go.Proofs.YtflhpdlecpehkaaDoor
