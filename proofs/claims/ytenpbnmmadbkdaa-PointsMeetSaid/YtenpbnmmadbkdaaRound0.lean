/- PointsRound: plain facts. -/
import Derived.Test.YtenpbnmmadbkdaaPts3
namespace Go.Proofs.Ytenpbnmmadbkdaa
open Go.RowKit
set_option linter.unusedSimpArgs false
set_option linter.unusedVariables false
attribute [local go_sem ↓] Go.wp_at_zero Go.wp_at_succ
theorem incirc_rot (a1 a2 b1 b2 c1 c2 d1 d2 : Rat) : incirc b1 b2 c1 c2 a1 a2 d1 d2 = incirc a1 a2 b1 b2 c1 c2 d1 d2 := by
  simp only [incirc, psum, List.take, List.foldl]; grind
theorem incirc_swap (a1 a2 b1 b2 c1 c2 d1 d2 : Rat) : incirc b1 b2 a1 a2 c1 c2 d1 d2 = -incirc a1 a2 b1 b2 c1 c2 d1 d2 := by
  simp only [incirc, psum, List.take, List.foldl]; grind
theorem incirc_a (a1 a2 b1 b2 c1 c2 : Rat) : incirc a1 a2 b1 b2 c1 c2 a1 a2 = 0 := by
  simp only [incirc, psum, List.take, List.foldl]; grind
theorem incirc_b (a1 a2 b1 b2 c1 c2 : Rat) : incirc a1 a2 b1 b2 c1 c2 b1 b2 = 0 := by
  simp only [incirc, psum, List.take, List.foldl]; grind
theorem incirc_c (a1 a2 b1 b2 c1 c2 : Rat) : incirc a1 a2 b1 b2 c1 c2 c1 c2 = 0 := by
  simp only [incirc, psum, List.take, List.foldl]; grind
theorem rect_1 (a1 a2 b1 b2 k : Rat) : incirc a1 a2 b1 b2 (b1 + -(b2 - a2) * k) (b2 + (b1 - a1) * k) (a1 + -(b2 - a2) * k) (a2 + (b1 - a1) * k) = 0 := by
  simp only [incirc, psum, List.take, List.foldl]; grind
theorem rect_2 (a1 a2 b1 b2 k : Rat) : incirc b1 b2 (b1 + -(b2 - a2) * k) (b2 + (b1 - a1) * k) (a1 + -(b2 - a2) * k) (a2 + (b1 - a1) * k) a1 a2 = 0 := by
  simp only [incirc, psum, List.take, List.foldl]; grind
theorem half_two : half + half = 1 := by decide +kernel
theorem thales (a1 a2 b1 b2 k : Rat) : incirc a1 a2 b1 b2 (b1 + -(b2 - a2) * k) (b2 + (b1 - a1) * k) ((a1 + (b1 + -(b2 - a2) * k)) * half) ((a2 + (b2 + (b1 - a1) * k)) * half)
    = half * half * (((b1 - a1) * (b1 - a1) + (b2 - a2) * (b2 - a2)) * (1 + k * k)) * ((b1 - a1) * (b2 + (b1 - a1) * k - a2) - (b2 - a2) * (b1 + -(b2 - a2) * k - a1)) := by
  have h := half_two
  generalize half = z at *
  obtain rfl : z = 1 / 2 := by grind
  simp only [incirc, psum, List.take, List.foldl]; grind
theorem sq_nonneg (x : Rat) : 0 ≤ x * x := by
  rcases Rat.le_total (a := 0) (b := x) with h | h
  · exact Rat.mul_nonneg h h
  · have := Rat.mul_nonneg (show 0 ≤ -x by grind) (show 0 ≤ -x by grind); grind
theorem sq_pos {x : Rat} (h : x ≠ 0) : 0 < x * x := by
  have h1 := sq_nonneg x
  have h2 : x * x ≠ 0 := fun e => h ((Rat.mul_eq_zero.1 e).elim id id)
  grind
theorem sgQ_mul_pos {p q : Rat} (h : 0 < p) : sgQ (p * q) = sgQ q := by
  unfold sgQ
  have h0 : p * q = 0 ↔ q = 0 := ⟨fun e => (Rat.mul_eq_zero.1 e).elim (fun e => by grind) id, fun e => by rw [e, Rat.mul_zero]⟩
  have h1 : p * q < 0 ↔ q < 0 := by
    constructor
    · intro e
      rcases Rat.le_total (a := 0) (b := q) with h2 | h2
      · have := Rat.mul_nonneg (Rat.le_of_lt h) h2; grind
      · by_cases h3 : q = 0
        · subst h3; rw [Rat.mul_zero] at e; exact absurd e (Rat.lt_irrefl)
        · grind
    · intro e
      have := Rat.mul_pos h (show 0 < -q by grind); grind
  simp only [h0, h1]
theorem sgQ_sq {t : Rat} (h : sgQ t ≠ 0) : sgQ t * sgQ t = 1 := by
  unfold sgQ at *
  split at h
  · exact absurd rfl h
  · rename_i h1; rw [if_neg h1]; split <;> rfl
/-- the midpoint of the hypotenuse lies inside the circle -/
theorem thales_in (a1 a2 b1 b2 k : Rat) (h : turn a1 a2 b1 b2 (b1 + -(b2 - a2) * k) (b2 + (b1 - a1) * k) ≠ 0) :
    sgQ (incirc a1 a2 b1 b2 (b1 + -(b2 - a2) * k) (b2 + (b1 - a1) * k) ((a1 + (b1 + -(b2 - a2) * k)) * half) ((a2 + (b2 + (b1 - a1) * k)) * half)) = turn a1 a2 b1 b2 (b1 + -(b2 - a2) * k) (b2 + (b1 - a1) * k) := by
  rw [thales]
  unfold turn at h ⊢
  rw [sgQ_mul_pos]
  have h1 := sq_nonneg (b1 - a1)
  have h2 := sq_nonneg (b2 - a2)
  have h3 := sq_nonneg k
  have h4 : (b1 - a1) * (b1 - a1) + (b2 - a2) * (b2 - a2) ≠ 0 := by
    intro e
    have e1 : (b1 - a1) * (b1 - a1) = 0 := by grind
    have e2 : (b2 - a2) * (b2 - a2) = 0 := by grind
    have e3 : b1 - a1 = 0 := (Rat.mul_eq_zero.1 e1).elim id id
    have e4 : b2 - a2 = 0 := (Rat.mul_eq_zero.1 e2).elim id id
    apply h
    rw [e3, e4, Rat.zero_mul, Rat.zero_mul, Rat.sub_self]
    rfl
  have h5 : 0 < half * half := by decide +kernel
  exact Rat.mul_pos h5 (Rat.mul_pos (by grind) (by grind))
/-- whether the hypotenuse is long: the case of PointsRound -/
def tt (a1 a2 b1 b2 k : Rat) : Int := turn a1 a2 b1 b2 (b1 + -(b2 - a2) * k) (b2 + (b1 - a1) * k)

end Go.Proofs.Ytenpbnmmadbkdaa
