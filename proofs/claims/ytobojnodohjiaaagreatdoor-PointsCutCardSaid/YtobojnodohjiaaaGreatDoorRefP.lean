
/- PointsTurn: plain facts. -/
import Derived.Test.YtobojnodohjiaaaGreatDoorEqQ
import Derived.Test.YtobojnodohjiaaaGreatDoorMeetP
set_option linter.unusedVariables false
set_option linter.unusedSimpArgs false
namespace Go.Proofs.YtobojnodohjiaaaGreatDoor
open Go.RowKit
attribute [local go_sem ↓] Go.wp_at_zero Go.wp_at_succ
theorem sgQ_mul (p q : Rat) : sgQ (p * q) = sgQ p * sgQ q := by
  rcases (show p = 0 ∨ 0 < p ∨ p < 0 by grind) with h | h | h
  · subst h; rw [Rat.zero_mul]; simp [sgQ]
  · rw [sgQ_mul_pos h, sgQ_pos h, Int.one_mul]
  · have e : p * q = -(-p * q) := by grind
    rw [e, sgQ_negate, sgQ_mul_pos (show 0 < -p by grind), sgQ_neg h]
    omega
theorem sq_zero {x y : Rat} (h : x * x + y * y ≤ 0) : x = 0 ∧ y = 0 := by
  have h1 := sq_nonneg x
  have h2 := sq_nonneg y
  have e1 : x * x = 0 := by grind
  have e2 : y * y = 0 := by grind
  exact ⟨(Rat.mul_eq_zero.1 e1).elim id id, (Rat.mul_eq_zero.1 e2).elim id id⟩
theorem between {u x : Rat} (hu : 0 < u) : x * (x - u) ≤ 0 ↔ 0 ≤ x ∧ x ≤ u := by
  constructor
  · intro h
    constructor
    · rcases (show 0 ≤ x ∨ x < 0 by grind) with h1 | h1
      · exact h1
      · have := Rat.mul_pos (show 0 < -x by grind) (show 0 < -(x - u) by grind)
        grind
    · rcases (show x ≤ u ∨ u < x by grind) with h1 | h1
      · exact h1
      · have := Rat.mul_pos (show 0 < x by grind) (show 0 < x - u by grind)
        grind
  · rintro ⟨h1, h2⟩
    have := Rat.mul_nonneg h1 (show 0 ≤ u - x by grind)
    grind
theorem on_key (a b p : Rat × Rat) (h : ple a b) (hc : (b.1 - a.1) * (p.2 - a.2) - (b.2 - a.2) * (p.1 - a.1) = 0) :
    (ple a p ∧ ple p b) ↔ (a.1 - p.1) * (b.1 - p.1) + (a.2 - p.2) * (b.2 - p.2) ≤ 0 := by
  rw [ple_iff] at h
  rw [ple_iff, ple_iff]
  obtain ⟨u, hu⟩ : ∃ u, b.1 - a.1 = u := ⟨_, rfl⟩
  obtain ⟨v, hv⟩ : ∃ v, b.2 - a.2 = v := ⟨_, rfl⟩
  obtain ⟨x, hx⟩ : ∃ x, p.1 - a.1 = x := ⟨_, rfl⟩
  obtain ⟨y, hy⟩ : ∃ y, p.2 - a.2 = y := ⟨_, rfl⟩
  have ed : (a.1 - p.1) * (b.1 - p.1) + (a.2 - p.2) * (b.2 - p.2) = x * (x - u) + y * (y - v) := by rw [← hu, ← hv, ← hx, ← hy]; grind
  rw [ed]
  rw [hu, hv, hx, hy] at hc
  have l1 : (a.1 < p.1 ∨ a.1 = p.1 ∧ a.2 ≤ p.2) ↔ (0 < x ∨ x = 0 ∧ 0 ≤ y) := by rw [← hx, ← hy]; grind
  have l2 : (p.1 < b.1 ∨ p.1 = b.1 ∧ p.2 ≤ b.2) ↔ (x < u ∨ x = u ∧ y ≤ v) := by rw [← hx, ← hy, ← hu, ← hv]; grind
  have l3 : 0 < u ∨ (u = 0 ∧ 0 ≤ v) := by rw [← hu, ← hv]; grind
  rw [l1, l2]
  clear l1 l2 ed hu hv hx hy h
  rcases l3 with h | ⟨h, h'⟩
  · have h1 : u * u * (x * (x - u) + y * (y - v)) = (u * u + v * v) * (x * (x - u)) := by
      have e1 : u * y = v * x := by grind
      have e2 : u * u * (y * (y - v)) = (u * y) * (u * y - u * v) := by grind
      have e3 : u * u * (x * (x - u) + y * (y - v)) = u * u * (x * (x - u)) + u * u * (y * (y - v)) := by grind
      rw [e3, e2, e1]
      grind
    have hp : 0 < u * u := Rat.mul_pos h h
    have hq : 0 < u * u + v * v := by have := sq_nonneg v; grind
    have h2 : x * (x - u) + y * (y - v) ≤ 0 ↔ x * (x - u) ≤ 0 := by
      constructor
      · intro g
        rcases (show x * (x - u) ≤ 0 ∨ 0 < x * (x - u) by grind) with g1 | g1
        · exact g1
        · have a1 := Rat.mul_pos hq g1
          rw [← h1] at a1
          have a2 := Rat.mul_nonneg (Rat.le_of_lt hp) (show 0 ≤ -(x * (x - u) + y * (y - v)) by grind)
          grind
      · intro g
        rcases (show x * (x - u) + y * (y - v) ≤ 0 ∨ 0 < x * (x - u) + y * (y - v) by grind) with g1 | g1
        · exact g1
        · have a1 := Rat.mul_pos hp g1
          rw [h1] at a1
          have a2 := Rat.mul_nonneg (Rat.le_of_lt hq) (show 0 ≤ -(x * (x - u)) by grind)
          grind
    rw [h2, between h]
    have hx0 : x = 0 → y = 0 := fun e => by
      rw [e] at hc
      have : u * y = 0 := by grind
      rcases Rat.mul_eq_zero.1 this with g | g
      · grind
      · exact g
    have hxu : x = u → y = v := fun e => by
      rw [e] at hc
      have : u * (y - v) = 0 := by grind
      rcases Rat.mul_eq_zero.1 this with g | g
      · grind
      · grind
    grind
  · subst h
    by_cases hv : v = 0
    · subst hv
      have h1 : x * (x - 0) + y * (y - 0) = x * x + y * y := by grind
      rw [h1]
      constructor
      · intro g
        have : x = 0 ∧ y = 0 := by grind
        rw [this.1, this.2]
        decide +kernel
      · intro g
        have := sq_zero g
        grind
    · have hx : x = 0 := by
        have : v * x = 0 := by grind
        rcases Rat.mul_eq_zero.1 this with g | g
        · exact absurd g hv
        · exact g
      subst hx
      have hv2 : 0 < v := by grind
      have h1 : (0 : Rat) * (0 - 0) + y * (y - v) = y * (y - v) := by grind
      rw [h1, between hv2]
      have := Rat.lt_irrefl (a := (0 : Rat))
      grind
theorem sgQ_le (q : Rat) : sgQ q ≤ 0 ↔ q ≤ 0 := by
  unfold sgQ
  split
  · grind
  · split
    · simp; grind
    · simp; grind
theorem on_eq (a b p : Rat × Rat) : onB a.1 a.2 b.1 b.2 p.1 p.2 = onR a.1 a.2 b.1 b.2 p.1 p.2 := by
  apply Bool.eq_iff_iff.2
  rw [on_iff]
  unfold onR
  rw [Bool.and_eq_true, beq_iff_eq, decide_eq_true_eq, sgQ_le]
  show tn a b p = 0 ∧ _ ↔ tn a b p = 0 ∧ _
  refine and_congr_right fun ht => ?_
  have hc : (b.1 - a.1) * (p.2 - a.2) - (b.2 - a.2) * (p.1 - a.1) = 0 := by
    unfold tn turn sgQ at ht
    split at ht
    · assumption
    · split at ht <;> simp at ht
  rcases ple_total a b with h | h
  · rw [(mm h).1, (mm h).2]
    exact on_key a b p h hc
  · rw [(mm' h).1, (mm' h).2, on_key b a p h (by grind)]
    have : (b.1 - p.1) * (a.1 - p.1) + (b.2 - p.2) * (a.2 - p.2) = (a.1 - p.1) * (b.1 - p.1) + (a.2 - p.2) * (b.2 - p.2) := by grind
    rw [this]
end Go.Proofs.YtobojnodohjiaaaGreatDoor
