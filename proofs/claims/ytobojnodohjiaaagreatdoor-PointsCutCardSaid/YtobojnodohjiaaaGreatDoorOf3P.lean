
/- plain facts of signs and turns. No condition but those stated. -/
import Derived.Test.YtobojnodohjiaaaGreatDoorPX
import Derived.Test.YtobojnodohjiaaaGreatDoorPts3
set_option linter.unusedVariables false
set_option linter.unusedSimpArgs false
namespace Go.Proofs.YtobojnodohjiaaaGreatDoor
open Go.RowKit
attribute [local go_sem ↓] Go.wp_at_zero Go.wp_at_succ
theorem sgQ_cases (q : Rat) : sgQ q = -1 ∨ sgQ q = 0 ∨ sgQ q = 1 := by
  unfold sgQ
  split
  · exact .inr (.inl rfl)
  · split
    · exact .inl rfl
    · exact .inr (.inr rfl)
def tn (a b c : Rat × Rat) : Int := turn a.1 a.2 b.1 b.2 c.1 c.2
theorem tn_cases (a b c : Rat × Rat) : tn a b c = -1 ∨ tn a b c = 0 ∨ tn a b c = 1 := sgQ_cases _
theorem wrap_tn {s t : Int} (hs : s = -1 ∨ s = 0 ∨ s = 1) (ht : t = -1 ∨ t = 0 ∨ t = 1) : IntKind.i64.wrap (s * t) = s * t := by
  rcases hs with rfl | rfl | rfl <;> rcases ht with rfl | rfl | rfl <;> rfl
def crs (a b c d : Rat × Rat) : Rat := (b.1 - a.1) * (d.2 - c.2) - (b.2 - a.2) * (d.1 - c.1)
def cutP (a b c d : Rat × Rat) : Rat × Rat := (a.1 + (b.1 - a.1) * (((c.1 - a.1) * (d.2 - c.2) - (c.2 - a.2) * (d.1 - c.1)) / crs a b c d), a.2 + (b.2 - a.2) * (((c.1 - a.1) * (d.2 - c.2) - (c.2 - a.2) * (d.1 - c.1)) / crs a b c d))
def cutV (a b c d : Rat × Rat) : Int × (Rat × Rat) :=
  if tn a b c = 0 ∧ tn a b d = 0 ∧ tn c d a = 0 ∧ tn c d b = 0 then pieceV a b c d
  else if 0 < tn a b c * tn a b d ∨ 0 < tn c d a * tn c d b then (0, (0, 0)) else (1, cutP a b c d)
theorem crs_ne {a b c d : Rat × Rat} (h0 : ¬ (tn a b c = 0 ∧ tn a b d = 0 ∧ tn c d a = 0 ∧ tn c d b = 0)) (h1 : ¬ (0 < tn a b c * tn a b d ∨ 0 < tn c d a * tn c d b)) : crs a b c d ≠ 0 := by
  intro hk
  unfold crs at hk
  have e1 : tn a b c = tn a b d := by unfold tn turn; congr 1; grind
  have e2 : tn c d a = tn c d b := by unfold tn turn; congr 1; grind
  have z1 : tn a b c = 0 := by
    rcases tn_cases a b c with e | e | e
    · exact absurd (.inl (by rw [← e1, e]; decide)) h1
    · exact e
    · exact absurd (.inl (by rw [← e1, e]; decide)) h1
  have z2 : tn c d a = 0 := by
    rcases tn_cases c d a with e | e | e
    · exact absurd (.inr (by rw [← e2, e]; decide)) h1
    · exact e
    · exact absurd (.inr (by rw [← e2, e]; decide)) h1
  exact h0 ⟨z1, e1 ▸ z1, z2, e2 ▸ z2⟩
end Go.Proofs.YtobojnodohjiaaaGreatDoor

set_option linter.unusedVariables false
set_option linter.unusedSimpArgs false
namespace Go.Proofs.YtobojnodohjiaaaGreatDoor
open Go.RowKit
attribute [local go_sem ↓] Go.wp_at_zero Go.wp_at_succ
theorem sq_nonneg (x : Rat) : 0 ≤ x * x := by
  rcases Rat.le_total (a := 0) (b := x) with h | h
  · exact Rat.mul_nonneg h h
  · have := Rat.mul_nonneg (show 0 ≤ -x by grind) (show 0 ≤ -x by grind); grind
theorem sgQ_mul_pos {p q : Rat} (h : 0 < p) : sgQ (p * q) = sgQ q := by
  unfold sgQ
  have h0 : p * q = 0 ↔ q = 0 := ⟨fun e => (Rat.mul_eq_zero.1 e).elim (fun e => by grind) id, fun e => by rw [e, Rat.mul_zero]⟩
  have h1 : p * q < 0 ↔ q < 0 := by
    constructor
    · intro e
      rcases Rat.le_total (a := 0) (b := q) with h2 | h2
      · have := Rat.mul_nonneg (Rat.le_of_lt h) h2; grind
      · by_cases h3 : q = 0
        · subst h3; rw [Rat.mul_zero] at e; exact absurd e (Rat.lt_irrefl)
        · grind
    · intro e
      have := Rat.mul_pos h (show 0 < -q by grind); grind
  simp only [h0, h1]
end Go.Proofs.YtobojnodohjiaaaGreatDoor

set_option linter.unusedVariables false
set_option linter.unusedSimpArgs false
namespace Go.Proofs.YtobojnodohjiaaaGreatDoor
open Go.RowKit
theorem sgQ_negate (q : Rat) : sgQ (-q) = -sgQ q := by
  unfold sgQ
  by_cases h : q = 0
  · subst h; simp
  · have h2 : ¬ (-q = 0) := by grind
    rw [if_neg h, if_neg h2]
    by_cases h3 : q < 0
    · have : ¬ (-q < 0) := by grind
      rw [if_pos h3, if_neg this]; rfl
    · have : -q < 0 := by grind
      rw [if_neg h3, if_pos this]
theorem turn_swap (a1 a2 b1 b2 c1 c2 : Rat) : turn b1 b2 a1 a2 c1 c2 = -turn a1 a2 b1 b2 c1 c2 := by
  unfold turn; rw [← sgQ_negate]; congr 1; grind
end Go.Proofs.YtobojnodohjiaaaGreatDoor
