/- points.Cut: what it hands back. -/
import Derived.Test.YtenpbnmmadbkdaaPiece
namespace Go.Proofs.Ytenpbnmmadbkdaa
open Go.RowKit
set_option linter.unusedSimpArgs false
set_option linter.unusedVariables false
attribute [local go_sem ↓] Go.wp_at_zero Go.wp_at_succ
theorem sgQ_cases (q : Rat) : sgQ q = -1 ∨ sgQ q = 0 ∨ sgQ q = 1 := by
  unfold sgQ
  split
  · exact .inr (.inl rfl)
  · split
    · exact .inl rfl
    · exact .inr (.inr rfl)
/-- the orientation of three points -/
def tn (a b c : Rat × Rat) : Int := turn a.1 a.2 b.1 b.2 c.1 c.2
theorem tn_cases (a b c : Rat × Rat) : tn a b c = -1 ∨ tn a b c = 0 ∨ tn a b c = 1 := sgQ_cases _
theorem wrap_tn {s t : Int} (hs : s = -1 ∨ s = 0 ∨ s = 1) (ht : t = -1 ∨ t = 0 ∨ t = 1) : IntKind.i64.wrap (s * t) = s * t := by
  rcases hs with rfl | rfl | rfl <;> rcases ht with rfl | rfl | rfl <;> rfl
/-- the cross product of the directions -/
def crs (a b c d : Rat × Rat) : Rat := (b.1 - a.1) * (d.2 - c.2) - (b.2 - a.2) * (d.1 - c.1)
/-- where the lines meet -/
def cutP (a b c d : Rat × Rat) : Rat × Rat := (a.1 + (b.1 - a.1) * (((c.1 - a.1) * (d.2 - c.2) - (c.2 - a.2) * (d.1 - c.1)) / crs a b c d), a.2 + (b.2 - a.2) * (((c.1 - a.1) * (d.2 - c.2) - (c.2 - a.2) * (d.1 - c.1)) / crs a b c d))
/-- what Cut hands back -/
def cutV (a b c d : Rat × Rat) : Int × (Rat × Rat) :=
  if tn a b c = 0 ∧ tn a b d = 0 ∧ tn c d a = 0 ∧ tn c d b = 0 then pieceV a b c d
  else if 0 < tn a b c * tn a b d ∨ 0 < tn c d a * tn c d b then (0, (0, 0)) else (1, cutP a b c d)
theorem crs_ne {a b c d : Rat × Rat} (h0 : ¬ (tn a b c = 0 ∧ tn a b d = 0 ∧ tn c d a = 0 ∧ tn c d b = 0)) (h1 : ¬ (0 < tn a b c * tn a b d ∨ 0 < tn c d a * tn c d b)) : crs a b c d ≠ 0 := by
  intro hk
  unfold crs at hk
  have e1 : tn a b c = tn a b d := by unfold tn turn; congr 1; grind
  have e2 : tn c d a = tn c d b := by unfold tn turn; congr 1; grind
  have z1 : tn a b c = 0 := by
    rcases tn_cases a b c with e | e | e
    · exact absurd (.inl (by rw [← e1, e]; decide)) h1
    · exact e
    · exact absurd (.inl (by rw [← e1, e]; decide)) h1
  have z2 : tn c d a = 0 := by
    rcases tn_cases c d a with e | e | e
    · exact absurd (.inr (by rw [← e2, e]; decide)) h1
    · exact e
    · exact absurd (.inr (by rw [← e2, e]; decide)) h1
  exact h0 ⟨z1, e1 ▸ z1, z2, e2 ▸ z2⟩

end Go.Proofs.Ytenpbnmmadbkdaa
