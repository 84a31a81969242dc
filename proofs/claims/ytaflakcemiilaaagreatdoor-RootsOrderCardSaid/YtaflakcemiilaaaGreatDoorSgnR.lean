
/- plain facts of signs. -/
import Derived.Test.YtaflakcemiilaaaGreatDoorFieldP
namespace Go.Proofs.YtaflakcemiilaaaGreatDoor
open Go.RowKit
set_option linter.unusedSimpArgs false
set_option linter.unusedVariables false
attribute [local go_sem ↓] Go.wp_at_zero Go.wp_at_succ
theorem sgQ_np {x y : Rat} (h : x ≤ y) : ¬ 0 < sgQ (x - y) := by
  rcases sgQ_cases (x - y) with ⟨_, e⟩ | ⟨_, e⟩ | ⟨h1, _⟩
  · rw [e]; decide
  · rw [e]; decide
  · exfalso; grind
theorem le_sgQ {x y : Rat} (h : ¬ 0 < sgQ (x - y)) : x ≤ y := by
  rcases sgQ_cases (x - y) with ⟨h1, _⟩ | ⟨h1, _⟩ | ⟨_, e⟩
  · grind
  · grind
  · exact absurd (show 0 < sgQ (x - y) by rw [e]; decide) h
theorem ge_sgQ {x y : Rat} (h : 0 < sgQ (x - y)) : y ≤ x := by
  rcases sgQ_cases (x - y) with ⟨_, e⟩ | ⟨_, e⟩ | ⟨h1, _⟩
  · rw [e] at h; exact absurd h (by decide)
  · rw [e] at h; exact absurd h (by decide)
  · grind
theorem tmod_nat {m : Int} (h : 0 ≤ m) : ∃ r : Nat, Int.tmod m 101 = (r : Int) ∧ r ≤ 100 := ⟨(m % 101).toNat, by rw [Int.tmod_eq_emod_of_nonneg h]; omega, by omega⟩

end Go.Proofs.YtaflakcemiilaaaGreatDoor
