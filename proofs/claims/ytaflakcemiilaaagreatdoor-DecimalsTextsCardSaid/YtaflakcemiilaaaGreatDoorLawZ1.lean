
/- plain facts. -/
import Derived.Test.YtaflakcemiilaaaGreatDoorLawZ0
set_option linter.unusedVariables false
set_option linter.unusedSimpArgs false
namespace Go.Proofs.YtaflakcemiilaaaGreatDoor
open Go.RowKit
attribute [local go_sem ↓] Go.wp_at_zero Go.wp_at_succ
theorem zsize {b : Bool} {n : Nat} {a : Int} (h : (if b then -((n : Nat) : Int) else ((n : Nat) : Int)) = a) : a.natAbs = n := by
  rw [← h]; split <;> simp
end Go.Proofs.YtaflakcemiilaaaGreatDoor
