
/- gussetref02: Sub, Cmp, Div. -/
import Derived.Test.YtflhpdlecpehkaaDoorIntE
import Derived.Test.YtflhpdlecpehkaaDoorRefT3
namespace Go.Proofs.YtflhpdlecpehkaaDoor
open Go.RowKit
set_option linter.unusedSimpArgs false
set_option linter.unusedVariables false
attribute [local go_sem ↓] Go.wp_at_zero Go.wp_at_succ
theorem tw_isub (a b : Int) : tw (Int.natAbs (a - b)) ≤ max (tw a.natAbs) (tw b.natAbs) + 1 := by
  have := tw_iadd a (-b)
  rw [Int.natAbs_neg] at this
  rw [Int.sub_eq_add_neg]; exact this
theorem tw_idiv (a b : Int) : tw (a / b).natAbs ≤ tw a.natAbs + 1 := by
  have h1 := tw_mono (div_abs a b)
  have h2 := tw_add a.natAbs 1
  have h3 : tw 1 ≤ 1 := tw_le.2 (by decide)
  by_cases h : a = 0
  · subst h; simp
  · have h4 : 0 < tw a.natAbs := tw_pos (by omega)
    omega
theorem tw_imod (a b : Int) (h : b ≠ 0) : tw (a % b).natAbs ≤ tw b.natAbs := tw_mono (Nat.le_of_lt (mod_abs a h).1)
end Go.Proofs.YtflhpdlecpehkaaDoor
