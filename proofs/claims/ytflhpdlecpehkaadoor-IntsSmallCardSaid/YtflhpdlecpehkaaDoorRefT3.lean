
/- gussetref02: Add, Of. -/
import Derived.Test.YtflhpdlecpehkaaDoorRefT2
namespace Go.Proofs.YtflhpdlecpehkaaDoor
open Go.RowKit
set_option linter.unusedSimpArgs false
set_option linter.unusedVariables false
attribute [local go_sem ↓] Go.wp_at_zero Go.wp_at_succ
theorem cmpI_ge {x y : Nat} (h : 0 ≤ cmpI (x : Int) (y : Int)) : y ≤ x := by
  unfold cmpI at h
  split at h
  · omega
  · omega
theorem cmpI_lt' {x y : Nat} (h : ¬ 0 ≤ cmpI (x : Int) (y : Int)) : x ≤ y := by
  unfold cmpI at h
  split at h
  · omega
  · split at h <;> omega
theorem sg_add {a b : Int} (h : (decide (a < 0) == decide (b < 0)) = true) : (if decide (a < 0) then -((a.natAbs + b.natAbs : Nat) : Int) else ((a.natAbs + b.natAbs : Nat) : Int)) = a + b := by
  have e := beq_iff_eq.1 h
  have e2 := decide_eq_decide.1 e
  by_cases h1 : a < 0
  · have := e2.1 h1; simp only [h1, decide_true, if_true]; omega
  · have : ¬ b < 0 := fun h => h1 (e2.2 h)
    simp only [h1, decide_false, Bool.false_eq_true, if_false]; omega
theorem sg_sub {a b : Int} (h : (decide (a < 0) == decide (b < 0)) = false) (hl : b.natAbs ≤ a.natAbs) : (if decide (a < 0) then -((a.natAbs - b.natAbs : Nat) : Int) else ((a.natAbs - b.natAbs : Nat) : Int)) = a + b := by
  by_cases h1 : a < 0
  · have h2 : ¬ b < 0 := fun h2 => by simp [h1, h2] at h
    simp only [h1, decide_true, if_true]; omega
  · have h2 : b < 0 := by
      rcases Int.lt_or_le b 0 with h2 | h2
      · exact h2
      · simp [h1, show ¬ b < 0 by omega] at h
    simp only [h1, decide_false, Bool.false_eq_true, if_false]; omega
theorem sg_bus {a b : Int} (h : (decide (a < 0) == decide (b < 0)) = false) (hl : a.natAbs ≤ b.natAbs) : (if decide (b < 0) then -((b.natAbs - a.natAbs : Nat) : Int) else ((b.natAbs - a.natAbs : Nat) : Int)) = a + b := by
  have h' : (decide (b < 0) == decide (a < 0)) = false := by rw [← h]; exact Bool.beq_comm
  rw [sg_sub h' hl, Int.add_comm]

end Go.Proofs.YtflhpdlecpehkaaDoor
