
/- plain facts of FracsField. -/
import Derived.Test.YtobojnodohjiaaaGreatDoorGreatP
namespace Go.Proofs.YtobojnodohjiaaaGreatDoor
open Go.RowKit
set_option linter.unusedSimpArgs false
set_option linter.unusedVariables false
attribute [local go_sem ↓] Go.wp_at_zero Go.wp_at_succ
theorem sgQ_cases (a : Rat) : (a < 0 ∧ sgQ a = -1) ∨ (a = 0 ∧ sgQ a = 0) ∨ (0 < a ∧ sgQ a = 1) := by
  by_cases h0 : a = 0
  · subst h0; exact .inr (.inl ⟨rfl, rfl⟩)
  · by_cases h : a < 0
    · exact .inl ⟨h, sgQ_neg h⟩
    · have : 0 < a := Rat.lt_of_le_of_ne (Rat.not_lt.1 h) (fun e => h0 e.symm)
      exact .inr (.inr ⟨this, sgQ_pos this⟩)
theorem mk_one (f : Int) : mkRat f 1 = (f : Rat) := (Rat.mk_eq_mkRat f 1 (by decide) (by simp)).symm

end Go.Proofs.YtobojnodohjiaaaGreatDoor
