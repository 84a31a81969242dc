
/- plain facts of FracsField. -/
import Derived.Test.YtpcfncbcpknobaaGreatDoorGreatP
namespace Go.Proofs.YtpcfncbcpknobaaGreatDoor
open Go.RowKit
set_option linter.unusedSimpArgs false
set_option linter.unusedVariables false
attribute [local go_sem ↓] Go.wp_at_zero Go.wp_at_succ
theorem sgQ_shift (a b c : Rat) : sgQ (a + c - (b + c)) = sgQ (a - b) := by
  congr 1; grind
theorem sgQ_cases (a : Rat) : (a < 0 ∧ sgQ a = -1) ∨ (a = 0 ∧ sgQ a = 0) ∨ (0 < a ∧ sgQ a = 1) := by
  by_cases h0 : a = 0
  · subst h0; exact .inr (.inl ⟨rfl, rfl⟩)
  · by_cases h : a < 0
    · exact .inl ⟨h, sgQ_neg h⟩
    · have : 0 < a := Rat.lt_of_le_of_ne (Rat.not_lt.1 h) (fun e => h0 e.symm)
      exact .inr (.inr ⟨this, sgQ_pos this⟩)
theorem sgQ_mul' (a b : Rat) : sgQ (a * b) = sgQ a * sgQ b := by
  rcases sgQ_cases a with ⟨h1, e1⟩ | ⟨h1, e1⟩ | ⟨h1, e1⟩ <;> rcases sgQ_cases b with ⟨h2, e2⟩ | ⟨h2, e2⟩ | ⟨h2, e2⟩ <;> rw [e1, e2]
  · exact sgQ_pos (by have := Rat.mul_pos (a := -a) (b := -b) (by have := Rat.neg_lt_neg h1; rwa [Rat.neg_zero] at this) (by have := Rat.neg_lt_neg h2; rwa [Rat.neg_zero] at this); rwa [Rat.neg_mul, Rat.mul_neg, Rat.neg_neg] at this)
  · subst h2; rw [Rat.mul_zero]; rfl
  · exact sgQ_neg ((Rat.mul_neg_iff_of_pos_right h2).2 h1)
  · subst h1; rw [Rat.zero_mul]; rfl
  · subst h1; rw [Rat.zero_mul]; rfl
  · subst h1; rw [Rat.zero_mul]; rfl
  · exact sgQ_neg ((Rat.mul_neg_iff_of_pos_left h1).2 h2)
  · subst h2; rw [Rat.mul_zero]; rfl
  · exact sgQ_pos (Rat.mul_pos h1 h2)
theorem sgQ_mulsub (a b c : Rat) : sgQ (a * c - b * c) = sgQ (a - b) * sgQ c := by
  rw [← sgQ_mul']; congr 1; grind
theorem sgQ_flip (a b : Rat) : sgQ (b - a) = -sgQ (a - b) := by
  have e : b - a = (a - b) * (-1) := by grind
  rw [e, sgQ_mul', show sgQ (-1) = -1 from by decide +kernel]; omega
theorem sgQ_one (a : Rat) : -1 ≤ sgQ a ∧ sgQ a ≤ 1 := by
  rcases sgQ_cases a with ⟨_, e⟩ | ⟨_, e⟩ | ⟨_, e⟩ <;> rw [e] <;> decide
theorem sgQ_pone (a b : Rat) : -1 ≤ sgQ a * sgQ b ∧ sgQ a * sgQ b ≤ 1 := by rw [← sgQ_mul']; exact sgQ_one _
theorem rsub_neg {a b : Rat} (h : a < b) : a - b < 0 := by grind
theorem rsub_pos {a b : Rat} (h : b < a) : 0 < a - b := by grind
theorem mk_scale (a : Rat) (k : Int) (h : k ≠ 0) : mkRat (a.num * (if false = true then -((k.natAbs : Nat) : Int) else ((k.natAbs : Nat) : Int))) (a.den * k.natAbs) = a := by
  rw [if_neg (by decide), Rat.mkRat_mul_right (by omega), Rat.mkRat_self]
theorem mk_one (f : Int) : mkRat f 1 = (f : Rat) := (Rat.mk_eq_mkRat f 1 (by decide) (by simp)).symm

end Go.Proofs.YtpcfncbcpknobaaGreatDoor
