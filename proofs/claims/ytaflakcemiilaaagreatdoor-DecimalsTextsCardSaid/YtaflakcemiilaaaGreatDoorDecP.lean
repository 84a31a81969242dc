
/- plain facts of rounding. No condition but those stated. -/
import Derived.Test.YtaflakcemiilaaaGreatDoorDecB
set_option linter.unusedVariables false
set_option linter.unusedSimpArgs false
namespace Go.Proofs.YtaflakcemiilaaaGreatDoor
open Go.RowKit
theorem fl_le (x : Rat) : ((x.floor : Int) : Rat) ≤ x := Rat.floor_le x
theorem lt_fl (x : Rat) : x < ((x.floor : Int) : Rat) + 1 := by have := Rat.lt_floor_add_one x; rwa [Rat.intCast_add] at this
theorem fl_ce_frac {x : Rat} (h : ¬ ((x.floor : Int) : Rat) = x) : x.ceil = x.floor + 1 := by
  have a := Rat.ceil_le_iff.2 (show x ≤ ((x.floor + 1 : Int) : Rat) from by rw [Rat.intCast_add]; exact Rat.le_of_lt (lt_fl x))
  have b : x.floor < x.ceil := Rat.lt_ceil_iff.2 (Rat.lt_of_le_of_ne (fl_le x) h)
  omega
theorem sgQ_lt0 {a : Rat} : sgQ a < 0 ↔ a < 0 := by
  rcases sgQ_cases a with ⟨h, e⟩ | ⟨h, e⟩ | ⟨h, e⟩ <;> rw [e] <;> constructor <;> intro hh <;> first | exact h | decide | (exact absurd hh (by decide)) | (exfalso; grind)
theorem sgQ_eq0 {a : Rat} : sgQ a = 0 ↔ a = 0 := by
  rcases sgQ_cases a with ⟨h, e⟩ | ⟨h, e⟩ | ⟨h, e⟩ <;> rw [e] <;> constructor <;> intro hh <;> first | exact h | rfl | (exact absurd hh (by decide)) | (exfalso; grind)
theorem rnd3 (x : Rat) : rnd 3 x = if 2 * x < 2 * (x.floor : Rat) + 1 ∨ (2 * x = 2 * (x.floor : Rat) + 1 ∧ x.floor % 2 = 0) then x.floor else x.ceil := by
  unfold rnd
  rw [if_neg (by decide), if_neg (by decide)]
  have e1 : (x - (x.floor : Rat)) + (x - (x.floor : Rat)) - 1 < 0 ↔ 2 * x < 2 * (x.floor : Rat) + 1 := by constructor <;> intro h <;> grind
  have e2 : (x - (x.floor : Rat)) + (x - (x.floor : Rat)) - 1 = 0 ↔ 2 * x = 2 * (x.floor : Rat) + 1 := by constructor <;> intro h <;> grind
  simp only [sgQ_lt0, sgQ_eq0, e1, e2]
theorem rnd_int (w : Int) (n : Int) : rnd w (n : Rat) = n := by
  rcases rnd_or w (n : Rat) with h | h <;> rw [h]
  · exact Rat.floor_intCast n
  · exact Rat.ceil_intCast n
end Go.Proofs.YtaflakcemiilaaaGreatDoor
