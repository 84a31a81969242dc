
/- ints: equality, Sub in z-form, plain facts. -/
import Derived.Test.YtaflakcemiilaaaGreatDoorIntZ
import Derived.Test.YtaflakcemiilaaaGreatDoorIntDivP
import Derived.Test.YtaflakcemiilaaaGreatDoorPL
import Derived.Test.YtaflakcemiilaaaGreatDoorEqQ
set_option linter.unusedVariables false
set_option linter.unusedSimpArgs false
namespace Go.Proofs.YtaflakcemiilaaaGreatDoor
open Go.RowKit
attribute [local go_sem ↓] Go.wp_at_zero Go.wp_at_succ
theorem zisub (a b z : Int) (w : World) (hz : a - b = z) (ha : wl a.natAbs ≤ 274877906944) (hb : wl b.natAbs ≤ 274877906944) :
    Calls Tryz.prog 206 #[(Value.agg #[.int .u64 ((lo (Int.natAbs (a)) : Nat) : Int), .string (bg (Int.natAbs (a))), .bool (decide ((a) < 0))]), (Value.agg #[.int .u64 ((lo (Int.natAbs (b)) : Nat) : Int), .string (bg (Int.natAbs (b))), .bool (decide ((b) < 0))])] w fun e w' => e = .returned (Value.agg #[.int .u64 ((lo (Int.natAbs (z)) : Nat) : Int), .string (bg (Int.natAbs (z))), .bool (decide ((z) < 0))]) ∧ Below w.heap.size w w' := hz ▸ isub_any a b w ha hb
theorem wl_isub (a b : Int) : wl (Int.natAbs (a - b)) ≤ max (wl a.natAbs) (wl b.natAbs) + 1 := by
  have := wl_iadd a (-b)
  rw [Int.natAbs_neg] at this
  rw [Int.sub_eq_add_neg]; exact this
theorem sgI_lt {a : Int} (h : a < 0) : sgI a = -1 := by unfold sgI; rw [if_neg (by omega), if_pos h]
theorem sgI_eq {a : Int} (h : a = 0) : sgI a = 0 := by unfold sgI; rw [if_pos h]
theorem sgI_gt {a : Int} (h : 0 < a) : sgI a = 1 := by unfold sgI; rw [if_neg (by omega), if_neg (by omega)]
theorem div_abs (a b : Int) : (a / b).natAbs ≤ a.natAbs + 1 := by
  by_cases hb : b = 0
  · subst hb; simp
  have hq := q_abs a b hb
  have hm := mod_abs a hb
  have h1 : (a / b).natAbs * b.natAbs ≤ (a.natAbs + 1) * b.natAbs ∨ (a / b).natAbs ≤ a.natAbs + 1 := by
    rcases Nat.lt_or_ge (a.natAbs + 1) (a / b).natAbs with h | h
    · have h3 : (a.natAbs + 2) * b.natAbs ≤ (a / b).natAbs * b.natAbs := Nat.mul_le_mul_right _ h
      have h4 : (a.natAbs + 2) * b.natAbs = a.natAbs * b.natAbs + 2 * b.natAbs := Nat.add_mul ..
      have h5 : a.natAbs * 1 ≤ a.natAbs * b.natAbs := Nat.mul_le_mul_left _ (by omega)
      omega
    · exact .inr h
  rcases h1 with h | h
  · exact Nat.le_of_mul_le_mul_right h (by omega)
  · exact h
theorem wl_idiv (a b : Int) : wl (a / b).natAbs ≤ wl a.natAbs + 1 := by
  have h1 := wl_mono (div_abs a b)
  have h2 := wl_add a.natAbs 1
  by_cases h : a = 0
  · subst h; simp at h1 ⊢
  · have h3 : wl 1 ≤ 1 := wl_small (by decide)
    have h4 : 1 ≤ wl a.natAbs := by
      rcases Nat.eq_zero_or_pos (wl a.natAbs) with e | e
      · have := wl_le.1 (Nat.le_of_eq e)
        rw [show bp 0 = 1 from rfl] at this
        omega
      · exact e
    omega
theorem wl_imod (a b : Int) (h : b ≠ 0) : wl (a % b).natAbs ≤ wl b.natAbs := wl_mono (Nat.le_of_lt (mod_abs a h).1)
theorem dq {a b : Int} (s t : Bool) (ha : decide (a < 0) = s) (hb : decide (b < 0) = t) (h0 : b ≠ 0) (h : 0 ≤ a ∨ a.natAbs % b.natAbs = 0) :
    (if (s != t) then -((a.natAbs / b.natAbs : Nat) : Int) else ((a.natAbs / b.natAbs : Nat) : Int)) = a / b := by subst ha hb; exact (div_plain h0 h).1
theorem dr {a b : Int} (s : Bool) (ha : decide (a < 0) = s) (h0 : b ≠ 0) (h : 0 ≤ a ∨ a.natAbs % b.natAbs = 0) :
    (if s then -((a.natAbs % b.natAbs : Nat) : Int) else ((a.natAbs % b.natAbs : Nat) : Int)) = a % b := by subst ha; exact (div_plain h0 h).2
theorem dc {a b : Int} (t : Bool) (ha : a < 0) (hb : decide (b < 0) = t) (h0 : b ≠ 0) (h : a.natAbs % b.natAbs ≠ 0) :
    (if (true != t) then -((a.natAbs / b.natAbs : Nat) : Int) else ((a.natAbs / b.natAbs : Nat) : Int)) - (if t then -1 else 1) = a / b := by
  have e := (div_carry h0 ha h).2
  subst hb
  rw [decide_eq_true ha] at e
  simpa only [decide_eq_true_eq] using e
end Go.Proofs.YtaflakcemiilaaaGreatDoor
