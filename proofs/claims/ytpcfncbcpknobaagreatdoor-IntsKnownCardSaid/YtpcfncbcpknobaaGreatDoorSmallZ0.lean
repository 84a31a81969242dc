
/- plain facts of IntsSmall. -/
import Derived.Test.YtpcfncbcpknobaaGreatDoorLawZ2
import Derived.Test.YtpcfncbcpknobaaGreatDoorI64
namespace Go.Proofs.YtpcfncbcpknobaaGreatDoor
open Go.RowKit
set_option linter.unusedSimpArgs false
set_option linter.unusedVariables false
attribute [local go_sem ↓] Go.wp_at_zero Go.wp_at_succ
theorem i64_sym (a v : Int) (o : Bool) (w : World) (h : (v = a ∧ o = true ∧ -9223372036854775808 ≤ a ∧ a ≤ 9223372036854775807) ∨ (v = 0 ∧ o = false ∧ (a < -9223372036854775808 ∨ 9223372036854775807 < a))) :
    Calls Tryz.prog 20 #[(Value.agg #[.int .u64 ((lo (Int.natAbs (a)) : Nat) : Int), .string (bg (Int.natAbs (a))), .bool (decide ((a) < 0))])] w fun e w' => e = .returned (.tuple #[.int .i64 v, .bool o]) ∧ Below w.heap.size w w' := by
  rcases h with ⟨rfl, rfl, h⟩ | ⟨rfl, rfl, h⟩
  · exact i64_in _ w h
  · exact i64_out a w (fun h' => by unfold In64 at h'; omega)
theorem sym_ex (a : Int) : ∃ (v : Int) (o : Bool), (v = a ∧ o = true ∧ -9223372036854775808 ≤ a ∧ a ≤ 9223372036854775807) ∨ (v = 0 ∧ o = false ∧ (a < -9223372036854775808 ∨ 9223372036854775807 < a)) := by
  by_cases h : -9223372036854775808 ≤ a ∧ a ≤ 9223372036854775807
  · exact ⟨a, true, .inl ⟨rfl, rfl, h⟩⟩
  · exact ⟨0, false, .inr ⟨rfl, rfl, by omega⟩⟩
theorem wrap_any (z : Int) : ∃ k : Int, IntKind.i64.wrap z = z + k * 18446744073709551616 ∧ -9223372036854775808 ≤ IntKind.i64.wrap z ∧ IntKind.i64.wrap z ≤ 9223372036854775807 := by
  rw [IntKind.wrap_i64]
  refine ⟨-((z + 9223372036854775808) / 18446744073709551616), ?_, ?_, ?_⟩ <;> omega
theorem imul_small {m n : Int} (h1 : -2147483648 < m) (h2 : m < 2147483648) (h3 : -2147483648 < n) (h4 : n < 2147483648) : -9223372036854775808 ≤ m * n ∧ m * n ≤ 9223372036854775807 := by
  have e : (m * n).natAbs ≤ 2147483648 * 2147483648 := by rw [Int.natAbs_mul]; exact Nat.mul_le_mul (by omega) (by omega)
  omega
theorem wrap_back (m q n r : Int) (h : q * n + r = m) (l : -9223372036854775808 ≤ m) (u : m ≤ 9223372036854775807) : IntKind.i64.wrap (IntKind.i64.wrap (q * n) + r) = m := by
  obtain ⟨k, h1, _⟩ := wrap_any (q * n)
  obtain ⟨j, h2, h3, h4⟩ := wrap_any (IntKind.i64.wrap (q * n) + r)
  generalize IntKind.i64.wrap (IntKind.i64.wrap (q * n) + r) = z at *
  generalize IntKind.i64.wrap (q * n) = y at *
  omega

theorem quot_far {m n : Int} (lm : -9223372036854775808 ≤ m) (um : m ≤ 9223372036854775807) (hn : n ≠ 0) (hq : ¬ In64 (m / n)) : m = -9223372036854775808 ∧ n = -1 := by
  have hm := mod_abs m hn
  have e := idv0 m n
  unfold In64 at hq
  by_cases h1 : n = 1
  · subst h1; rw [Int.ediv_one] at hq; omega
  · by_cases h2 : n = -1
    · subst h2
      rw [show m / -1 = -m by rw [Int.ediv_neg, Int.ediv_one]] at hq
      omega
    · exfalso
      have h3 : 2 ≤ n.natAbs := by omega
      have h4 : ((m / n) * n).natAbs = (m / n).natAbs * n.natAbs := Int.natAbs_mul _ _
      have h5 : (m / n).natAbs * 2 ≤ (m / n).natAbs * n.natAbs := Nat.mul_le_mul_left _ h3
      have h6 : n.natAbs ≤ (m / n).natAbs * n.natAbs ∨ (m / n).natAbs = 0 := by
        rcases Nat.eq_zero_or_pos (m / n).natAbs with h | h
        · exact .inr h
        · exact .inl (Nat.le_mul_of_pos_left _ h)
      have h7 : 9223372036854775808 * n.natAbs ≤ (m / n).natAbs * n.natAbs := Nat.mul_le_mul_right _ (by omega)
      generalize (m / n) * n = p at *
      generalize hz : (m / n).natAbs * n.natAbs = z at *
      generalize m / n = q at *
      generalize m % n = r at *
      omega

end Go.Proofs.YtpcfncbcpknobaaGreatDoor
