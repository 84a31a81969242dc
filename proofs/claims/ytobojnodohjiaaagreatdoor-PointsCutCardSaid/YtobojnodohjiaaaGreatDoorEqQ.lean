
/- equality of integers and fractions. -/
import Derived.Test.YtobojnodohjiaaaGreatDoorRefX
import Derived.Test.YtobojnodohjiaaaGreatDoorIntZ
import Derived.Test.YtobojnodohjiaaaGreatDoorPI
set_option linter.unusedVariables false
set_option linter.unusedSimpArgs false
namespace Go.Proofs.YtobojnodohjiaaaGreatDoor
open Go.RowKit
attribute [local go_sem ↓] Go.wp_at_zero Go.wp_at_succ
end Go.Proofs.YtobojnodohjiaaaGreatDoor

set_option linter.unusedVariables false
set_option linter.unusedSimpArgs false
namespace Go.Proofs.YtobojnodohjiaaaGreatDoor
open Go.RowKit
attribute [local go_sem ↓] Go.wp_at_zero Go.wp_at_succ
attribute [local go_sem ↓] eq_nat eq_nat_zero
theorem eq_int (d : Nat) (a b : Int) (w : World) : (Op.equalIn (d + 4) 34 (Value.agg #[.int .u64 ((lo (Int.natAbs (a)) : Nat) : Int), .string (bg (Int.natAbs (a))), .bool (decide ((a) < 0))]) (Value.agg #[.int .u64 ((lo (Int.natAbs (b)) : Nat) : Int), .string (bg (Int.natAbs (b))), .bool (decide ((b) < 0))])).run Tryz.prog w = .ok (decide (a = b)) w := by
  by_cases h : a = b
  · subst h; simp [go_sem, eq_nat]
  · by_cases hn : a.natAbs = b.natAbs
    · have hs : ¬ ((a < 0) = (b < 0)) := fun e => by
        by_cases h1 : a < 0
        · have h2 : b < 0 := e ▸ h1
          omega
        · have h2 : ¬ b < 0 := e ▸ h1
          omega
      simp [go_sem, eq_nat, h, hn]
      simpa using hs
    · simp [go_sem, eq_nat, h, hn]
theorem eq_frac (d : Nat) (a b : Rat) (w : World) : (Op.equalIn (d + 5) 36 (Value.agg #[.int .u64 ((lo (Int.natAbs ((a).num)) : Nat) : Int), .string (bg (Int.natAbs ((a).num))), .bool (decide (((a).num) < 0)), .int .u64 ((lo ((a).den - 1) : Nat) : Int), .string (bg ((a).den - 1))]) (Value.agg #[.int .u64 ((lo (Int.natAbs ((b).num)) : Nat) : Int), .string (bg (Int.natAbs ((b).num))), .bool (decide (((b).num) < 0)), .int .u64 ((lo ((b).den - 1) : Nat) : Int), .string (bg ((b).den - 1))])).run Tryz.prog w = .ok (decide (a = b)) w := by
  have e : decide (a = b) = (decide (a.num = b.num) && decide (a.den - 1 = b.den - 1)) := by
    rw [← Bool.decide_and]
    apply decide_eq_decide.2
    constructor
    · rintro rfl; exact ⟨rfl, rfl⟩
    · rintro ⟨h1, h2⟩; exact frac_inj h1 h2
  rw [e]
  simp [go_sem, eq_int, eq_nat]
  by_cases h1 : a.num = b.num <;> by_cases h2 : a.den - 1 = b.den - 1 <;> simp [h1, h2]
theorem eq_frac_zero (d : Nat) (a : Rat) (w : World) : (Op.equalIn (d + 5) 36 (Value.agg #[.int .u64 ((lo (Int.natAbs ((a).num)) : Nat) : Int), .string (bg (Int.natAbs ((a).num))), .bool (decide (((a).num) < 0)), .int .u64 ((lo ((a).den - 1) : Nat) : Int), .string (bg ((a).den - 1))]) (Value.agg #[.int .u64 0, .string ⟨#[]⟩, .bool false, .int .u64 0, .string ⟨#[]⟩])).run Tryz.prog w = .ok (decide (a = 0)) w := eq_frac d a 0 w
end Go.Proofs.YtobojnodohjiaaaGreatDoor
