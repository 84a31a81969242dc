
/- equality of integers and fractions. -/
import Derived.Test.YtpcfncbcpknobaaGreatDoorIntZ
import Derived.Test.YtpcfncbcpknobaaGreatDoorPI
namespace Go.Proofs.YtpcfncbcpknobaaGreatDoor
open Go.RowKit
set_option linter.unusedSimpArgs false
set_option linter.unusedVariables false
attribute [local go_sem ↓] Go.wp_at_zero Go.wp_at_succ
attribute [local go_sem ↓] eq_nat eq_nat_zero
theorem eq_int (d : Nat) (a b : Int) (w : World) : (Op.equalIn (d + 4) 38 (Value.agg #[.int .u64 ((lo (Int.natAbs (a)) : Nat) : Int), .string (bg (Int.natAbs (a))), .bool (decide ((a) < 0))]) (Value.agg #[.int .u64 ((lo (Int.natAbs (b)) : Nat) : Int), .string (bg (Int.natAbs (b))), .bool (decide ((b) < 0))])).run Tryz.prog w = .ok (decide (a = b)) w := by
  by_cases h : a = b
  · subst h; simp [go_sem, eq_nat]
  · by_cases hn : a.natAbs = b.natAbs
    · have hs : ¬ ((a < 0) = (b < 0)) := fun e => by
        by_cases h1 : a < 0
        · have h2 : b < 0 := e ▸ h1
          omega
        · have h2 : ¬ b < 0 := e ▸ h1
          omega
      simp [go_sem, eq_nat, h, hn]
      simpa using hs
    · simp [go_sem, eq_nat, h, hn]
end Go.Proofs.YtpcfncbcpknobaaGreatDoor
