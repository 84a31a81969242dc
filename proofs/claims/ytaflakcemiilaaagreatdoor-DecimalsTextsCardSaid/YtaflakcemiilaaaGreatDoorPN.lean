/- A pack of texts: QRef, PRef. No condition but those stated. -/
import Derived.Test.YtaflakcemiilaaaGreatDoorPL
import Derived.Test.YtaflakcemiilaaaGreatDoorPT
import Derived.Test.YtaflakcemiilaaaGreatDoorHp
set_option linter.unusedVariables false
set_option linter.unusedSimpArgs false
/- gussetlaw03.Q.Ref. -/
namespace Go.Proofs.YtaflakcemiilaaaGreatDoor
open Go.RowKit
attribute [local go_sem ↓] Go.wp_at_zero Go.wp_at_succ
theorem rz_quot (n m : Int) (h1 : -9223372036854775808 ≤ n) (h2 : n ≤ 9223372036854775807) (h3 : -9223372036854775808 ≤ m) (h4 : m ≤ 9223372036854775807) : rz ((n : Rat) / (m : Rat)) ≤ 10 := by
  have := rz_div (n : Rat) (m : Rat)
  have := rz_i64 h1 h2
  have := rz_i64 h3 h4
  omega
end Go.Proofs.YtaflakcemiilaaaGreatDoor
/- gussetlaw23.P.Ref. -/
namespace Go.Proofs.YtaflakcemiilaaaGreatDoor
open Go.RowKit
attribute [local go_sem ↓] Go.wp_at_zero Go.wp_at_succ
end Go.Proofs.YtaflakcemiilaaaGreatDoor
