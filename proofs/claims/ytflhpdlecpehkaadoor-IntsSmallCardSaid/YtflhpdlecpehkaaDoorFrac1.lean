
/- fracs: den, signed, whole, Whole, Sign, Neg. -/
import Derived.Test.YtflhpdlecpehkaaDoorLow
namespace Go.Proofs.YtflhpdlecpehkaaDoor
open Go.RowKit
set_option linter.unusedSimpArgs false
set_option linter.unusedVariables false
attribute [local go_sem ↓] Go.wp_at_zero Go.wp_at_succ
attribute [local go_sem ↓] eq_nat eq_nat_zero
end Go.Proofs.YtflhpdlecpehkaaDoor
