
/- gussetref04.tens. -/
import Derived.Test.YtobojnodohjiaaaGreatDoorDecB
import Derived.Test.YtobojnodohjiaaaGreatDoorRefV2
namespace Go.Proofs.YtobojnodohjiaaaGreatDoor
open Go.RowKit
set_option linter.unusedSimpArgs false
set_option linter.unusedVariables false
attribute [local go_sem ↓] Go.wp_at_zero Go.wp_at_succ
attribute [local go_sem ↓] eq_nat eq_nat_zero eq_int
end Go.Proofs.YtobojnodohjiaaaGreatDoor
