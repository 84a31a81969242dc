
/- gussetref02: Sub, Cmp, Div. -/
import Derived.Test.YtaflakcemiilaaaGreatDoorIntE
import Derived.Test.YtaflakcemiilaaaGreatDoorPT
import Derived.Test.YtaflakcemiilaaaGreatDoorHp
namespace Go.Proofs.YtaflakcemiilaaaGreatDoor
open Go.RowKit
set_option linter.unusedSimpArgs false
set_option linter.unusedVariables false
attribute [local go_sem ↓] Go.wp_at_zero Go.wp_at_succ
end Go.Proofs.YtaflakcemiilaaaGreatDoor
