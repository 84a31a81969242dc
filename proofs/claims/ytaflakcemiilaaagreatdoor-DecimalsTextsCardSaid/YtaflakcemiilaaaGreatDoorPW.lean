/- A pack of texts: CutS, FParse. No condition but those stated. -/
import Derived.Test.YtaflakcemiilaaaGreatDoorHp
import Derived.Test.YtaflakcemiilaaaGreatDoorTextQ
import Derived.Test.YtaflakcemiilaaaGreatDoorShelf
import Derived.Lib.IndexLaws
import Derived.Test.YtaflakcemiilaaaGreatDoorPV
import Derived.Test.YtaflakcemiilaaaGreatDoorPQ
set_option linter.unusedVariables false
set_option linter.unusedSimpArgs false
/- strings.Cut at "/", and its plain part. No condition but those stated. -/
namespace Go.Proofs.YtaflakcemiilaaaGreatDoor
open Go.RowKit
end Go.Proofs.YtaflakcemiilaaaGreatDoor
/- fracs.Parse. -/
namespace Go.Proofs.YtaflakcemiilaaaGreatDoor
open Go.RowKit
attribute [local go_sem ↓] Go.wp_at_zero Go.wp_at_succ
attribute [local go_sem ↓] eq_nat eq_nat_zero eq_int
end Go.Proofs.YtaflakcemiilaaaGreatDoor
