
/- plain facts of rounding. No condition but those stated. -/
import Derived.Test.YtobojnodohjiaaaGreatDoorDecA
namespace Go.Proofs.YtobojnodohjiaaaGreatDoor
open Go.RowKit
set_option linter.unusedSimpArgs false
set_option linter.unusedVariables false
end Go.Proofs.YtobojnodohjiaaaGreatDoor
