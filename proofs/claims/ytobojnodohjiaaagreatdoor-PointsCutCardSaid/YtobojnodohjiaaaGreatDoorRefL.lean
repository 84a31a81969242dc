
/- gussetref01: Parse. No condition but a bound on lengths. -/
import Derived.Test.YtobojnodohjiaaaGreatDoorPH
import Derived.Test.YtobojnodohjiaaaGreatDoorPP
set_option linter.unusedVariables false
set_option linter.unusedSimpArgs false
namespace Go.Proofs.YtobojnodohjiaaaGreatDoor
open Go.RowKit
end Go.Proofs.YtobojnodohjiaaaGreatDoor
