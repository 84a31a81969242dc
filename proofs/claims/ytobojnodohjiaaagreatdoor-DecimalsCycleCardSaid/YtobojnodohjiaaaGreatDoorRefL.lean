
/- gussetref01: Parse. No condition but a bound on lengths. -/
import Derived.Test.YtobojnodohjiaaaGreatDoorPH
import Derived.Test.YtobojnodohjiaaaGreatDoorPP
namespace Go.Proofs.YtobojnodohjiaaaGreatDoor
open Go.RowKit
set_option linter.unusedSimpArgs false
set_option linter.unusedVariables false

end Go.Proofs.YtobojnodohjiaaaGreatDoor
