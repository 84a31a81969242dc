
/- gussetref01: Parse. No condition but a bound on lengths. -/
import Derived.Test.YtaflakcemiilaaaGreatDoorPH
import Derived.Test.YtaflakcemiilaaaGreatDoorPP
namespace Go.Proofs.YtaflakcemiilaaaGreatDoor
open Go.RowKit
set_option linter.unusedSimpArgs false
set_option linter.unusedVariables false

end Go.Proofs.YtaflakcemiilaaaGreatDoor
