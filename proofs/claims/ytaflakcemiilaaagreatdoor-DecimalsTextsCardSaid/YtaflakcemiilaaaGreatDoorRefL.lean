
/- gussetref01: Parse. No condition but a bound on lengths. -/
import Derived.Test.YtaflakcemiilaaaGreatDoorPH
import Derived.Test.YtaflakcemiilaaaGreatDoorPP
set_option linter.unusedVariables false
set_option linter.unusedSimpArgs false
namespace Go.Proofs.YtaflakcemiilaaaGreatDoor
open Go.RowKit
end Go.Proofs.YtaflakcemiilaaaGreatDoor
