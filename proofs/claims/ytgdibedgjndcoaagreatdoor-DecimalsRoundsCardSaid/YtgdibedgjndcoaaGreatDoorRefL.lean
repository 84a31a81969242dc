
/- gussetref01: Parse. No condition but a bound on lengths. -/
import Derived.Test.YtgdibedgjndcoaaGreatDoorPH
import Derived.Test.YtgdibedgjndcoaaGreatDoorPP
namespace Go.Proofs.YtgdibedgjndcoaaGreatDoor
open Go.RowKit
set_option linter.unusedSimpArgs false
set_option linter.unusedVariables false

end Go.Proofs.YtgdibedgjndcoaaGreatDoor
