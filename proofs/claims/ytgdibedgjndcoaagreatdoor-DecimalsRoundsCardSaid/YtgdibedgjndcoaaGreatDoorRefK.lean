
/- gussetref01: Text. No condition but a bound on lengths. -/
import Derived.Test.YtgdibedgjndcoaaGreatDoorPH
import Derived.Test.YtgdibedgjndcoaaGreatDoorPE
namespace Go.Proofs.YtgdibedgjndcoaaGreatDoor
open Go.RowKit
set_option linter.unusedSimpArgs false
set_option linter.unusedVariables false

attribute [local irreducible] Utf8.encode
end Go.Proofs.YtgdibedgjndcoaaGreatDoor
