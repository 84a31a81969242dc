/- A pack of texts: CutS, FParse. No condition but those stated. -/
import Derived.Test.YtgdibedgjndcoaaGreatDoorHp
import Derived.Test.YtgdibedgjndcoaaGreatDoorTextQ
import Derived.Test.YtgdibedgjndcoaaGreatDoorShelf
import Derived.Lib.IndexLaws
import Derived.Test.YtgdibedgjndcoaaGreatDoorPV
import Derived.Test.YtgdibedgjndcoaaGreatDoorPQ
set_option linter.unusedVariables false
set_option linter.unusedSimpArgs false

/- strings.Cut at "/", and its plain part. No condition but those stated. -/
namespace Go.Proofs.YtgdibedgjndcoaaGreatDoor
open Go.RowKit
set_option linter.unusedSimpArgs false
set_option linter.unusedVariables false
end Go.Proofs.YtgdibedgjndcoaaGreatDoor


/- fracs.Parse. -/
namespace Go.Proofs.YtgdibedgjndcoaaGreatDoor
open Go.RowKit
set_option linter.unusedSimpArgs false
set_option linter.unusedVariables false
attribute [local go_sem ↓] Go.wp_at_zero Go.wp_at_succ
attribute [local go_sem ↓] eq_nat eq_nat_zero eq_int
end Go.Proofs.YtgdibedgjndcoaaGreatDoor
