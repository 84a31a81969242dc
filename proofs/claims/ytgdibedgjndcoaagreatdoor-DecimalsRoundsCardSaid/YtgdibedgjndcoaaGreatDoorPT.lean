/- A pack of texts: RefT2, RefT3, RefU, RefV. No condition but those stated. -/
import Derived.Test.YtgdibedgjndcoaaGreatDoorPI
import Derived.Test.YtgdibedgjndcoaaGreatDoorHp
set_option linter.unusedVariables false
set_option linter.unusedSimpArgs false

/- gussetref02: Neg, Sign, Mul. -/
namespace Go.Proofs.YtgdibedgjndcoaaGreatDoor
open Go.RowKit
set_option linter.unusedSimpArgs false
set_option linter.unusedVariables false
attribute [local go_sem ↓] Go.wp_at_zero Go.wp_at_succ
end Go.Proofs.YtgdibedgjndcoaaGreatDoor


/- gussetref02: Add, Of. -/
namespace Go.Proofs.YtgdibedgjndcoaaGreatDoor
open Go.RowKit
set_option linter.unusedSimpArgs false
set_option linter.unusedVariables false
attribute [local go_sem ↓] Go.wp_at_zero Go.wp_at_succ
end Go.Proofs.YtgdibedgjndcoaaGreatDoor


/- gussetref03: one, Den, den, From, Int, Sign, Neg, Add, Mul, Sub. -/
namespace Go.Proofs.YtgdibedgjndcoaaGreatDoor
open Go.RowKit
set_option linter.unusedSimpArgs false
set_option linter.unusedVariables false
attribute [local go_sem ↓] Go.wp_at_zero Go.wp_at_succ
end Go.Proofs.YtgdibedgjndcoaaGreatDoor


/- gussetref03: Div, Cmp, Of. -/
namespace Go.Proofs.YtgdibedgjndcoaaGreatDoor
open Go.RowKit
set_option linter.unusedSimpArgs false
set_option linter.unusedVariables false
attribute [local go_sem ↓] Go.wp_at_zero Go.wp_at_succ
end Go.Proofs.YtgdibedgjndcoaaGreatDoor
