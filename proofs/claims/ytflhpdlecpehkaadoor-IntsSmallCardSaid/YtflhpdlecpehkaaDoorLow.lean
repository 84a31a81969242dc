
/- fracs.lowest. -/
import Derived.Test.YtflhpdlecpehkaaDoorIntZ
namespace Go.Proofs.YtflhpdlecpehkaaDoor
open Go.RowKit
set_option linter.unusedSimpArgs false
set_option linter.unusedVariables false
attribute [local go_sem ↓] Go.wp_at_zero Go.wp_at_succ
end Go.Proofs.YtflhpdlecpehkaaDoor
