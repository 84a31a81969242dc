
/- gussetref02.Parse in z-form. -/
import Derived.Test.YtobojnodohjiaaaGreatDoorRefParse2
set_option linter.unusedVariables false
set_option linter.unusedSimpArgs false
namespace Go.Proofs.YtobojnodohjiaaaGreatDoor
open Go.RowKit
attribute [local go_sem ↓] Go.wp_at_zero Go.wp_at_succ
theorem qh8 (s:ByteArray) (a c:Int) (w:World) (ha:inum s=a) (hc:qc0 s=c) (hs:s.size≤9223372036854775807) :
  Calls Tryz.prog 233 #[.string s] w fun e w'=>(∃ v,e=.returned (.tuple #[.agg #[.bool (decide (a<0)),v],.int .i64 c])∧Rn w' v a.natAbs)∧Gr w w':=ha ▸ hc ▸ qE4 s w hs
end Go.Proofs.YtobojnodohjiaaaGreatDoor
