
/- gussetref02.Parse in z-form. -/
import Derived.Test.YtpcfncbcpknobaaGreatDoorRefParse2
namespace Go.Proofs.YtpcfncbcpknobaaGreatDoor
open Go.RowKit
set_option linter.unusedSimpArgs false
set_option linter.unusedVariables false
attribute [local go_sem ↓] Go.wp_at_zero Go.wp_at_succ
theorem zrziparse (s : ByteArray) (a c : Int) (w : World) (ha : inum s = a) (hc : icode s = c) (hs : s.size ≤ 9223372036854775807) :
    Calls Tryz.prog 124 #[.string s] w fun e w' => (∃ v, e = .returned (.tuple #[.agg #[.bool (decide (a < 0)), v], .int .i64 c]) ∧ Rn w' v a.natAbs) ∧ Below w.heap.size w w' := ha ▸ hc ▸ rzparse_any s w hs

end Go.Proofs.YtpcfncbcpknobaaGreatDoor
