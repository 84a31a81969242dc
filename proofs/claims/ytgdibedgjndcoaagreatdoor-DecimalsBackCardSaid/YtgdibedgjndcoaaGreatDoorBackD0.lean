
/- fracs.Text in z-form. -/
import Derived.Test.YtgdibedgjndcoaaGreatDoorDecW
import Derived.Test.YtgdibedgjndcoaaGreatDoorDecQ
import Derived.Test.YtgdibedgjndcoaaGreatDoorDecP
namespace Go.Proofs.YtgdibedgjndcoaaGreatDoor
open Go.RowKit
set_option linter.unusedSimpArgs false
set_option linter.unusedVariables false
attribute [local go_sem ↓] Go.wp_at_zero Go.wp_at_succ
theorem zftextd (q : Rat) (s : ByteArray) (w : World) (h : ftx q = s) (hs : sz q ≤ 100000) (HT : Hid (Tab w)) :
    Calls Tryz.prog 50 #[(Value.agg #[.int .u64 ((lo (Int.natAbs ((q).num)) : Nat) : Int), .string (bg (Int.natAbs ((q).num))), .bool (decide (((q).num) < 0)), .int .u64 ((lo ((q).den - 1) : Nat) : Int), .string (bg ((q).den - 1))])] w fun e w' => e = .returned (.string s) ∧ Below w.heap.size w w' := h ▸ ftext_any q w hs HT

end Go.Proofs.YtgdibedgjndcoaaGreatDoor
