
/- gussetref01: Parse. No condition but a bound on lengths. -/
import Derived.Test.YtpcfncbcpknobaaGreatDoorPH
import Derived.Test.YtpcfncbcpknobaaGreatDoorPP
namespace Go.Proofs.YtpcfncbcpknobaaGreatDoor
open Go.RowKit
set_option linter.unusedSimpArgs false
set_option linter.unusedVariables false

theorem pcode_limit {s : ByteArray} (h : 4096 < s.size) : pcode s = 3 ∧ pnum s = 0 := by
  unfold pcode pnum
  rw [if_pos h, if_neg (by omega)]
  exact ⟨rfl, rfl⟩
theorem pcode_bad {s : ByteArray} (h : s.size ≤ 4096) (h2 : ¬ pgood s) : pcode s = 4 ∧ pnum s = 0 := by
  unfold pcode pnum
  rw [if_neg (by omega), if_neg h2, if_neg (fun h => h2 h.2)]
  exact ⟨rfl, rfl⟩
theorem pcode_good {s : ByteArray} (h : s.size ≤ 4096) (h2 : pgood s) : pcode s = 0 ∧ pnum s = pv s s.size := by
  unfold pcode pnum
  rw [if_neg (by omega), if_pos h2, if_pos ⟨h, h2⟩]
  exact ⟨rfl, rfl⟩
end Go.Proofs.YtpcfncbcpknobaaGreatDoor
