
/- Decimal forms and numbers: each is the other's inverse; forms of one length stand as the numbers. Plain; no condition. -/
import Derived.Test.YtaflakcemiilaaaGreatDoorPE
import Derived.Test.YtaflakcemiilaaaGreatDoorPP
namespace Go.Proofs.YtaflakcemiilaaaGreatDoor
set_option linter.unusedSimpArgs false
set_option linter.unusedVariables false

theorem size_mk (l : List UInt8) : (⟨l.toArray⟩ : ByteArray).size = l.length := by simp [ByteArray.size]
end Go.Proofs.YtaflakcemiilaaaGreatDoor
