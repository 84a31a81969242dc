/- A pack of texts: Root, Root2. No condition but those stated. -/
import Derived.Test.YtobojnodohjiaaaGreatDoorPD
import Derived.Test.YtobojnodohjiaaaGreatDoorPB
import Derived.Test.YtobojnodohjiaaaGreatDoorPM
import Derived.Test.YtobojnodohjiaaaGreatDoorPC
set_option linter.unusedVariables false
set_option linter.unusedSimpArgs false

/- nats.Sqrt: the integer square root, plain, and the walk. -/
namespace Go.Proofs.YtobojnodohjiaaaGreatDoor
open Go.RowKit
set_option linter.unusedSimpArgs false
set_option linter.unusedVariables false

/-- a box of two cells -/
theorem Bx.c0 {w w' : World} {b : Nat} {T : TypeId} {u v : Value} (h : Bx w b T #[u, v]) (hg : Gr w w') : w'.cell? ⟨b, 0, none⟩ = some u := by rw [h.cells w' hg]; rfl
theorem Bx.c1 {w w' : World} {b : Nat} {T : TypeId} {u v : Value} (h : Bx w b T #[u, v]) (hg : Gr w w') : w'.cell? ⟨b, 1, none⟩ = some v := by rw [h.cells w' hg]; rfl
theorem below_set2 {B : Nat} {w w' : World} (h : Below B w w') {b : Nat} (hb : B ≤ b) (u' v' : Value) : Below B w ((w'.setCell ⟨b, 0, none⟩ u').setCell ⟨b, 1, none⟩ v') := (h.setCell hb _).setCell hb _
end Go.Proofs.YtobojnodohjiaaaGreatDoor


/- nats.Sqrt: the walk. -/
namespace Go.Proofs.YtobojnodohjiaaaGreatDoor
open Go.RowKit
set_option linter.unusedSimpArgs false
set_option linter.unusedVariables false

end Go.Proofs.YtobojnodohjiaaaGreatDoor
