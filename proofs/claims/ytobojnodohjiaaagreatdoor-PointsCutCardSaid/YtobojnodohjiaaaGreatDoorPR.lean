/- A pack of texts: Root, Root2. No condition but those stated. -/
import Derived.Test.YtobojnodohjiaaaGreatDoorPD
import Derived.Test.YtobojnodohjiaaaGreatDoorPB
import Derived.Test.YtobojnodohjiaaaGreatDoorPM
import Derived.Test.YtobojnodohjiaaaGreatDoorPC
set_option linter.unusedVariables false
set_option linter.unusedSimpArgs false
/- nats.Sqrt: the integer square root, plain, and the walk. -/
namespace Go.Proofs.YtobojnodohjiaaaGreatDoor
open Go.RowKit
theorem Bx.c0 {w w' : World} {b : Nat} {T : TypeId} {u v : Value} (h : Bx w b T #[u, v]) (hg : Gr w w') : w'.cell? ⟨b, 0, none⟩ = some u := by rw [h.cells w' hg]; rfl
theorem Bx.c1 {w w' : World} {b : Nat} {T : TypeId} {u v : Value} (h : Bx w b T #[u, v]) (hg : Gr w w') : w'.cell? ⟨b, 1, none⟩ = some v := by rw [h.cells w' hg]; rfl
end Go.Proofs.YtobojnodohjiaaaGreatDoor
/- nats.Sqrt: the walk. -/
namespace Go.Proofs.YtobojnodohjiaaaGreatDoor
open Go.RowKit
end Go.Proofs.YtobojnodohjiaaaGreatDoor
