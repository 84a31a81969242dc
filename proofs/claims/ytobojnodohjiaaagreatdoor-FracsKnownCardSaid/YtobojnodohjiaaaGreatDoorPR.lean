/- A pack of texts: Root, Root2. No condition but those stated. -/
import Derived.Test.YtobojnodohjiaaaGreatDoorPD
import Derived.Test.YtobojnodohjiaaaGreatDoorPB
import Derived.Test.YtobojnodohjiaaaGreatDoorPM
import Derived.Test.YtobojnodohjiaaaGreatDoorPC
set_option linter.unusedVariables false
set_option linter.unusedSimpArgs false
namespace Go.Proofs.YtobojnodohjiaaaGreatDoor
section
open Go.RowKit
theorem Bx.c0 {w w':World} {b:Nat} {T:TypeId} {u v:Value} (h:Bx w b T #[u,v]) (hg:Gr w w'):w'.cell? ⟨b,0,none⟩=some u:=by rw [h.cells w' hg];rfl
theorem Bx.c1 {w w':World} {b:Nat} {T:TypeId} {u v:Value} (h:Bx w b T #[u,v]) (hg:Gr w w'):w'.cell? ⟨b,1,none⟩=some v:=by rw [h.cells w' hg];rfl
theorem Bx.set2 {w:World} {b:Nat} {T:TypeId} {u v:Value} (h:Bx w b T #[u,v]) (u' v':Value):Bx ((w.setCell ⟨b,0,none⟩ u').setCell ⟨b,1,none⟩ v') b T #[u',v']:=(((h.set 0 _).set 1 _).eq rfl)
theorem Bx.keep2 {w:World} {b:Nat} {T:TypeId} {cs:Array Value} (h:Bx w b T cs) {b':Nat} (hb:b≠b') (u' v':Value):Bx ((w.setCell ⟨b',0,none⟩ u').setCell ⟨b',1,none⟩ v') b T cs:=(h.setOther hb _).setOther hb _
theorem qi0 {B:Nat} {w w':World} (h:Below B w w') {b:Nat} (hb:B≤b) (u' v':Value):Below B w ((w'.setCell ⟨b,0,none⟩ u').setCell ⟨b,1,none⟩ v'):=(h.setCell hb _).setCell hb _
end
section
open Go.RowKit
end
end Go.Proofs.YtobojnodohjiaaaGreatDoor
