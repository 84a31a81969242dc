/- Short names for the steps of the walks. No condition but those stated. -/
import Derived.Test.YtflhpdlecpehkaaDoorPI
import Derived.Test.YtflhpdlecpehkaaDoorPC
namespace Go.Proofs.YtflhpdlecpehkaaDoor
theorem rA {α : Type} {l : List α} {i : Nat} {a : α} : l.toArray.setIfInBounds i a = (l.set i a).toArray := List.setIfInBounds_toArray _ _ _
theorem rB {α : Type} {x : α} {l : List α} {a : α} : (x :: l).set 0 a = a :: l := rfl
theorem rC {α : Type} {x : α} {l : List α} {n : Nat} {a : α} : (x :: l).set (n + 1) a = x :: l.set n a := rfl
theorem rD {α : Type} {x : α} {l : List α} {n : Nat} : (x :: l).drop (n + 1) = l.drop n := rfl
theorem rE {α : Type} {l : List α} : l.drop 0 = l := rfl
open Go.RowKit
theorem sK {P : Program} {Q : Exit → Act → World → Prop} {c d : Code} {a : Act} {w : World} (h : ∀ K : Act → World → Prop, Hid (∀ a' w', d.wp P Q a' w' → K a' w') → c.wp P (Exit.then K Q) a w) : (c.seq d).wp P Q a w := wp_seq_k fun K hK => h K (Lib.hid hK)
theorem wlc {n k : Nat} (h : n < 4294967296 ∧ 1 ≤ k) : wl n ≤ k := Nat.le_trans (wl_small h.1) h.2
abbrev NX (w : World) (b n : Nat) : Prop := Bx w b 25 #[.int .u64 ((lo n : Nat) : Int), .string (bg n)]
end Go.Proofs.YtflhpdlecpehkaaDoor
namespace Go.Proofs.YtflhpdlecpehkaaDoor
open Go.RowKit
theorem bG {w w' : World} {b : Nat} {T : TypeId} {cs : Array Value} (h : Hid (Bx w b T cs)) (g : Hid (Gr w w')) : Hid (Bx w' b T cs) := Lib.hid (h.out.gr g.out)
theorem rG {w w' : World} {v : Value} {k : Nat} (h : Hid (Rn w v k)) (g : Hid (Gr w w')) : Hid (Rn w' v k) := Lib.hid (h.out.gr g.out)
theorem so3 {w : World} {g : Nat} {o0 o1 o2 : Nat} {v0 v1 v2 : Value} {b : Nat} {T : TypeId} {cs : Array Value} (h : Bx w b T cs) (e : b ≠ g) : Bx (((w.setCell ⟨g, o0, none⟩ v0).setCell ⟨g, o1, none⟩ v1).setCell ⟨g, o2, none⟩ v2) b T cs := (((h.setOther e _).setOther e _).setOther e _)
theorem sc3 {w : World} {g : Nat} {o0 o1 o2 : Nat} {v0 v1 v2 : Value} {B : Nat} {a : World} (h : Below B a w) (e : B ≤ g) : Below B a (((w.setCell ⟨g, o0, none⟩ v0).setCell ⟨g, o1, none⟩ v1).setCell ⟨g, o2, none⟩ v2) := (((h.setCell e _).setCell e _).setCell e _)
end Go.Proofs.YtflhpdlecpehkaaDoor
