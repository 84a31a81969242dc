
/- A slice that a walk makes and keeps. No condition but those stated. -/
import Derived.Test.YtaflakcemiilaaaGreatDoorHp
namespace Go.Proofs.YtaflakcemiilaaaGreatDoor
open Go.RowKit
theorem HP.grS {w0 W W' : World} {L : List Fk} {b T : Nat} {cs : Array Value} (h : HP w0 W L) (g : Gr W W') (hle : W.heap.size ≤ b) (hb : Bx W' b T cs) (hT : T ≠ 3) : HP w0 W' (L ++ [Sum.inl (b, T, cs)]) :=
  (h.gr g).add hb hT (Nat.le_trans h.1.size hle) (fun i x hx => by have := h.lt i x hx; omega)
end Go.Proofs.YtaflakcemiilaaaGreatDoor
