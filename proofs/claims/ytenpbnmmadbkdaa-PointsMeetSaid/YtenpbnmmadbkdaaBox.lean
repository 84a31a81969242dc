/- Blocks known whole, and how a region's walk uses them. No condition. -/
import Derived.Test.YtenpbnmmadbkdaaGrow
namespace Go.Proofs.Ytenpbnmmadbkdaa
open Go.RowKit

/-- block b holds the cells cs of type T, and none is frozen -/
def Bx (w : World) (b : Nat) (T : TypeId) (cs : Array Value) : Prop := w.heap[b]? = some (.cells cs T (0, 0))

section
variable {w w' : World} {b : Nat} {T : TypeId} {cs : Array Value}
theorem Bx.lt (h : Bx w b T cs) : b < w.heap.size := (Array.getElem?_eq_some_iff.1 h).1
theorem Bx.gr (h : Bx w b T cs) (hg : Gr w w') : Bx w' b T cs := hg.block h
theorem Bx.below {B : Nat} (h : Bx w b T cs) (hb : Below B w w') (hlt : b < B) : Bx w' b T cs := (hb.block b hlt).trans h
theorem Bx.cells (h : Bx w b T cs) : ∀ w', Gr w w' → ∀ i, w'.cell? ⟨b, i, none⟩ = cs[i]? := fun w' hg i => by
  have := h.gr hg
  unfold Bx at this
  simp [World.cell?, this]
theorem Bx.free (h : Bx w b T cs) : ∀ w', Gr w w' → ∀ i, w'.frozen? ⟨b, i, none⟩ = false := fun w' hg i => by
  have := h.gr hg
  unfold Bx at this
  simp [World.frozen?, this]
theorem Bx.new (w : World) (T : TypeId) (cs : Array Value) : Bx (w.alloc (.cells cs T)) w.heap.size T cs := by
  show (w.heap.push _)[w.heap.size]? = _
  simp
theorem Bx.at (h : w.heap.size = b) : Bx (w.alloc (.cells cs T)) b T cs := by subst h; exact Bx.new _ _ _
theorem Bx.alloc (h : Bx w b T cs) (o : Obj) : Bx (w.alloc o) b T cs := h.gr (Gr.alloc w o)
theorem Bx.set (h : Bx w b T cs) (i : Nat) (v : Value) : Bx (w.setCell ⟨b, i, none⟩ v) b T (cs.setIfInBounds i v) := by
  unfold Bx at *
  simp only [World.setCell, Array.getElem?_modify, if_pos]
  rw [h]
  rfl
theorem Bx.setOther (h : Bx w b T cs) {a : Addr} (ha : b ≠ a.block) (v : Value) : Bx (w.setCell a v) b T cs := (Below.heap_setCell w a v b ha).trans h
theorem Bx.eq {cs' : Array Value} (h : Bx w b T cs) (e : cs = cs') : Bx w b T cs' := e ▸ h
theorem Bx.of_fresh {Z : Nat → Obj} {is : List Nat} {G : Nat → Nat} (h : Fresh Z is G w w') {i : Nat} (hi : i ∈ is) (hz : Z i = .cells cs T) : Bx w' (G i) T cs := by
  have := (h.1 i hi).2
  rw [hz] at this
  exact this
end

/-- the world at hand is forgotten but for what F says of it -/
theorem forgetW {P : Program} {c : Code} {Q : Exit → Act → World → Prop} {a : Act} {W : World} (F : World → Prop) (hF : F W) (h : ∀ w, F w → c.wp P Q a w) : c.wp P Q a W := h W hF

theorem forgetB {P : Program} {f : Func} {R : Ending → World → Prop} {e : Exit} {a : Act} {W : World} (F : World → Prop) (hF : F W) (h : ∀ w, F w → bodyPost P f R e a w) : bodyPost P f R e a W := h W hF

/-- what follows a piece of code behind a variable -/
theorem wp_last_k {P : Program} {x : Code} {Q : Exit → Act → World → Prop} {a : Act} {w : World} (h : ∀ K : Act → World → Prop, (∀ a w, Q .normal a w → K a w) → x.wp P (Exit.then K Q) a w) : x.wp P Q a w :=
  wp_mono (h _ (fun _ _ h => h)) (fun e _ _ h => by cases e <;> exact h)
end Go.Proofs.Ytenpbnmmadbkdaa
