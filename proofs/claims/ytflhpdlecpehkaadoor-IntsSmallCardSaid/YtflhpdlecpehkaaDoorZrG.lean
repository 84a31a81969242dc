
/- gussetref02.Gcd. -/
import Derived.Test.YtflhpdlecpehkaaDoorZrA
import Derived.Test.YtflhpdlecpehkaaDoorIntDivP
namespace Go.Proofs.YtflhpdlecpehkaaDoor
open Go.RowKit
set_option linter.unusedSimpArgs false
set_option linter.unusedVariables false
attribute [local go_sem ↓] Go.wp_at_zero Go.wp_at_succ
/-- three blocks may have turned, the others not -/
def Kp3 (B : Nat) (W w' : World) : Prop := W.heap.size ≤ w'.heap.size ∧ ∀ b, b < W.heap.size → b ≠ B → b ≠ B + 1 → b ≠ B + 1 + 1 → w'.heap[b]? = W.heap[b]?
theorem Gr.block' {W w' : World} (h : Gr W w') (b : Nat) (hb : b < W.heap.size) : w'.heap[b]? = W.heap[b]? := Below.block h b hb
theorem Kp3.of {B : Nat} {W w' : World} (h : Gr W w') : Kp3 B W w' := ⟨h.size, fun b hb _ _ _ => h.block' b hb⟩
theorem Kp3.setAny {B : Nat} {W w' : World} (h : Kp3 B W w') (a : Addr) (ha : a.block = B ∨ a.block = B + 1 ∨ a.block = B + 1 + 1) (v : Value) : Kp3 B W (w'.setCell a v) :=
  ⟨by simpa using h.1, fun b hb h0 h1 h2 => (Below.heap_setCell w' a v b (by rintro rfl; omega)).trans (h.2 b hb h0 h1 h2)⟩
theorem Kp3.set0 {B : Nat} {W w' : World} (h : Kp3 B W w') (i : Nat) (v : Value) : Kp3 B W (w'.setCell ⟨B, i, none⟩ v) := h.setAny _ (.inl rfl) v
theorem Kp3.set1 {B : Nat} {W w' : World} (h : Kp3 B W w') (i : Nat) (v : Value) : Kp3 B W (w'.setCell ⟨B + 1, i, none⟩ v) := h.setAny _ (.inr (.inl rfl)) v
theorem Kp3.set2 {B : Nat} {W w' : World} (h : Kp3 B W w') (i : Nat) (v : Value) : Kp3 B W (w'.setCell ⟨B + 1 + 1, i, none⟩ v) := h.setAny _ (.inr (.inr rfl)) v
theorem Kp3.held (B : Nat) (W : World) : ∀ w' : World, Kp3 B W w' → ∀ b o, b < W.heap.size → b ≠ B → b ≠ B + 1 → b ≠ B + 1 + 1 → w'.cell? ⟨b, o, none⟩ = W.cell? ⟨b, o, none⟩ := fun w' h b o hb h0 h1 h2 => by
  unfold World.cell?; rw [h.2 b hb h0 h1 h2]

theorem tw_egcd (a b : Int) (h1 : tw a.natAbs ≤ 20000000) (h2 : tw b.natAbs ≤ 20000000) : tw (egcd a b).1.natAbs ≤ 20000004 ∧ tw (egcd a b).2.1.natAbs ≤ 20000004 ∧ tw (egcd a b).2.2.natAbs ≤ 20000004 := by
  have hs := egcd_small a b
  have hsum : tw (5 * (a.natAbs + b.natAbs) + 5) ≤ 20000004 := by
    have e1 := tw_add a.natAbs b.natAbs
    have e2 := tw_mul 5 (a.natAbs + b.natAbs)
    have e3 := tw_add (5 * (a.natAbs + b.natAbs)) 5
    have e4 : tw 5 ≤ 1 := tw_le.2 (by decide)
    omega
  refine ⟨?_, Nat.le_trans (tw_mono hs.1) hsum, Nat.le_trans (tw_mono hs.2) hsum⟩
  rw [(egcd_gcd _ a b (Nat.le_refl _)).1, Int.natAbs_natCast]
  have := tw_gcd a.natAbs b.natAbs
  omega
end Go.Proofs.YtflhpdlecpehkaaDoor
