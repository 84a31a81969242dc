
/- gussetref23.Cut. -/
import Derived.Test.YtobojnodohjiaaaGreatDoorRCutE
import Derived.Test.YtobojnodohjiaaaGreatDoorRCutN
set_option linter.unusedVariables false
set_option linter.unusedSimpArgs false
namespace Go.Proofs.YtobojnodohjiaaaGreatDoor
open Go.RowKit
attribute [local go_sem ↓] Go.wp_at_zero Go.wp_at_succ
theorem rpcut23 (a1 a2 b1 b2 c1 c2 d1 d2 z1 z2 : Rat) (m : Int) (va11 va12 va21 va22 vb11 vb12 vb21 vb22 vc11 vc12 vc21 vc22 vd11 vd12 vd21 vd22 : Value) (w : World) (hc : cutR (a1, a2) (b1, b2) (c1, c2) (d1, d2) = (m, (z1, z2))) (hs_a1 : rz a1 ≤ 100) (hs_a2 : rz a2 ≤ 100) (hs_b1 : rz b1 ≤ 100) (hs_b2 : rz b2 ≤ 100) (hs_c1 : rz c1 ≤ 100) (hs_c2 : rz c2 ≤ 100) (hs_d1 : rz d1 ≤ 100) (hs_d2 : rz d2 ≤ 100) (bx21 : Rn w va11 (Int.natAbs ((a1).num))) (bx22 : Rn w va12 ((a1).den - 1)) (bx23 : Rn w va21 (Int.natAbs ((a2).num))) (bx24 : Rn w va22 ((a2).den - 1)) (bx25 : Rn w vb11 (Int.natAbs ((b1).num))) (bx26 : Rn w vb12 ((b1).den - 1)) (bx27 : Rn w vb21 (Int.natAbs ((b2).num))) (bx28 : Rn w vb22 ((b2).den - 1)) (bx29 : Rn w vc11 (Int.natAbs ((c1).num))) (bx30 : Rn w vc12 ((c1).den - 1)) (bx31 : Rn w vc21 (Int.natAbs ((c2).num))) (bx32 : Rn w vc22 ((c2).den - 1)) (bx33 : Rn w vd11 (Int.natAbs ((d1).num))) (bx34 : Rn w vd12 ((d1).den - 1)) (bx35 : Rn w vd21 (Int.natAbs ((d2).num))) (bx36 : Rn w vd22 ((d2).den - 1)) :
    Calls Tryz.prog 18 #[(Value.agg #[.bool (decide ((a1).num < 0)), va11, va12, .bool (decide ((a2).num < 0)), va21, va22]), (Value.agg #[.bool (decide ((b1).num < 0)), vb11, vb12, .bool (decide ((b2).num < 0)), vb21, vb22]), (Value.agg #[.bool (decide ((c1).num < 0)), vc11, vc12, .bool (decide ((c2).num < 0)), vc21, vc22]), (Value.agg #[.bool (decide ((d1).num < 0)), vd11, vd12, .bool (decide ((d2).num < 0)), vd21, vd22])] w fun e w' => (∃ r1 r2 r3 r4 : Value, e = .returned (.tuple #[.int .i64 m, .agg #[.bool (decide ((z1).num < 0)), r1, r2, .bool (decide ((z2).num < 0)), r3, r4]]) ∧ Rn w' r1 (Int.natAbs ((z1).num)) ∧ Rn w' r2 ((z1).den - 1) ∧ Rn w' r3 (Int.natAbs ((z2).num)) ∧ Rn w' r4 ((z2).den - 1)) ∧ Below w.heap.size w w' := by
  by_cases hn : ends (a1, a2) (b1, b2) (c1, c2) (d1, d2) = []
  · have no : ∀ x, x ∉ ends (a1, a2) (b1, b2) (c1, c2) (d1, d2) := fun x hx => by rw [hn] at hx; cases hx
    have f : ∀ r : Bool, ¬ r = true → r = false := fun r h => by
      cases r
      · rfl
      · exact absurd rfl h
    exact rpcut_line a1 a2 b1 b2 c1 c2 d1 d2 z1 z2 m va11 va12 va21 va22 vb11 vb12 vb21 vb22 vc11 vc12 vc21 vc22 vd11 vd12 vd21 vd22 w (Lib.hid (f _ fun h => no _ (mem_ends.2 (.inl ⟨h, rfl⟩)))) (Lib.hid (f _ fun h => no _ (mem_ends.2 (.inr (.inl ⟨h, rfl⟩))))) (Lib.hid (f _ fun h => no _ (mem_ends.2 (.inr (.inr (.inl ⟨h, rfl⟩)))))) (Lib.hid (f _ fun h => no _ (mem_ends.2 (.inr (.inr (.inr ⟨h, rfl⟩)))))) (Lib.hid hn) (Lib.hid hc) hs_a1 hs_a2 hs_b1 hs_b2 hs_c1 hs_c2 hs_d1 hs_d2 bx21 bx22 bx23 bx24 bx25 bx26 bx27 bx28 bx29 bx30 bx31 bx32 bx33 bx34 bx35 bx36
  · exact rpcut_ends a1 a2 b1 b2 c1 c2 d1 d2 z1 z2 _ _ _ _ m va11 va12 va21 va22 vb11 vb12 vb21 vb22 vc11 vc12 vc21 vc22 vd11 vd12 vd21 vd22 w (Lib.hid rfl) (Lib.hid rfl) (Lib.hid rfl) (Lib.hid rfl) (Lib.hid hn) (Lib.hid hc) hs_a1 hs_a2 hs_b1 hs_b2 hs_c1 hs_c2 hs_d1 hs_d2 bx21 bx22 bx23 bx24 bx25 bx26 bx27 bx28 bx29 bx30 bx31 bx32 bx33 bx34 bx35 bx36
end Go.Proofs.YtobojnodohjiaaaGreatDoor
