
/- plain facts of the laws of gussetlaw03. -/
import Derived.Test.YtobojnodohjiaaaGreatDoorHp2
namespace Go.Proofs.YtobojnodohjiaaaGreatDoor
open Go.RowKit
set_option linter.unusedSimpArgs false
set_option linter.unusedVariables false
attribute [local go_sem ↓] Go.wp_at_zero Go.wp_at_succ
theorem sz_great {i : Int} {m k : Nat} (h1 : wl i.natAbs ≤ k) (h2 : wl m ≤ k) : sz (mkRat i (m + 1)) ≤ k + 1 := by
  have h3 := wl_add m 1
  have h4 : wl 1 ≤ 1 := wl_small (by decide)
  have h5 : wl (m + 1) ≤ k + 1 := by
    rcases Nat.eq_zero_or_pos m with h | h
    · subst h; exact Nat.le_trans (wl_small (by decide)) (by omega)
    · have := wl_pos h
      omega
  exact sz_mkRat (by omega) h5 (by omega)
theorem sgQ_ne {b : Rat} (h : b ≠ 0) : ¬ sgQ b = 0 := by
  unfold sgQ; rw [if_neg h]; split <;> decide
end Go.Proofs.YtobojnodohjiaaaGreatDoor
