/- A pack of texts: Pow, Pow2, Pow3, Pow4. No condition but those stated. -/
import Derived.Test.YtobojnodohjiaaaGreatDoorPA
import Derived.Test.YtobojnodohjiaaaGreatDoorPM
import Derived.Test.YtobojnodohjiaaaGreatDoorPC
set_option linter.unusedVariables false
set_option linter.unusedSimpArgs false
/- nats.U64, nats.Bits. No condition but a bound on lengths. -/
namespace Go.Proofs.YtobojnodohjiaaaGreatDoor
open Go.RowKit
def nb (n : Nat) : Nat := if n = 0 then 0 else Nat.log2 n + 1
theorem nb_le {n k : Nat} : nb n ≤ k ↔ n < 2 ^ k := by
  unfold nb
  split
  · next h => subst h; simp [Nat.pow_pos]
  · next h => rw [← Nat.log2_lt h]; omega
end Go.Proofs.YtobojnodohjiaaaGreatDoor
/- nats.U64, nats.Pow. No condition but a bound on lengths. -/
namespace Go.Proofs.YtobojnodohjiaaaGreatDoor
open Go.RowKit
theorem nb_wl (n : Nat) : nb n ≤ 32 * wl n := by
  rw [nb_le, ← bp_eq]
  exact lt_bp_wl n
def PowAt (A N k a o : Nat) : Prop := o * a ^ k = A ^ N ∧ (o = 0 → a = 0) ∧ wl a ≤ 10000 ∧ wl o ≤ 10000
theorem PowAt.sq {A N k a o : Nat} (h : PowAt A N (2 * k) a o) (hk : 0 < k) (hp : wl (A ^ N) ≤ 8192) : PowAt A N k (a * a) o := by
  obtain ⟨h1, h2, h3, h4⟩ := h
  have e : o * (a * a) ^ k = A ^ N := by rw [← h1, Nat.pow_mul, Nat.pow_two]
  refine ⟨e, fun h => by rw [h2 h], ?_, h4⟩
  by_cases ho : o = 0
  · rw [h2 ho]; exact Nat.zero_le _
  · have h5 : a * a ≤ (a * a) ^ k := by
      by_cases ha : a * a = 0
      · rw [ha]; exact Nat.zero_le _
      · obtain ⟨j, rfl⟩ : ∃ j, k = j + 1 := ⟨k - 1, by omega⟩
        rw [Nat.pow_succ]
        exact Nat.le_mul_of_pos_left _ (Nat.pow_pos (by omega))
    have h6 : (a * a) ^ k ≤ A ^ N := by rw [← e]; exact Nat.le_mul_of_pos_left _ (by omega)
    exact Nat.le_trans (wl_mono (Nat.le_trans h5 h6)) (by omega)
end Go.Proofs.YtobojnodohjiaaaGreatDoor
/- nats.Pow: the walk. No condition but a bound on lengths. -/
namespace Go.Proofs.YtobojnodohjiaaaGreatDoor
open Go.RowKit
end Go.Proofs.YtobojnodohjiaaaGreatDoor
/- nats.Pow: exponents that are refused. -/
namespace Go.Proofs.YtobojnodohjiaaaGreatDoor
open Go.RowKit
end Go.Proofs.YtobojnodohjiaaaGreatDoor
