
/- plain facts of FracsLists. No condition. -/
import Derived.Test.YtgdibedgjndcoaaGreatDoorHpB
namespace Go.Proofs.YtgdibedgjndcoaaGreatDoor
open Go.RowKit
set_option linter.unusedVariables false
abbrev mx : Int → Bool := fun c => decide (0 < c)
abbrev mi : Int → Bool := fun c => decide (c < 0)
theorem mx_iff (a b : Rat) : mx (sgQ (a - b)) = true ↔ b < a := by
  unfold sgQ
  by_cases h : a - b = 0
  · have : a = b := by grind
    subst this
    simp [Rat.lt_irrefl, Rat.sub_self]
  · rw [if_neg h]
    by_cases h2 : a - b < 0
    · rw [if_pos h2]
      have : ¬ b < a := by grind
      simp [this]
    · rw [if_neg h2]
      have : b < a := by grind
      simp [this]
theorem mi_iff (a b : Rat) : mi (sgQ (a - b)) = true ↔ a < b := by
  unfold sgQ
  by_cases h : a - b = 0
  · have : a = b := by grind
    subst this
    simp [Rat.lt_irrefl, Rat.sub_self]
  · rw [if_neg h]
    by_cases h2 : a - b < 0
    · rw [if_pos h2]
      have : a < b := by grind
      simp [this]
    · rw [if_neg h2]
      have : ¬ a < b := by grind
      simp [this]
theorem bst_mem (t : Int → Bool) (f : Nat → Rat) (n : Nat) (h : 0 < n) : ∃ i, i < n ∧ f i = bst t f n := by
  induction n with
  | zero => omega
  | succ n ih =>
    unfold bst
    by_cases h0 : n = 0
    · rw [if_pos h0]; exact ⟨0, by omega, rfl⟩
    · rw [if_neg h0]
      by_cases h1 : t (sgQ (f n - bst t f n)) = true
      · rw [if_pos h1]; exact ⟨n, by omega, rfl⟩
      · rw [if_neg h1]
        obtain ⟨i, hi, e⟩ := ih (by omega)
        exact ⟨i, by omega, e⟩
theorem bmax_le (f : Nat → Rat) (n : Nat) : ∀ i, i < n → f i ≤ bst mx f n := by
  induction n with
  | zero => intro i hi; omega
  | succ n ih =>
    intro i hi
    unfold bst
    by_cases h0 : n = 0
    · rw [if_pos h0]
      obtain rfl : i = 0 := by omega
      exact Rat.le_refl
    · rw [if_neg h0]
      by_cases h1 : mx (sgQ (f n - bst mx f n)) = true
      · rw [if_pos h1]
        have h2 := (mx_iff _ _).1 h1
        rcases Nat.lt_or_ge i n with h | h
        · have := ih i h; grind
        · obtain rfl : i = n := by omega
          exact Rat.le_refl
      · rw [if_neg h1]
        have h2 : ¬ bst mx f n < f n := fun h => h1 ((mx_iff _ _).2 h)
        rcases Nat.lt_or_ge i n with h | h
        · exact ih i h
        · obtain rfl : i = n := by omega
          exact Rat.not_lt.1 h2
theorem bmin_le (f : Nat → Rat) (n : Nat) : ∀ i, i < n → bst mi f n ≤ f i := by
  induction n with
  | zero => intro i hi; omega
  | succ n ih =>
    intro i hi
    unfold bst
    by_cases h0 : n = 0
    · rw [if_pos h0]
      obtain rfl : i = 0 := by omega
      exact Rat.le_refl
    · rw [if_neg h0]
      by_cases h1 : mi (sgQ (f n - bst mi f n)) = true
      · rw [if_pos h1]
        have h2 := (mi_iff _ _).1 h1
        rcases Nat.lt_or_ge i n with h | h
        · have := ih i h; grind
        · obtain rfl : i = n := by omega
          exact Rat.le_refl
      · rw [if_neg h1]
        have h2 : ¬ f n < bst mi f n := fun h => h1 ((mi_iff _ _).2 h)
        rcases Nat.lt_or_ge i n with h | h
        · exact ih i h
        · obtain rfl : i = n := by omega
          exact Rat.not_lt.1 h2
/-- the list turned by k -/
def rot (f : Nat → Rat) (k n i : Nat) : Rat := if i < n - k then f (k + i) else f (i - (n - k))
theorem rot_in (f : Nat → Rat) (k n i : Nat) (hk : k < n) (hi : i < n) : ∃ j, j < n ∧ rot f k n i = f j := by
  unfold rot
  split
  · exact ⟨k + i, by omega, rfl⟩
  · exact ⟨i - (n - k), by omega, rfl⟩
theorem rot_out (f : Nat → Rat) (k n j : Nat) (hk : k < n) (hj : j < n) : ∃ i, i < n ∧ rot f k n i = f j := by
  unfold rot
  by_cases h : k ≤ j
  · exact ⟨j - k, by omega, by rw [if_pos (by omega), show k + (j - k) = j by omega]⟩
  · exact ⟨j + (n - k), by omega, by rw [if_neg (by omega), Nat.add_sub_cancel]⟩
theorem rot_max (f : Nat → Rat) (k n : Nat) (hk : k < n) : bst mx (rot f k n) n = bst mx f n := by
  obtain ⟨i, hi, ei⟩ := bst_mem mx (rot f k n) n (by omega)
  obtain ⟨j, hj, ej⟩ := bst_mem mx f n (by omega)
  obtain ⟨i', hi', ei'⟩ := rot_in f k n i hk hi
  obtain ⟨j', hj', ej'⟩ := rot_out f k n j hk hj
  have h1 := bmax_le f n i' hi'
  have h2 := bmax_le (rot f k n) n j' hj'
  rw [← ei', ei] at h1
  rw [ej', ej] at h2
  exact Rat.le_antisymm h1 h2
theorem rot_min (f : Nat → Rat) (k n : Nat) (hk : k < n) : bst mi (rot f k n) n = bst mi f n := by
  obtain ⟨i, hi, ei⟩ := bst_mem mi (rot f k n) n (by omega)
  obtain ⟨j, hj, ej⟩ := bst_mem mi f n (by omega)
  obtain ⟨i', hi', ei'⟩ := rot_in f k n i hk hi
  obtain ⟨j', hj', ej'⟩ := rot_out f k n j hk hj
  have h1 := bmin_le f n i' hi'
  have h2 := bmin_le (rot f k n) n j' hj'
  rw [← ei', ei] at h1
  rw [ej', ej] at h2
  exact Rat.le_antisymm h2 h1
theorem qsum_add (f : Nat → Rat) (n m : Nat) : qsum f (n + m) = qsum f n + qsum (fun i => f (n + i)) m := by
  induction m with
  | zero => show qsum f n = qsum f n + 0; grind
  | succ m ih =>
    show qsum f (n + m) + f (n + m) = qsum f n + (qsum (fun i => f (n + i)) m + f (n + m))
    rw [ih]; grind
theorem qsum_eq (f g : Nat → Rat) (n : Nat) (h : ∀ i, i < n → f i = g i) : qsum f n = qsum g n := by
  induction n with
  | zero => rfl
  | succ n ih =>
    show qsum f n + f n = qsum g n + g n
    rw [ih (fun i hi => h i (by omega)), h n (by omega)]
theorem rot_sum (f : Nat → Rat) (k n : Nat) (hk : k < n) : qsum (rot f k n) n = qsum f n := by
  have h1 : qsum (rot f k n) ((n - k) + k) = _ := qsum_add _ _ _
  have h2 : qsum f (k + (n - k)) = _ := qsum_add _ _ _
  rw [show n - k + k = n by omega] at h1
  rw [show k + (n - k) = n by omega] at h2
  rw [h1, h2, qsum_eq (rot f k n) (fun i => f (k + i)) (n - k) (fun i hi => by unfold rot; rw [if_pos hi]), qsum_eq (fun i => rot f k n (n - k + i)) f k (fun i hi => by
    show rot f k n (n - k + i) = _
    unfold rot
    rw [if_neg (by omega), Nat.add_sub_cancel_left])]
  grind
/-- the cells of the list that is turned -/
theorem rot_cells (f : Nat → Rat) (k n : Nat) (hk : k < n) : fcs (fun i => f (k + i)) (n - k) ++ fcs f k = fcs (rot f k n) n := by
  have h1 : fcs (rot f k n) ((n - k) + k) = _ := fcs_add _ _ _
  rw [show n - k + k = n by omega] at h1
  rw [h1, fcs_eq (rot f k n) (fun i => f (k + i)) (n - k) (fun i hi => by unfold rot; rw [if_pos hi]), fcs_eq (fun i => rot f k n (n - k + i)) f k (fun i hi => by
    show rot f k n (n - k + i) = _
    unfold rot
    rw [if_neg (by omega), Nat.add_sub_cancel_left])]
end Go.Proofs.YtgdibedgjndcoaaGreatDoor
