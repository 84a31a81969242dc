/- A pack of texts: Pow, Pow2, Pow3, Pow4. No condition but those stated. -/
import Derived.Test.YtflhpdlecpehkaaDoorPA
import Derived.Test.YtflhpdlecpehkaaDoorPM
import Derived.Test.YtflhpdlecpehkaaDoorPC
set_option linter.unusedVariables false
set_option linter.unusedSimpArgs false

/- nats.U64, nats.Bits. No condition but a bound on lengths. -/
namespace Go.Proofs.YtflhpdlecpehkaaDoor
open Go.RowKit
set_option linter.unusedSimpArgs false
set_option linter.unusedVariables false

/-- the number of binary digits -/
def nb (n : Nat) : Nat := if n = 0 then 0 else Nat.log2 n + 1
theorem nb_le {n k : Nat} : nb n ≤ k ↔ n < 2 ^ k := by
  unfold nb
  split
  · next h => subst h; simp [Nat.pow_pos]
  · next h => rw [← Nat.log2_lt h]; omega
theorem nb_half {x : Nat} (h : x ≠ 0) : nb x = 1 + nb (x / 2) := by
  have h1 : ∀ k, nb x ≤ k + 1 ↔ nb (x / 2) ≤ k := fun k => by rw [nb_le, nb_le, Nat.pow_succ, Nat.div_lt_iff_lt_mul (by decide)]
  have h2 : 0 < nb x := by
    rcases Nat.eq_zero_or_pos (nb x) with e | e
    · have := nb_le.1 (Nat.le_of_eq e); simp at this; exact absurd this h
    · exact e
  have h3 := (h1 (nb x - 1)).1 (by omega)
  have h4 := (h1 (nb (x / 2))).2 (Nat.le_refl _)
  omega
theorem bitLen_nb (x : Nat) (h : x < 18446744073709551616) : Lib.bitLen x = nb x := by
  induction x using Nat.strongRecOn with
  | ind x ih =>
    by_cases h0 : x = 0
    · subst h0; rfl
    · rw [Lib.bitLen_half x h0 (by simpa using h), nb_half h0, ih (x / 2) (by omega) (by omega)]
theorem nb_words {n : Nat} (h : 0 < n) : 32 * (wl n - 1) + nb (dg n (wl n - 1)) = nb n := by
  have hp := wl_pos h
  obtain ⟨k, hk⟩ : ∃ k, wl n = k + 1 := ⟨wl n - 1, by omega⟩
  rw [hk, Nat.add_sub_cancel]
  have h1 : bp k ≤ n := lt_wl.1 (by omega)
  have h2 := lt_bp_wl n
  rw [hk, bp_succ, Nat.mul_comm] at h2
  have h3 : dg n k = n / bp k := by
    unfold dg
    exact Nat.mod_eq_of_lt (Nat.div_lt_of_lt_mul (by rw [Nat.mul_comm] at h2; rw [Nat.mul_comm]; exact h2))
  rw [h3]
  have h4 : ∀ j, nb (n / bp k) ≤ j ↔ nb n ≤ 32 * k + j := fun j => by
    rw [nb_le, nb_le, Nat.div_lt_iff_lt_mul (bp_pos k), bp_eq, ← Nat.pow_add, Nat.add_comm j]
  have h5 := (h4 (nb (n / bp k))).1 (Nat.le_refl _)
  have h6 : 32 * k ≤ nb n := by
    rcases Nat.le_total (32 * k) (nb n) with e | e
    · exact e
    · have : n < 2 ^ (32 * k) := nb_le.1 e
      rw [← bp_eq] at this
      omega
  have h7 := (h4 (nb n - 32 * k)).2 (by omega)
  omega

end Go.Proofs.YtflhpdlecpehkaaDoor


/- nats.U64, nats.Pow. No condition but a bound on lengths. -/
namespace Go.Proofs.YtflhpdlecpehkaaDoor
open Go.RowKit
set_option linter.unusedSimpArgs false
set_option linter.unusedVariables false

set_option maxRecDepth 20000 in
set_option maxHeartbeats 1000000 in
theorem u64_any (n : Nat) (w : World) :
    Calls Tryd.prog 51 #[(Value.agg #[.int .u64 ((lo (n) : Nat) : Int), .string (bg (n))])] w fun e w' => e = .returned (.tuple #[.int .u64 ((lo n : Nat) : Int), .bool (decide (n < 18446744073709551616))]) ∧ Below w.heap.size w w' := by
  obtain ⟨W0, HW⟩ : ∃ W0, Hid (w.alloc (.cells #[.int .u64 ((lo n : Nat) : Int), .string (bg n)] 25) = W0) := ⟨_, Lib.hid rfl⟩
  have HB0 : Hid (Below w.heap.size w W0) := Lib.hid (by rw [← HW.out]; exact (Below.refl _ _).alloc (Nat.le_refl _) _)
  have bx : Bx W0 w.heap.size 25 #[.int .u64 ((lo n : Nat) : Int), .string (bg n)] := by rw [← HW.out]; exact Bx.new _ _ _
  have c0 : W0.cell? ⟨w.heap.size, 0, none⟩ = some (.int .u64 ((lo n : Nat) : Int)) := by rw [bx.cells W0 (Gr.refl _)]; rfl
  have c1 : W0.cell? ⟨w.heap.size, 1, none⟩ = some (.string (bg n)) := by rw [bx.cells W0 (Gr.refl _)]; rfl
  clear bx
  by_cases h : n < 18446744073709551616
  · have p1 : (bg n).toList.isEmpty = true := by rw [isEmpty_bg, decide_eq_true h]
    have HD := Lib.hid (decide_eq_true h)
    clear h
    go_enter Tryd.func51, Tryd.ntmps51
    go_wp2_with fail
    rw [HW.out]
    go_quiet (fail)
    go_wp2
    go_ret2
    exact ⟨by rw [HD.out]; rfl, below_drewN HB0.out _⟩
  · have p1 : (bg n).toList.isEmpty = false := by rw [isEmpty_bg, decide_eq_false h]
    have HD := Lib.hid (decide_eq_false h)
    clear h
    go_enter Tryd.func51, Tryd.ntmps51
    go_wp2_with fail
    rw [HW.out]
    go_quiet (fail)
    go_wp2
    go_ret2
    exact ⟨by rw [HD.out]; rfl, below_drewN HB0.out _⟩

theorem nb_mul (a b : Nat) : nb (a * b) ≤ nb a + nb b := by
  rw [nb_le, Nat.pow_add]
  have h1 : a < 2 ^ nb a := nb_le.1 (Nat.le_refl _)
  have h2 : b < 2 ^ nb b := nb_le.1 (Nat.le_refl _)
  exact Nat.mul_lt_mul_of_lt_of_le h1 (Nat.le_of_lt h2) (Nat.pow_pos (by decide))
theorem nb_pow (a n : Nat) (hn : 0 < n) : nb (a ^ n) ≤ n * nb a := by
  induction n with
  | zero => omega
  | succ n ih =>
    by_cases h : n = 0
    · subst h; simp
    · rw [Nat.pow_succ, Nat.succ_mul]
      have h1 := nb_mul (a ^ n) a
      have h2 := ih (by omega)
      omega
theorem wl_nb {n k : Nat} (h : nb n ≤ 32 * k) : wl n ≤ k := by
  rw [wl_le, bp_eq]
  exact nb_le.1 h
theorem nb_wl (n : Nat) : nb n ≤ 32 * wl n := by
  rw [nb_le, ← bp_eq]
  exact lt_bp_wl n
theorem wl_pow (a n : Nat) (h : n * nb a ≤ 262144) : wl (a ^ n) ≤ 8192 := by
  by_cases h0 : n = 0
  · subst h0
    exact Nat.le_trans (wl_small (n := a ^ 0) (by simp)) (by decide)
  · exact wl_nb (Nat.le_trans (nb_pow a n (by omega)) h)
/-- the state of the loop of Pow: out and a -/
def PowAt (A N k a o : Nat) : Prop := o * a ^ k = A ^ N ∧ (o = 0 → a = 0) ∧ wl a ≤ 10000 ∧ wl o ≤ 10000
theorem PowAt.odd {A N k a o : Nat} (h : PowAt A N (k + 1) a o) (hp : wl (A ^ N) ≤ 8192) : PowAt A N k a (o * a) := by
  obtain ⟨h1, h2, h3, h4⟩ := h
  have e : o * a * a ^ k = A ^ N := by rw [← h1, Nat.pow_succ, Nat.mul_assoc, Nat.mul_comm a]
  refine ⟨e, fun h => ?_, h3, ?_⟩
  · rcases Nat.mul_eq_zero.1 h with h | h
    · exact h2 h
    · exact h
  · by_cases ha : a = 0
    · subst ha; rw [Nat.mul_zero]; exact Nat.zero_le _
    · have : o * a ≤ A ^ N := by
        rw [← e]
        exact Nat.le_mul_of_pos_right _ (Nat.pow_pos (by omega))
      exact Nat.le_trans (wl_mono this) (by omega)
theorem PowAt.sq {A N k a o : Nat} (h : PowAt A N (2 * k) a o) (hk : 0 < k) (hp : wl (A ^ N) ≤ 8192) : PowAt A N k (a * a) o := by
  obtain ⟨h1, h2, h3, h4⟩ := h
  have e : o * (a * a) ^ k = A ^ N := by rw [← h1, Nat.pow_mul, Nat.pow_two]
  refine ⟨e, fun h => by rw [h2 h], ?_, h4⟩
  by_cases ho : o = 0
  · rw [h2 ho]; exact Nat.zero_le _
  · have h5 : a * a ≤ (a * a) ^ k := by
      by_cases ha : a * a = 0
      · rw [ha]; exact Nat.zero_le _
      · obtain ⟨j, rfl⟩ : ∃ j, k = j + 1 := ⟨k - 1, by omega⟩
        rw [Nat.pow_succ]
        exact Nat.le_mul_of_pos_left _ (Nat.pow_pos (by omega))
    have h6 : (a * a) ^ k ≤ A ^ N := by rw [← e]; exact Nat.le_mul_of_pos_left _ (by omega)
    exact Nat.le_trans (wl_mono (Nat.le_trans h5 h6)) (by omega)
end Go.Proofs.YtflhpdlecpehkaaDoor


/- nats.Pow: the walk. No condition but a bound on lengths. -/
namespace Go.Proofs.YtflhpdlecpehkaaDoor
open Go.RowKit
set_option linter.unusedSimpArgs false
set_option linter.unusedVariables false

theorem of_one (w : World) : Calls Tryd.prog 48 #[.int .u64 1] w fun e w' => e = .returned (Value.agg #[.int .u64 ((lo (1) : Nat) : Int), .string (bg (1))]) ∧ Below w.heap.size w w' := of_small 1 w (by decide) (by decide)
theorem and1 (g : Nat) (h : g ≤ 4096) : bits .and .i64 (g : Int) 1 = ((g % 2 : Nat) : Int) := by
  have h1 := bits_nat .i64 62 (by decide) (fun n h0 h1 => by rw [IntKind.wrap_i64]; omega) g 1 (by omega) (by decide)
  have := h1.1
  rw [show ((1 : Nat) : Int) = 1 from rfl] at this
  rw [this, Nat.and_one_is_mod]
end Go.Proofs.YtflhpdlecpehkaaDoor


/- nats.Pow: exponents that are refused. -/
namespace Go.Proofs.YtflhpdlecpehkaaDoor
open Go.RowKit
set_option linter.unusedSimpArgs false
set_option linter.unusedVariables false

theorem lo_zero : lo 0 = 0 := lo_small (by decide)
theorem bg_zero : bg 0 = ⟨#[]⟩ := bg_small (by decide)
theorem zero_eq : (.agg #[.int .u64 0, .string ⟨#[]⟩] : Value) = (Value.agg #[.int .u64 ((lo (0) : Nat) : Int), .string (bg (0))]) := by rw [lo_zero, bg_zero]; rfl

end Go.Proofs.YtflhpdlecpehkaaDoor
