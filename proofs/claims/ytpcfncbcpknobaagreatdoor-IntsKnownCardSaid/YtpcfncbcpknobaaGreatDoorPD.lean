/- A pack of texts: Pow, Pow2, Pow3, Pow4. No condition but those stated. -/
import Derived.Test.YtpcfncbcpknobaaGreatDoorPA
import Derived.Test.YtpcfncbcpknobaaGreatDoorPM
import Derived.Test.YtpcfncbcpknobaaGreatDoorPC
set_option linter.unusedVariables false
set_option linter.unusedSimpArgs false

/- nats.U64, nats.Bits. No condition but a bound on lengths. -/
namespace Go.Proofs.YtpcfncbcpknobaaGreatDoor
open Go.RowKit
set_option linter.unusedSimpArgs false
set_option linter.unusedVariables false

/-- the number of binary digits -/
def nb (n : Nat) : Nat := if n = 0 then 0 else Nat.log2 n + 1
theorem nb_le {n k : Nat} : nb n ≤ k ↔ n < 2 ^ k := by
  unfold nb
  split
  · next h => subst h; simp [Nat.pow_pos]
  · next h => rw [← Nat.log2_lt h]; omega
end Go.Proofs.YtpcfncbcpknobaaGreatDoor


/- nats.U64, nats.Pow. No condition but a bound on lengths. -/
namespace Go.Proofs.YtpcfncbcpknobaaGreatDoor
open Go.RowKit
set_option linter.unusedSimpArgs false
set_option linter.unusedVariables false

set_option maxRecDepth 20000 in
set_option maxHeartbeats 1000000 in
theorem u64_any (n : Nat) (w : World) :
    Calls Tryz.prog 122 #[(Value.agg #[.int .u64 ((lo (n) : Nat) : Int), .string (bg (n))])] w fun e w' => e = .returned (.tuple #[.int .u64 ((lo n : Nat) : Int), .bool (decide (n < 18446744073709551616))]) ∧ Below w.heap.size w w' := by
  obtain ⟨W0, HW⟩ : ∃ W0, Hid (w.alloc (.cells #[.int .u64 ((lo n : Nat) : Int), .string (bg n)] 34) = W0) := ⟨_, Lib.hid rfl⟩
  have HB0 : Hid (Below w.heap.size w W0) := Lib.hid (by rw [← HW.out]; exact (Below.refl _ _).alloc (Nat.le_refl _) _)
  have bx : Bx W0 w.heap.size 34 #[.int .u64 ((lo n : Nat) : Int), .string (bg n)] := by rw [← HW.out]; exact Bx.new _ _ _
  have c0 : W0.cell? ⟨w.heap.size, 0, none⟩ = some (.int .u64 ((lo n : Nat) : Int)) := by rw [bx.cells W0 (Gr.refl _)]; rfl
  have c1 : W0.cell? ⟨w.heap.size, 1, none⟩ = some (.string (bg n)) := by rw [bx.cells W0 (Gr.refl _)]; rfl
  clear bx
  by_cases h : n < 18446744073709551616
  · have p1 : (bg n).toList.isEmpty = true := by rw [isEmpty_bg, decide_eq_true h]
    have HD := Lib.hid (decide_eq_true h)
    clear h
    go_enter Tryz.func122, Tryz.ntmps122
    go_wp2_with fail
    rw [HW.out]
    go_quiet (fail)
    go_wp2
    go_ret2
    exact ⟨by rw [HD.out]; rfl, below_drewN HB0.out _⟩
  · have p1 : (bg n).toList.isEmpty = false := by rw [isEmpty_bg, decide_eq_false h]
    have HD := Lib.hid (decide_eq_false h)
    clear h
    go_enter Tryz.func122, Tryz.ntmps122
    go_wp2_with fail
    rw [HW.out]
    go_quiet (fail)
    go_wp2
    go_ret2
    exact ⟨by rw [HD.out]; rfl, below_drewN HB0.out _⟩

theorem nb_wl (n : Nat) : nb n ≤ 32 * wl n := by
  rw [nb_le, ← bp_eq]
  exact lt_bp_wl n
/-- the state of the loop of Pow: out and a -/
def PowAt (A N k a o : Nat) : Prop := o * a ^ k = A ^ N ∧ (o = 0 → a = 0) ∧ wl a ≤ 10000 ∧ wl o ≤ 10000
theorem PowAt.sq {A N k a o : Nat} (h : PowAt A N (2 * k) a o) (hk : 0 < k) (hp : wl (A ^ N) ≤ 8192) : PowAt A N k (a * a) o := by
  obtain ⟨h1, h2, h3, h4⟩ := h
  have e : o * (a * a) ^ k = A ^ N := by rw [← h1, Nat.pow_mul, Nat.pow_two]
  refine ⟨e, fun h => by rw [h2 h], ?_, h4⟩
  by_cases ho : o = 0
  · rw [h2 ho]; exact Nat.zero_le _
  · have h5 : a * a ≤ (a * a) ^ k := by
      by_cases ha : a * a = 0
      · rw [ha]; exact Nat.zero_le _
      · obtain ⟨j, rfl⟩ : ∃ j, k = j + 1 := ⟨k - 1, by omega⟩
        rw [Nat.pow_succ]
        exact Nat.le_mul_of_pos_left _ (Nat.pow_pos (by omega))
    have h6 : (a * a) ^ k ≤ A ^ N := by rw [← e]; exact Nat.le_mul_of_pos_left _ (by omega)
    exact Nat.le_trans (wl_mono (Nat.le_trans h5 h6)) (by omega)
end Go.Proofs.YtpcfncbcpknobaaGreatDoor


/- nats.Pow: the walk. No condition but a bound on lengths. -/
namespace Go.Proofs.YtpcfncbcpknobaaGreatDoor
open Go.RowKit
set_option linter.unusedSimpArgs false
set_option linter.unusedVariables false

end Go.Proofs.YtpcfncbcpknobaaGreatDoor


/- nats.Pow: exponents that are refused. -/
namespace Go.Proofs.YtpcfncbcpknobaaGreatDoor
open Go.RowKit
set_option linter.unusedSimpArgs false
set_option linter.unusedVariables false

theorem lo_zero : lo 0 = 0 := lo_small (by decide)
theorem bg_zero : bg 0 = ⟨#[]⟩ := bg_small (by decide)
end Go.Proofs.YtpcfncbcpknobaaGreatDoor
