
/- Division and the common divisor of integers: what the program's and the reference's ways compute. Plain; no condition. -/
import Derived.Test.YtaflakcemiilaaaGreatDoorPO
set_option linter.unusedVariables false
set_option linter.unusedSimpArgs false
namespace Go.Proofs.YtaflakcemiilaaaGreatDoor
theorem div_uniq {a b q r : Int} (h : q * b + r = a) (h0 : 0 ≤ r) (h1 : r < (b.natAbs : Int)) : a / b = q ∧ a % b = r := by
  have hb : b ≠ 0 := fun e => by subst e; simp at h1; omega
  have hm : a % b = r := by
    rw [← h, Int.add_comm, Int.add_mul_emod_self_right]
    rcases Int.lt_or_gt_of_ne hb with hn | hp
    · rw [show b = -(-b) from (Int.neg_neg b).symm, Int.emod_neg, Int.emod_eq_of_lt h0 (by omega)]
    · exact Int.emod_eq_of_lt h0 (by omega)
  refine ⟨?_, hm⟩
  have h2 := Int.mul_ediv_add_emod a b
  rw [hm] at h2
  have h3 : b * (a / b) = b * q := by rw [Int.mul_comm b q]; omega
  exact Int.eq_of_mul_eq_mul_left hb h3
theorem nat_div (a b : Int) : ((a.natAbs / b.natAbs : Nat) : Int) * (b.natAbs : Int) + ((a.natAbs % b.natAbs : Nat) : Int) = (a.natAbs : Int) := by
  have := Nat.div_add_mod' a.natAbs b.natAbs
  exact_mod_cast this
theorem div_plain {a b : Int} (hb : b ≠ 0) (h : 0 ≤ a ∨ a.natAbs % b.natAbs = 0) :
    (if (decide (a < 0) != decide (b < 0)) then -((a.natAbs / b.natAbs : Nat) : Int) else ((a.natAbs / b.natAbs : Nat) : Int)) = a / b ∧ (if decide (a < 0) then -((a.natAbs % b.natAbs : Nat) : Int) else ((a.natAbs % b.natAbs : Nat) : Int)) = a % b := by
  have e := nat_div a b
  have hlt : a.natAbs % b.natAbs < b.natAbs := Nat.mod_lt _ (by omega)
  obtain ⟨d, hd⟩ : ∃ d, a.natAbs / b.natAbs = d := ⟨_, rfl⟩
  obtain ⟨m, hm⟩ : ∃ m, a.natAbs % b.natAbs = m := ⟨_, rfl⟩
  rw [hd, hm] at e
  rw [hm] at h hlt
  rw [hd, hm]
  obtain ⟨q, r⟩ := div_uniq (a := a) (b := b) (q := if (decide (a < 0) != decide (b < 0)) then -(d : Int) else (d : Int)) (r := if decide (a < 0) then -(m : Int) else (m : Int)) (by
    by_cases ha : a < 0 <;> by_cases hb2 : b < 0 <;> simp only [ha, hb2, decide_true, decide_false, bne_self_eq_false, Bool.false_eq_true, if_false, if_true, bne_iff_ne, ne_eq, not_false_eq_true, reduceCtorEq, Bool.true_eq_false]
    · rw [show (b.natAbs : Int) = -b by omega, show (a.natAbs : Int) = -a by omega] at e
      grind
    · rw [show (b.natAbs : Int) = b by omega, show (a.natAbs : Int) = -a by omega] at e
      grind
    · rw [show (b.natAbs : Int) = -b by omega, show (a.natAbs : Int) = a by omega] at e
      grind
    · rw [show (b.natAbs : Int) = b by omega, show (a.natAbs : Int) = a by omega] at e
      grind) (by
    rcases h with h | h
    · rw [decide_eq_false (by omega)]; simp
    · rw [h]; simp) (by
    rcases h with h | h
    · rw [decide_eq_false (by omega)]; simp; omega
    · rw [h]; simp; omega)
  exact ⟨q.symm, r.symm⟩
theorem div_carry {a b : Int} (hb : b ≠ 0) (ha : a < 0) (hm0 : a.natAbs % b.natAbs ≠ 0) :
    -((a.natAbs % b.natAbs : Nat) : Int) + (b.natAbs : Int) = a % b ∧
      (if (decide (a < 0) != decide (b < 0)) then -((a.natAbs / b.natAbs : Nat) : Int) else ((a.natAbs / b.natAbs : Nat) : Int)) - (if b < 0 then -1 else 1) = a / b := by
  have e := nat_div a b
  have hlt : a.natAbs % b.natAbs < b.natAbs := Nat.mod_lt _ (by omega)
  obtain ⟨d, hd⟩ : ∃ d, a.natAbs / b.natAbs = d := ⟨_, rfl⟩
  obtain ⟨m, hm⟩ : ∃ m, a.natAbs % b.natAbs = m := ⟨_, rfl⟩
  rw [hd, hm] at e
  rw [hm] at hm0 hlt
  rw [hd, hm]
  obtain ⟨q, r⟩ := div_uniq (a := a) (b := b) (q := (if (decide (a < 0) != decide (b < 0)) then -(d : Int) else (d : Int)) - (if b < 0 then -1 else 1)) (r := -(m : Int) + (b.natAbs : Int)) (by
    by_cases hb2 : b < 0 <;> simp only [ha, hb2, decide_true, decide_false, bne_self_eq_false, Bool.false_eq_true, if_false, if_true, bne_iff_ne, ne_eq, not_false_eq_true, reduceCtorEq, Bool.true_eq_false]
    · rw [show (b.natAbs : Int) = -b by omega, show (a.natAbs : Int) = -a by omega] at e
      rw [show (b.natAbs : Int) = -b by omega]
      grind
    · rw [show (b.natAbs : Int) = b by omega, show (a.natAbs : Int) = -a by omega] at e
      rw [show (b.natAbs : Int) = b by omega]
      grind) (by omega) (by omega)
  exact ⟨r.symm, q.symm⟩
def pr (a b : Int) : Nat → Int × Int
  | 0 => (a, b)
  | i + 1 => ((pr a b i).2, (pr a b i).1 % (pr a b i).2)
theorem mod_abs (a : Int) {b : Int} (h : b ≠ 0) : (a % b).natAbs < b.natAbs ∧ 0 ≤ a % b := by
  have h1 := Int.emod_nonneg a h
  have h2 : a % b < (b.natAbs : Int) := Int.emod_lt a h
  constructor <;> omega
theorem q_abs (a b : Int) (hb : b ≠ 0) : (a / b).natAbs * b.natAbs ≤ a.natAbs + (a % b).natAbs := by
  have e := Int.mul_ediv_add_emod a b
  rw [← Int.natAbs_mul, Int.mul_comm]
  omega
end Go.Proofs.YtaflakcemiilaaaGreatDoor
