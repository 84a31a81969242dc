
/- Division and the common divisor of integers: what the program's and the reference's ways compute. Plain; no condition. -/
import Derived.Test.YtgdibedgjndcoaaGreatDoorPO
namespace Go.Proofs.YtgdibedgjndcoaaGreatDoor
set_option linter.unusedSimpArgs false
set_option linter.unusedVariables false
theorem div_uniq {a b q r : Int} (h : q * b + r = a) (h0 : 0 ≤ r) (h1 : r < (b.natAbs : Int)) : a / b = q ∧ a % b = r := by
  have hb : b ≠ 0 := fun e => by subst e; simp at h1; omega
  have hm : a % b = r := by
    rw [← h, Int.add_comm, Int.add_mul_emod_self_right]
    rcases Int.lt_or_gt_of_ne hb with hn | hp
    · rw [show b = -(-b) from (Int.neg_neg b).symm, Int.emod_neg, Int.emod_eq_of_lt h0 (by omega)]
    · exact Int.emod_eq_of_lt h0 (by omega)
  refine ⟨?_, hm⟩
  have h2 := Int.mul_ediv_add_emod a b
  rw [hm] at h2
  have h3 : b * (a / b) = b * q := by rw [Int.mul_comm b q]; omega
  exact Int.eq_of_mul_eq_mul_left hb h3
theorem nat_div (a b : Int) : ((a.natAbs / b.natAbs : Nat) : Int) * (b.natAbs : Int) + ((a.natAbs % b.natAbs : Nat) : Int) = (a.natAbs : Int) := by
  have := Nat.div_add_mod' a.natAbs b.natAbs
  exact_mod_cast this
/-- the signs' quotient and rest where the rest is not negative -/
theorem div_plain {a b : Int} (hb : b ≠ 0) (h : 0 ≤ a ∨ a.natAbs % b.natAbs = 0) :
    (if (decide (a < 0) != decide (b < 0)) then -((a.natAbs / b.natAbs : Nat) : Int) else ((a.natAbs / b.natAbs : Nat) : Int)) = a / b ∧ (if decide (a < 0) then -((a.natAbs % b.natAbs : Nat) : Int) else ((a.natAbs % b.natAbs : Nat) : Int)) = a % b := by
  have e := nat_div a b
  have hlt : a.natAbs % b.natAbs < b.natAbs := Nat.mod_lt _ (by omega)
  obtain ⟨d, hd⟩ : ∃ d, a.natAbs / b.natAbs = d := ⟨_, rfl⟩
  obtain ⟨m, hm⟩ : ∃ m, a.natAbs % b.natAbs = m := ⟨_, rfl⟩
  rw [hd, hm] at e
  rw [hm] at h hlt
  rw [hd, hm]
  obtain ⟨q, r⟩ := div_uniq (a := a) (b := b) (q := if (decide (a < 0) != decide (b < 0)) then -(d : Int) else (d : Int)) (r := if decide (a < 0) then -(m : Int) else (m : Int)) (by
    by_cases ha : a < 0 <;> by_cases hb2 : b < 0 <;> simp only [ha, hb2, decide_true, decide_false, bne_self_eq_false, Bool.false_eq_true, if_false, if_true, bne_iff_ne, ne_eq, not_false_eq_true, reduceCtorEq, Bool.true_eq_false]
    · rw [show (b.natAbs : Int) = -b by omega, show (a.natAbs : Int) = -a by omega] at e
      grind
    · rw [show (b.natAbs : Int) = b by omega, show (a.natAbs : Int) = -a by omega] at e
      grind
    · rw [show (b.natAbs : Int) = -b by omega, show (a.natAbs : Int) = a by omega] at e
      grind
    · rw [show (b.natAbs : Int) = b by omega, show (a.natAbs : Int) = a by omega] at e
      grind) (by
    rcases h with h | h
    · rw [decide_eq_false (by omega)]; simp
    · rw [h]; simp) (by
    rcases h with h | h
    · rw [decide_eq_false (by omega)]; simp; omega
    · rw [h]; simp; omega)
  exact ⟨q.symm, r.symm⟩
/-- and where it is -/
theorem div_carry {a b : Int} (hb : b ≠ 0) (ha : a < 0) (hm0 : a.natAbs % b.natAbs ≠ 0) :
    -((a.natAbs % b.natAbs : Nat) : Int) + (b.natAbs : Int) = a % b ∧
      (if (decide (a < 0) != decide (b < 0)) then -((a.natAbs / b.natAbs : Nat) : Int) else ((a.natAbs / b.natAbs : Nat) : Int)) - (if b < 0 then -1 else 1) = a / b := by
  have e := nat_div a b
  have hlt : a.natAbs % b.natAbs < b.natAbs := Nat.mod_lt _ (by omega)
  obtain ⟨d, hd⟩ : ∃ d, a.natAbs / b.natAbs = d := ⟨_, rfl⟩
  obtain ⟨m, hm⟩ : ∃ m, a.natAbs % b.natAbs = m := ⟨_, rfl⟩
  rw [hd, hm] at e
  rw [hm] at hm0 hlt
  rw [hd, hm]
  obtain ⟨q, r⟩ := div_uniq (a := a) (b := b) (q := (if (decide (a < 0) != decide (b < 0)) then -(d : Int) else (d : Int)) - (if b < 0 then -1 else 1)) (r := -(m : Int) + (b.natAbs : Int)) (by
    by_cases hb2 : b < 0 <;> simp only [ha, hb2, decide_true, decide_false, bne_self_eq_false, Bool.false_eq_true, if_false, if_true, bne_iff_ne, ne_eq, not_false_eq_true, reduceCtorEq, Bool.true_eq_false]
    · rw [show (b.natAbs : Int) = -b by omega, show (a.natAbs : Int) = -a by omega] at e
      rw [show (b.natAbs : Int) = -b by omega]
      grind
    · rw [show (b.natAbs : Int) = b by omega, show (a.natAbs : Int) = -a by omega] at e
      rw [show (b.natAbs : Int) = b by omega]
      grind) (by omega) (by omega)
  exact ⟨r.symm, q.symm⟩
/-- the i-th pair of Euclid's way -/
def pr (a b : Int) : Nat → Int × Int
  | 0 => (a, b)
  | i + 1 => ((pr a b i).2, (pr a b i).1 % (pr a b i).2)
theorem pr_step (a b : Int) (i : Nat) : pr a b (i + 1) = ((pr a b i).2, (pr a b i).1 % (pr a b i).2) := rfl
theorem pr_shift (a b : Int) : ∀ i, pr a b (i + 1) = pr b (a % b) i
  | 0 => rfl
  | i + 1 => by rw [pr_step, pr_shift a b i, ← pr_step]
def egcd (a b : Int) : Int × Int × Int :=
  if h : b = 0 then (a.natAbs, sgI a, 0) else
    have : (a % b).natAbs < b.natAbs := by
      have h1 := Int.emod_nonneg a h
      have h2 : a % b < (b.natAbs : Int) := Int.emod_lt a h
      omega
    let t := egcd b (a % b)
    (t.1, t.2.2, t.2.1 - (a / b) * t.2.2)
termination_by b.natAbs
theorem egcd_zero (a : Int) : egcd a 0 = ((a.natAbs : Int), sgI a, 0) := by rw [egcd]; simp
theorem egcd_step (a : Int) {b : Int} (h : b ≠ 0) : egcd a b = ((egcd b (a % b)).1, (egcd b (a % b)).2.2, (egcd b (a % b)).2.1 - (a / b) * (egcd b (a % b)).2.2) := by
  rw [egcd, dif_neg h]
theorem sg_abs (a : Int) : a * sgI a = (a.natAbs : Int) := by
  unfold sgI
  split
  · rename_i h; subst h; rfl
  · split <;> omega
theorem mod_abs (a : Int) {b : Int} (h : b ≠ 0) : (a % b).natAbs < b.natAbs ∧ 0 ≤ a % b := by
  have h1 := Int.emod_nonneg a h
  have h2 : a % b < (b.natAbs : Int) := Int.emod_lt a h
  constructor <;> omega
/-- g is the greatest common divisor, as a combination -/
theorem egcd_gcd : ∀ (k : Nat) (a b : Int), b.natAbs ≤ k → (egcd a b).1 = ((Nat.gcd a.natAbs b.natAbs : Nat) : Int) ∧ a * (egcd a b).2.1 + b * (egcd a b).2.2 = (egcd a b).1
  | k, a, b, hk => by
    by_cases h : b = 0
    · subst h
      rw [egcd_zero]
      refine ⟨by simp, ?_⟩
      show a * sgI a + 0 * 0 = _
      rw [sg_abs]; omega
    · have hm := mod_abs a h
      match k, hk with
      | 0, hk => omega
      | k + 1, hk =>
        obtain ⟨h1, h2⟩ := egcd_gcd k b (a % b) (by omega)
        rw [egcd_step a h]
        refine ⟨?_, ?_⟩
        · show (egcd b (a % b)).1 = _
          rw [h1]
          have e : Int.gcd b (a % b) = Int.gcd a b := by
            have e1 := Int.mul_ediv_add_emod a b
            have e2 : Int.gcd b (a % b + b * (a / b)) = Int.gcd b (a % b) := Int.gcd_add_mul_left_right ..
            rw [← e2, Int.add_comm, e1, Int.gcd_comm]
          exact congrArg Int.ofNat e
        · show a * (egcd b (a % b)).2.2 + b * ((egcd b (a % b)).2.1 - (a / b) * (egcd b (a % b)).2.2) = (egcd b (a % b)).1
          rw [← h2]
          have e := Int.mul_ediv_add_emod a b
          generalize (egcd b (a % b)).2.2 = y at *
          generalize (egcd b (a % b)).2.1 = x at *
          generalize a / b = q at *
          generalize a % b = r at *
          subst e
          grind
theorem q_abs (a b : Int) (hb : b ≠ 0) : (a / b).natAbs * b.natAbs ≤ a.natAbs + (a % b).natAbs := by
  have e := Int.mul_ediv_add_emod a b
  rw [← Int.natAbs_mul, Int.mul_comm]
  omega
theorem egcd_nonneg : ∀ (k : Nat) (a b : Int), b.natAbs ≤ k → 0 ≤ a → 0 ≤ b → (egcd a b).2.1.natAbs ≤ max 1 b.natAbs ∧ (egcd a b).2.2.natAbs ≤ max 1 a.natAbs
  | k, a, b, hk, ha, hb => by
    by_cases h : b = 0
    · subst h
      rw [egcd_zero]
      refine ⟨?_, by simp⟩
      show (sgI a).natAbs ≤ _
      unfold sgI
      split <;> (try split) <;> simp
    · have hm := mod_abs a h
      match k, hk with
      | 0, hk => omega
      | k + 1, hk =>
        obtain ⟨h1, h2⟩ := egcd_nonneg k b (a % b) (by omega) hb hm.2
        rw [egcd_step a h]
        refine ⟨by show (egcd b (a % b)).2.2.natAbs ≤ _; omega, ?_⟩
        show ((egcd b (a % b)).2.1 - (a / b) * (egcd b (a % b)).2.2).natAbs ≤ _
        by_cases hr : a % b = 0
        · rw [hr, egcd_zero]
          show (sgI b - a / b * 0).natAbs ≤ _
          rw [Int.mul_zero, Int.sub_zero]
          unfold sgI
          split <;> (try split) <;> simp <;> omega
        · have e := Int.mul_ediv_add_emod a b
          have hq : 0 ≤ a / b := Int.ediv_nonneg ha hb
          have h3 : ((a / b) * (egcd b (a % b)).2.2).natAbs ≤ (a / b).natAbs * b.natAbs := by
            rw [Int.natAbs_mul]; exact Nat.mul_le_mul_left _ (by omega)
          have h4 : (a / b).natAbs * b.natAbs = (b * (a / b)).natAbs := by rw [Int.natAbs_mul, Nat.mul_comm]
          have h5 : 0 ≤ b * (a / b) := Int.mul_nonneg hb hq
          omega
theorem egcd_small (a b : Int) : (egcd a b).2.1.natAbs ≤ 5 * (a.natAbs + b.natAbs) + 5 ∧ (egcd a b).2.2.natAbs ≤ 5 * (a.natAbs + b.natAbs) + 5 := by
  by_cases h : b = 0
  · subst h
    rw [egcd_zero]
    refine ⟨?_, by simp⟩
    show (sgI a).natAbs ≤ _
    unfold sgI
    split <;> (try split) <;> simp <;> omega
  have hm := mod_abs a h
  rw [egcd_step a h]
  show (egcd b (a % b)).2.2.natAbs ≤ _ ∧ ((egcd b (a % b)).2.1 - (a / b) * (egcd b (a % b)).2.2).natAbs ≤ _
  by_cases hr : a % b = 0
  · rw [hr, egcd_zero]
    refine ⟨by simp, ?_⟩
    show (sgI b - a / b * 0).natAbs ≤ _
    rw [Int.mul_zero, Int.sub_zero]
    unfold sgI
    split <;> (try split) <;> simp <;> omega
  have hm2 := mod_abs b hr
  obtain ⟨r, hrr⟩ : ∃ r, a % b = r := ⟨_, rfl⟩
  have hqa := q_abs a b h
  rw [hrr] at hm hr hm2 hqa ⊢
  obtain ⟨h1, h2⟩ := egcd_nonneg _ r (b % r) (Nat.le_refl _) hm.2 hm2.2
  have hqb := q_abs b r hr
  rw [egcd_step b hr]
  show ((egcd r (b % r)).2.1 - (b / r) * (egcd r (b % r)).2.2).natAbs ≤ _ ∧ ((egcd r (b % r)).2.2 - (a / b) * ((egcd r (b % r)).2.1 - (b / r) * (egcd r (b % r)).2.2)).natAbs ≤ _
  generalize (egcd r (b % r)).2.1 = x at *
  generalize (egcd r (b % r)).2.2 = y at *
  obtain ⟨s, hs⟩ : ∃ s, b % r = s := ⟨_, rfl⟩
  rw [hs] at h1 hm2 hqb
  have hy : y.natAbs ≤ r.natAbs := by omega
  have h3 : ((b / r) * y).natAbs ≤ (b / r).natAbs * r.natAbs := by rw [Int.natAbs_mul]; exact Nat.mul_le_mul_left _ hy
  have hY : (x - (b / r) * y).natAbs ≤ 3 * b.natAbs + 1 := by omega
  generalize x - (b / r) * y = Y at *
  have h4 : ((a / b) * Y).natAbs ≤ (a / b).natAbs * (3 * b.natAbs + 1) := by rw [Int.natAbs_mul]; exact Nat.mul_le_mul_left _ hY
  have h5 : (a / b).natAbs * (3 * b.natAbs + 1) = 3 * ((a / b).natAbs * b.natAbs) + (a / b).natAbs := by rw [Nat.mul_add, Nat.mul_one, Nat.mul_left_comm]
  have h6 : (a / b).natAbs * 1 ≤ (a / b).natAbs * b.natAbs := Nat.mul_le_mul_left _ (by omega)
  constructor <;> omega
theorem pr_small (a b : Int) : ∀ i, (∀ j, j < i → (pr a b j).2 ≠ 0) → (pr a b i).1.natAbs ≤ a.natAbs + b.natAbs ∧ (pr a b i).2.natAbs ≤ b.natAbs
  | 0, _ => ⟨by show a.natAbs ≤ _; omega, Nat.le_refl _⟩
  | i + 1, h => by
    obtain ⟨h1, h2⟩ := pr_small a b i (fun j hj => h j (by omega))
    have hm := mod_abs (pr a b i).1 (h i (by omega))
    rw [pr_step]
    exact ⟨by show (pr a b i).2.natAbs ≤ _; omega, by show ((pr a b i).1 % (pr a b i).2).natAbs ≤ _; omega⟩
theorem egcd_pr (a b : Int) (i : Nat) (h : (pr a b i).2 ≠ 0) : egcd (pr a b i).1 (pr a b i).2 = ((egcd (pr a b (i + 1)).1 (pr a b (i + 1)).2).1, (egcd (pr a b (i + 1)).1 (pr a b (i + 1)).2).2.2, (egcd (pr a b (i + 1)).1 (pr a b (i + 1)).2).2.1 - ((pr a b i).1 / (pr a b i).2) * (egcd (pr a b (i + 1)).1 (pr a b (i + 1)).2).2.2) := by
  rw [egcd_step _ h, pr_step]
end Go.Proofs.YtgdibedgjndcoaaGreatDoor
