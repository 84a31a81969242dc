
/- plain facts of square roots by multiples of 2^-k. No condition but those stated. -/
import Derived.Test.YtaflakcemiilaaaGreatDoorFieldP
import Derived.Test.YtaflakcemiilaaaGreatDoorPR
import Derived.Test.YtaflakcemiilaaaGreatDoorPV
namespace Go.Proofs.YtaflakcemiilaaaGreatDoor
open Go.RowKit
set_option linter.unusedSimpArgs false
set_option linter.unusedVariables false
/-- 2^k as a fraction -/
def tq (k : Nat) : Rat := (((2 ^ k : Nat) : Int) : Rat)
/-- 2^-k as Pow has it -/
def hq (k : Nat) : Rat := (1 / 2 : Rat) ^ k
theorem tq_pos (k : Nat) : (0 : Rat) < tq k := Rat.intCast_pos.2 (by have := Nat.pow_pos (n := k) (show 0 < 2 by decide); omega)
theorem tq_add (k j : Nat) : tq (k + j) = tq k * tq j := by
  unfold tq; rw [Nat.pow_add, Int.natCast_mul, Rat.intCast_mul]
theorem tq_sq (k : Nat) : (((2 ^ k * 2 ^ k : Nat) : Int) : Rat) = tq k * tq k := by
  unfold tq; rw [Int.natCast_mul, Rat.intCast_mul]
theorem hq_tq (k : Nat) : hq k * tq k = 1 := by
  unfold hq
  induction k with
  | zero => unfold tq; decide +kernel
  | succ k ih =>
    rw [Rat.pow_succ, tq_add k 1]
    have e : tq 1 = 2 := by unfold tq; decide +kernel
    rw [e]
    generalize (1 / 2 : Rat) ^ k = x at *
    generalize tq k = y at *
    grind
theorem hq_pos (k : Nat) : (0 : Rat) < hq k := Rat.pow_pos (by decide +kernel)
theorem hq_ne (k : Nat) : hq k ≠ 0 := fun e => by have := hq_pos k; rw [e] at this; exact Rat.lt_irrefl this
theorem tq_inj {a b : Rat} {k : Nat} (h : a * tq k = b * tq k) : a = b := by
  have h1 := hq_tq k
  generalize tq k = y at *
  generalize hq k = x at *
  grind
theorem le_tq {a b : Rat} {k : Nat} (h : a * tq k ≤ b * tq k) : a ≤ b := Rat.le_of_mul_le_mul_right h (tq_pos k)
theorem lt_tq {a b : Rat} (k : Nat) (h : a < b) : a * tq k < b * tq k := Rat.mul_lt_mul_of_pos_right h (tq_pos k)
theorem sq_le {x y : Rat} (hx : 0 ≤ x) (hy : 0 ≤ y) (h : x * x ≤ y * y) : x ≤ y := by
  rcases (show x ≤ y ∨ y < x by grind) with c | c
  · exact c
  · have h1 : 0 < x - y := by grind
    have h2 : 0 < x + y := by grind
    have := Rat.mul_pos h1 h2
    grind
theorem qsq_lt {x y : Rat} (hx : 0 ≤ x) (hy : 0 ≤ y) (h : x * x < y * y) : x < y := by
  rcases (show x < y ∨ y ≤ x by grind) with c | c
  · exact c
  · have h1 : 0 ≤ x - y := by grind
    have h2 : 0 ≤ x + y := by grind
    have := Rat.mul_nonneg h1 h2
    grind
theorem sq_mono {x y : Rat} (hx : 0 ≤ x) (h : x ≤ y) : x * x ≤ y * y := by
  have h1 : 0 ≤ y - x := by grind
  have h2 : 0 ≤ x + y := by grind
  have := Rat.mul_nonneg h1 h2
  grind
theorem sq_nn (x : Rat) : 0 ≤ x * x := by
  rcases (show 0 ≤ x ∨ 0 ≤ -x by grind) with h | h
  · exact Rat.mul_nonneg h h
  · have := Rat.mul_nonneg h h
    grind
/-- the integer part of 2^k times the root -/
def rbn (a : Rat) (k : Nat) : Nat := rt (Int.natAbs ((a * (((2 ^ k * 2 ^ k : Nat) : Int) : Rat)).floor))
/-- the bounds of the root by multiples of 2^-k -/
def rlo (a : Rat) (k : Nat) : Rat := mkRat ((rbn a k : Nat) : Int) (2 ^ k)
def rhi (a : Rat) (k : Nat) : Rat := if rlo a k * rlo a k = a then rlo a k else mkRat ((rbn a k + 1 : Nat) : Int) (2 ^ k)
theorem mk_tq (n : Int) (k : Nat) : mkRat n (2 ^ k) * tq k = (n : Rat) := by
  unfold tq
  rw [Rat.mkRat_eq_div]
  exact Rat.div_mul_cancel (fun e => by have := tq_pos k; unfold tq at this; rw [Rat.intCast_natCast, e] at this; exact Rat.lt_irrefl this)
theorem rbn_sq {a : Rat} (h : 0 ≤ a) (k : Nat) : (((rbn a k : Nat) : Int) : Rat) * (((rbn a k : Nat) : Int) : Rat) ≤ a * (tq k * tq k) ∧ a * (tq k * tq k) < ((((rbn a k : Nat) : Int) : Rat) + 1) * ((((rbn a k : Nat) : Int) : Rat) + 1) := by
  unfold rbn
  rw [tq_sq]
  have hx : 0 ≤ a * (tq k * tq k) := Rat.mul_nonneg h (sq_nn _)
  generalize a * (tq k * tq k) = x at *
  have hf : 0 ≤ x.floor := Rat.le_floor_iff.2 hx
  have h1 := Rat.floor_le x
  have h2 := Rat.lt_floor_add_one x
  rw [Rat.intCast_add] at h2
  obtain ⟨f, hf2⟩ : ∃ f : Nat, x.floor = (f : Int) := ⟨x.floor.toNat, by omega⟩
  rw [hf2] at h1 h2 ⊢
  rw [Int.natAbs_natCast]
  have h3 := rt_le f
  have h4 := rt_lt f
  generalize rt f = n at *
  have h5 : (((n * n : Nat) : Int) : Rat) ≤ ((f : Int) : Rat) := Rat.intCast_le_intCast.2 (by omega)
  have h6 : (((f + 1 : Nat) : Int) : Rat) ≤ ((((n + 1) * (n + 1) : Nat) : Int) : Rat) := Rat.intCast_le_intCast.2 (by omega)
  have h5' : (((n : Nat) : Int) : Rat) * (((n : Nat) : Int) : Rat) ≤ ((f : Int) : Rat) := by rwa [Int.natCast_mul, Rat.intCast_mul] at h5
  have h6' : ((f : Int) : Rat) + 1 ≤ ((((n : Nat) : Int) : Rat) + 1) * ((((n : Nat) : Int) : Rat) + 1) := by
    rw [Int.natCast_mul, Rat.intCast_mul, Int.natCast_add, Int.natCast_add, Rat.intCast_add, Rat.intCast_add] at h6
    exact h6
  exact ⟨Rat.le_trans h5' h1, by have h7 : x < ((f : Int) : Rat) + 1 := h2; grind⟩
theorem rlo_tq (a : Rat) (k : Nat) : rlo a k * tq k = (((rbn a k : Nat) : Int) : Rat) := mk_tq _ _
theorem nat_nn (n : Nat) : (0 : Rat) ≤ (((n : Nat) : Int) : Rat) := by
  have : (((0 : Int)) : Rat) ≤ (((n : Nat) : Int) : Rat) := Rat.intCast_le_intCast.2 (by omega)
  exact this
theorem rlo_nn (a : Rat) (k : Nat) : 0 ≤ rlo a k := le_tq (k := k) (by rw [rlo_tq, Rat.zero_mul]; exact nat_nn _)
theorem rlo_le {a : Rat} (h : 0 ≤ a) (k : Nat) : rlo a k * rlo a k ≤ a := by
  refine le_tq (k := k) (le_tq (k := k) ?_)
  have h1 := (rbn_sq h k).1
  rw [← rlo_tq] at h1
  generalize rlo a k = l at *
  generalize tq k = t at *
  grind
theorem rlo_lt {a : Rat} (h : 0 ≤ a) (k : Nat) : a < (rlo a k + hq k) * (rlo a k + hq k) := by
  have h1 := (rbn_sq h k).2
  rw [← rlo_tq, ← hq_tq k] at h1
  have h2 : a * (tq k * tq k) < (rlo a k + hq k) * (rlo a k + hq k) * (tq k * tq k) := by grind
  have h3 : 0 < tq k * tq k := Rat.mul_pos (tq_pos k) (tq_pos k)
  exact Rat.lt_of_mul_lt_mul_right h2 (Rat.le_of_lt h3)
/-- a multiple of 2^-k whose square is at most a is at most the lower bound -/
theorem le_rlo {a c : Rat} {k : Nat} {m : Int} (h : 0 ≤ a) (hc : c * tq k = (m : Rat)) (h2 : c * c ≤ a) : c ≤ rlo a k := by
  rcases (show c ≤ rlo a k ∨ rlo a k < c by grind) with d | d
  · exact d
  · exfalso
    have h3 := lt_tq k d
    rw [rlo_tq, hc, Rat.intCast_lt_intCast] at h3
    have h4 : (((rbn a k : Nat) : Int) : Rat) + 1 ≤ (m : Rat) := by
      have : (((((rbn a k : Nat) : Int) + 1 : Int)) : Rat) ≤ (m : Rat) := Rat.intCast_le_intCast.2 (by omega)
      rw [Rat.intCast_add] at this; exact this
    rw [← rlo_tq, ← hc, ← hq_tq k] at h4
    have h5 : rlo a k + hq k ≤ c := le_tq (k := k) (by rw [Rat.add_mul]; exact h4)
    have h6 := rlo_lt h k
    have h7 := sq_mono (show 0 ≤ rlo a k + hq k by have := rlo_nn a k; have := hq_pos k; grind) h5
    grind
theorem rhi_ex {a : Rat} {k : Nat} (h : rlo a k * rlo a k = a) : rhi a k = rlo a k := by unfold rhi; rw [if_pos h]
theorem rhi_st {a : Rat} {k : Nat} (h : ¬ rlo a k * rlo a k = a) : rhi a k = rlo a k + hq k := by
  unfold rhi; rw [if_neg h]
  refine tq_inj (k := k) ?_
  rw [mk_tq, Rat.add_mul, rlo_tq, hq_tq, Int.natCast_add, Rat.intCast_add]; rfl
theorem rhi_tq (a : Rat) (k : Nat) : ∃ m : Nat, rhi a k * tq k = (((m : Nat) : Int) : Rat) := by
  by_cases h : rlo a k * rlo a k = a
  · exact ⟨rbn a k, by rw [rhi_ex h, rlo_tq]⟩
  · exact ⟨rbn a k + 1, by rw [rhi_st h, Rat.add_mul, rlo_tq, hq_tq, Int.natCast_add, Rat.intCast_add]; rfl⟩
theorem rlo_rhi (a : Rat) (k : Nat) : rlo a k ≤ rhi a k := by
  by_cases h : rlo a k * rlo a k = a
  · rw [rhi_ex h]; exact Rat.le_refl
  · rw [rhi_st h]; have := hq_pos k; grind
theorem rhi_nn (a : Rat) (k : Nat) : 0 ≤ rhi a k := Rat.le_trans (rlo_nn a k) (rlo_rhi a k)
theorem rhi_ge {a : Rat} (h : 0 ≤ a) (k : Nat) : a ≤ rhi a k * rhi a k := by
  by_cases h2 : rlo a k * rlo a k = a
  · rw [rhi_ex h2, h2]; exact Rat.le_refl
  · rw [rhi_st h2]; exact Rat.le_of_lt (rlo_lt h k)
/-- a multiple of 2^-k whose square is at least a is at least the upper bound -/
theorem rhi_le {a c : Rat} {k : Nat} {m : Int} (h : 0 ≤ a) (h0 : 0 ≤ c) (hc : c * tq k = (m : Rat)) (h2 : a ≤ c * c) : rhi a k ≤ c := by
  by_cases he : rlo a k * rlo a k = a
  · rw [rhi_ex he]; exact sq_le (rlo_nn a k) h0 (by rw [he]; exact h2)
  · rw [rhi_st he]
    have h3 : rlo a k < c := qsq_lt (rlo_nn a k) h0 (by have := rlo_le h k; grind)
    have h3 := lt_tq k h3
    rw [rlo_tq, hc, Rat.intCast_lt_intCast] at h3
    have h4 : (((rbn a k : Nat) : Int) : Rat) + 1 ≤ (m : Rat) := by
      have : (((((rbn a k : Nat) : Int) + 1 : Int)) : Rat) ≤ (m : Rat) := Rat.intCast_le_intCast.2 (by omega)
      rw [Rat.intCast_add] at this; exact this
    rw [← rlo_tq, ← hc, ← hq_tq k] at h4
    exact le_tq (k := k) (by rw [Rat.add_mul]; exact h4)
theorem rlo_mono {a b : Rat} (k : Nat) (h : 0 ≤ a) (hab : a ≤ b) : rlo a k ≤ rlo b k :=
  le_rlo (Rat.le_trans h hab) (rlo_tq a k) (Rat.le_trans (rlo_le h k) hab)
theorem rhi_mono {a b : Rat} (k : Nat) (h : 0 ≤ a) (hab : a ≤ b) : rhi a k ≤ rhi b k := by
  obtain ⟨m, hm⟩ := rhi_tq b k
  exact rhi_le h (rhi_nn b k) hm (Rat.le_trans hab (rhi_ge (Rat.le_trans h hab) k))
theorem rlo_more {a : Rat} {p q : Nat} (h : 0 ≤ a) (hpq : p ≤ q) : rlo a p ≤ rlo a q := by
  obtain ⟨j, rfl⟩ : ∃ j, q = p + j := ⟨q - p, by omega⟩
  refine le_rlo (m := ((rbn a p : Nat) : Int) * ((2 ^ j : Nat) : Int)) h ?_ (rlo_le h p)
  rw [tq_add, ← Rat.mul_assoc, rlo_tq, Rat.intCast_mul]; rfl
theorem rhi_more {a : Rat} {p q : Nat} (h : 0 ≤ a) (hpq : p ≤ q) : rhi a q ≤ rhi a p := by
  obtain ⟨j, rfl⟩ : ∃ j, q = p + j := ⟨q - p, by omega⟩
  obtain ⟨m, hm⟩ := rhi_tq a p
  refine rhi_le (m := ((m : Nat) : Int) * ((2 ^ j : Nat) : Int)) h (rhi_nn a p) ?_ (rhi_ge h p)
  rw [tq_add, ← Rat.mul_assoc, hm, Rat.intCast_mul]; rfl
theorem rbn_four (a : Rat) (k : Nat) : rbn (4 * a) k = rbn a (k + 1) := by
  have e : 4 * a * (((2 ^ k * 2 ^ k : Nat) : Int) : Rat) = a * (((2 ^ (k + 1) * 2 ^ (k + 1) : Nat) : Int) : Rat) := by
    rw [tq_sq, tq_sq, tq_add k 1]
    have e : tq 1 = 2 := by unfold tq; decide +kernel
    rw [e]; grind
  unfold rbn; rw [e]
theorem rlo_four (a : Rat) (k : Nat) : rlo (4 * a) k = 2 * rlo a (k + 1) := by
  refine tq_inj (k := k) ?_
  have h1 := rlo_tq (4 * a) k
  have h2 := rlo_tq a (k + 1)
  rw [rbn_four] at h1
  rw [h1, ← h2, tq_add k 1]
  have e : tq 1 = 2 := by unfold tq; decide +kernel
  rw [e]; grind
theorem rhi_four (a : Rat) (k : Nat) : rhi (4 * a) k = 2 * rhi a (k + 1) := by
  have h1 := rlo_four a k
  by_cases h : rlo a (k + 1) * rlo a (k + 1) = a
  · rw [rhi_ex h, rhi_ex (by rw [h1]; grind), h1]
  · rw [rhi_st h, rhi_st (by rw [h1]; grind), h1]
    have e : hq k = 2 * hq (k + 1) := by unfold hq; rw [Rat.pow_succ]; grind
    rw [e]; grind
/-- the parts of the stage's theorem -/
theorem rlo_whole (a : Rat) (k : Nat) : (rlo a k / hq k).den = 1 := by
  have e : rlo a k / hq k = rlo a k * tq k := by
    rw [Rat.div_def, Rat.inv_eq_of_mul_eq_one (hq_tq k)]
  rw [e, rlo_tq]; rfl
theorem rhi_whole (a : Rat) (k : Nat) : (rhi a k / hq k).den = 1 := by
  have e : rhi a k / hq k = rhi a k * tq k := by
    rw [Rat.div_def, Rat.inv_eq_of_mul_eq_one (hq_tq k)]
  obtain ⟨m, hm⟩ := rhi_tq a k
  rw [e, hm]; rfl
theorem rhi_below {a : Rat} (h : 0 ≤ a) (k : Nat) (hp : 0 < rhi a k) : (rhi a k - hq k) * (rhi a k - hq k) < a := by
  by_cases he : rlo a k * rlo a k = a
  · rw [rhi_ex he] at *
    have h1 : hq k ≤ rlo a k := by
      refine le_tq (k := k) ?_
      rw [hq_tq, rlo_tq]
      have h2 := lt_tq k hp
      rw [Rat.zero_mul, rlo_tq] at h2
      have h3 : (0 : Int) < ((rbn a k : Nat) : Int) := Rat.intCast_pos.1 h2
      have : (((1 : Int)) : Rat) ≤ (((rbn a k : Nat) : Int) : Rat) := Rat.intCast_le_intCast.2 (by omega)
      exact this
    have h2 := hq_pos k
    generalize hq k = s at *
    generalize rlo a k = l at *
    have h3 : 0 < s * (l + (l - s)) := Rat.mul_pos h2 (by grind)
    grind
  · rw [rhi_st he]
    have h1 := rlo_le h k
    generalize rlo a k = l at *
    generalize hq k = s at *
    have : l + s - s = l := by grind
    rw [this]; grind
/-- the sum of two roots against the root of a sum -/
theorem ord_lo {a b s l1 l2 h l : Rat} (n1 : 0 ≤ l1) (n2 : 0 ≤ l2) (n3 : 0 ≤ h) (h1 : l1 * l1 ≤ a) (h2 : l2 * l2 ≤ b) (h3 : s ≤ h * h) (hl : s - (a + b) = l) (l0 : ¬ l < 0) (hc : 4 * (a * b) ≤ l * l) : l1 + l2 ≤ h := by
  have e1 : 0 ≤ l := by grind
  have e2 : 0 ≤ l1 * l2 := Rat.mul_nonneg n1 n2
  have e3 : l1 * l1 * (l2 * l2) ≤ a * b := Rat.le_trans (Rat.mul_le_mul_of_nonneg_right h1 (sq_nn _)) (Rat.mul_le_mul_of_nonneg_left h2 (Rat.le_trans (sq_nn l1) h1))
  have e4 : 2 * (l1 * l2) ≤ l := sq_le (by grind) e1 (by grind)
  refine sq_le (by grind) n3 ?_
  grind
theorem ord_hi {a b s h1 h2 l k : Rat} (a0 : 0 ≤ a) (b0 : 0 ≤ b) (n1 : 0 ≤ h1) (n2 : 0 ≤ h2) (n3 : 0 ≤ l) (e1 : a ≤ h1 * h1) (e2 : b ≤ h2 * h2) (e3 : l * l ≤ s) (hk : s - (a + b) = k) (hc : k < 0 ∨ k * k ≤ 4 * (a * b)) : l ≤ h1 + h2 := by
  have f2 : 0 ≤ h1 * h2 := Rat.mul_nonneg n1 n2
  have f4 : k ≤ 2 * (h1 * h2) := by
    rcases (show k ≤ 0 ∨ 0 < k by grind) with c | c
    · grind
    · have hc : k * k ≤ 4 * (a * b) := by
        rcases hc with d | d
        · exfalso; grind
        · exact d
      have f3 : a * b ≤ h1 * h1 * (h2 * h2) := Rat.le_trans (Rat.mul_le_mul_of_nonneg_right e1 b0) (Rat.mul_le_mul_of_nonneg_left e2 (sq_nn _))
      exact sq_le (Rat.le_of_lt c) (by grind) (by grind)
  refine sq_le n3 (by grind) ?_
  grind
theorem ord_sq {a b s l : Rat} (a0 : 0 ≤ a) (b0 : 0 ≤ b) (s0 : 0 ≤ s) (hl : s * s - (a * a + b * b) = l) : (l < 0 → 0 < a + b - s) ∧ (¬ l < 0 → sgQ (4 * (a * a * (b * b)) - l * l) = sgQ (a + b - s)) := by
  have ab : 0 ≤ a * b := Rat.mul_nonneg a0 b0
  constructor
  · intro h
    rcases (show 0 < a + b - s ∨ a + b ≤ s by grind) with c | c
    · exact c
    · have := sq_mono (show 0 ≤ a + b by grind) c
      exfalso; grind
  · intro h
    have e : 4 * (a * a * (b * b)) = 2 * (a * b) * (2 * (a * b)) := by grind
    rw [e]
    rcases (show a + b - s < 0 ∨ a + b - s = 0 ∨ 0 < a + b - s by grind) with c | c | c
    · rw [sgQ_neg c]
      have h1 : 0 < (s - (a + b)) * (s + (a + b)) := Rat.mul_pos (by grind) (by grind)
      have h2 : 2 * (a * b) < l := by grind
      have h3 : 0 < (l - 2 * (a * b)) * (l + 2 * (a * b)) := Rat.mul_pos (by grind) (by grind)
      exact sgQ_neg (by grind)
    · rw [c]
      have h1 : s = a + b := by grind
      have h2 : l = 2 * (a * b) := by rw [← hl, h1]; grind
      rw [h2]
      have : 2 * (a * b) * (2 * (a * b)) - 2 * (a * b) * (2 * (a * b)) = 0 := by grind
      rw [this]
    · rw [sgQ_pos c]
      have h1 : 0 < (a + b - s) * (s + (a + b)) := Rat.mul_pos c (by grind)
      have h2 : l < 2 * (a * b) := by grind
      have h3 : 0 < (2 * (a * b) - l) * (l + 2 * (a * b)) := Rat.mul_pos (by grind) (by grind)
      exact sgQ_pos (by grind)
/-- the root of a fraction, if it is one -/
def exq (a : Rat) : Rat := mkRat ((rt (Int.natAbs (a.num)) : Nat) : Int) (rt a.den)
theorem rt_pos {n : Nat} (h : 0 < n) : 0 < rt n := by
  have := rt_lt n
  rcases Nat.eq_zero_or_pos (rt n) with e | e
  · rw [e] at this; omega
  · exact e
theorem exq_nn (a : Rat) : 0 ≤ exq a := by
  unfold exq
  rw [Rat.mkRat_eq_div, Rat.div_def]
  refine Rat.mul_nonneg (nat_nn _) ?_
  have h := rt_pos a.den_pos
  have h2 : (0 : Rat) < (((rt a.den : Nat) : Int) : Rat) := Rat.intCast_pos.2 (by omega)
  exact Rat.le_of_lt (Rat.inv_pos.2 h2)
theorem rt_sq (n : Nat) : rt (n * n) = n := rt_eq (Nat.le_refl _) (Nat.mul_lt_mul'' (Nat.lt_succ_self n) (Nat.lt_succ_self n))
theorem abs_mk (q : Rat) : mkRat ((Int.natAbs q.num : Nat) : Int) q.den = qabs q := by
  unfold qabs
  by_cases h : q < 0
  · rw [if_pos h]
    have h1 : q.num < 0 := num_neg.2 h
    have h2 : ((Int.natAbs q.num : Nat) : Int) = -q.num := by omega
    rw [h2, ← Rat.neg_mkRat, Rat.mkRat_self]
  · rw [if_neg h]
    have h1 : ¬ q.num < 0 := fun e => h (num_neg.1 e)
    have h2 : ((Int.natAbs q.num : Nat) : Int) = q.num := by omega
    rw [h2, Rat.mkRat_self]
theorem exq_sq (q : Rat) : exq (q * q) = qabs q := by
  have e : q * q = q ^ 2 := by rw [Rat.pow_succ, Rat.pow_succ, Rat.pow_zero, Rat.one_mul]
  unfold exq
  rw [e, Rat.num_pow, Rat.den_pow, Int.natAbs_pow, Nat.pow_two, Nat.pow_two, rt_sq, rt_sq]
  exact abs_mk q
theorem qabs_sq (q : Rat) : qabs q * qabs q = q * q := by
  unfold qabs; split
  · grind
  · rfl
theorem qabs_nn (q : Rat) : 0 ≤ qabs q := by
  unfold qabs; split <;> grind
theorem exq_of {b s : Rat} (h : b = s * s) : exq b * exq b = b := by
  rw [h, exq_sq, qabs_sq]
end Go.Proofs.YtaflakcemiilaaaGreatDoor
