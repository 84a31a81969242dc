
/- plain facts of rounding. No condition but those stated. -/
import Derived.Test.YtgdibedgjndcoaaGreatDoorDecA
namespace Go.Proofs.YtgdibedgjndcoaaGreatDoor
open Go.RowKit
set_option linter.unusedSimpArgs false
set_option linter.unusedVariables false
/-- 10^k as a fraction -/
theorem ten_pos (k : Nat) : (0 : Rat) < (((10 ^ k : Nat) : Int) : Rat) := Rat.intCast_pos.2 (by have := Nat.pow_pos (n := k) (show 0 < 10 by decide); omega)
theorem ten_add (k j : Nat) : (((10 ^ (k + j) : Nat) : Int) : Rat) = (((10 ^ k : Nat) : Int) : Rat) * (((10 ^ j : Nat) : Int) : Rat) := by
  rw [Nat.pow_add, Int.natCast_mul, Rat.intCast_mul]
theorem fl_le (x : Rat) : ((x.floor : Int) : Rat) ≤ x := Rat.floor_le x
theorem lt_fl (x : Rat) : x < ((x.floor : Int) : Rat) + 1 := by have := Rat.lt_floor_add_one x; rwa [Rat.intCast_add] at this
theorem ce_ge (x : Rat) : x ≤ ((x.ceil : Int) : Rat) := @Rat.le_ceil x
theorem ce_mono {x y : Rat} (h : x ≤ y) : x.ceil ≤ y.ceil := Rat.ceil_le_iff.2 (Rat.le_trans h (ce_ge y))
theorem fl_neg (x : Rat) : (-x).floor = -(x.ceil) := by rw [Rat.ceil_eq_neg_floor_neg]; omega
theorem ce_neg (x : Rat) : (-x).ceil = -(x.floor) := by rw [Rat.ceil_eq_neg_floor_neg, Rat.neg_neg]
theorem fl_ce_int {x : Rat} (h : ((x.floor : Int) : Rat) = x) : x.ceil = x.floor := by
  have : ((x.floor : Int) : Rat).ceil = x.floor := Rat.ceil_intCast _
  rw [h] at this; exact this
theorem fl_ce_frac {x : Rat} (h : ¬ ((x.floor : Int) : Rat) = x) : x.ceil = x.floor + 1 := by
  have a := Rat.ceil_le_iff.2 (show x ≤ ((x.floor + 1 : Int) : Rat) from by rw [Rat.intCast_add]; exact Rat.le_of_lt (lt_fl x))
  have b : x.floor < x.ceil := Rat.lt_ceil_iff.2 (Rat.lt_of_le_of_ne (fl_le x) h)
  omega
theorem sgQ_lt0 {a : Rat} : sgQ a < 0 ↔ a < 0 := by
  rcases sgQ_cases a with ⟨h, e⟩ | ⟨h, e⟩ | ⟨h, e⟩ <;> rw [e] <;> constructor <;> intro hh <;> first | exact h | decide | (exact absurd hh (by decide)) | (exfalso; grind)
theorem sgQ_eq0 {a : Rat} : sgQ a = 0 ↔ a = 0 := by
  rcases sgQ_cases a with ⟨h, e⟩ | ⟨h, e⟩ | ⟨h, e⟩ <;> rw [e] <;> constructor <;> intro hh <;> first | exact h | rfl | (exact absurd hh (by decide)) | (exfalso; grind)
/-- nearest, in words without signs -/
theorem rnd3 (x : Rat) : rnd 3 x = if 2 * x < 2 * (x.floor : Rat) + 1 ∨ (2 * x = 2 * (x.floor : Rat) + 1 ∧ x.floor % 2 = 0) then x.floor else x.ceil := by
  unfold rnd
  rw [if_neg (by decide), if_neg (by decide)]
  have e1 : (x - (x.floor : Rat)) + (x - (x.floor : Rat)) - 1 < 0 ↔ 2 * x < 2 * (x.floor : Rat) + 1 := by constructor <;> intro h <;> grind
  have e2 : (x - (x.floor : Rat)) + (x - (x.floor : Rat)) - 1 = 0 ↔ 2 * x = 2 * (x.floor : Rat) + 1 := by constructor <;> intro h <;> grind
  simp only [sgQ_lt0, sgQ_eq0, e1, e2]
theorem rnd_int (w : Int) (n : Int) : rnd w (n : Rat) = n := by
  rcases rnd_or w (n : Rat) with h | h <;> rw [h]
  · exact Rat.floor_intCast n
  · exact Rat.ceil_intCast n
theorem rnd_lo (w : Int) (x : Rat) : x.floor ≤ rnd w x ∧ rnd w x ≤ x.ceil := by
  have : x.floor ≤ x.ceil := Int.le_trans (Int.le_refl _) (by have := Rat.le_trans (fl_le x) (ce_ge x); exact Rat.intCast_le_intCast.1 this)
  rcases rnd_or w x with h | h <;> rw [h] <;> omega
theorem rnd_mono {w : Int} {x y : Rat} (h : x ≤ y) : rnd w x ≤ rnd w y := by
  by_cases h1 : w = 1
  · subst h1; exact Rat.floor_monotone h
  by_cases h2 : w = 2
  · subst h2; exact ce_mono h
  have e : ∀ z, rnd w z = rnd 3 z := fun z => by unfold rnd; rw [if_neg h1, if_neg h2, if_neg (show ¬ (3 : Int) = 1 by decide), if_neg (show ¬ (3 : Int) = 2 by decide)]
  rw [e, e]
  have hf := Rat.floor_monotone h
  by_cases hxy : x.floor = y.floor
  · have hc := ce_mono h
    rw [rnd3, rnd3, ← hxy]
    by_cases c2 : 2 * y < 2 * (x.floor : Rat) + 1 ∨ (2 * y = 2 * (x.floor : Rat) + 1 ∧ x.floor % 2 = 0)
    · rw [if_pos c2, if_pos]
      · exact Int.le_refl _
      · rcases c2 with c | ⟨c, d⟩
        · left; grind
        · rcases Rat.le_iff_lt_or_eq.1 h with h | h
          · left; grind
          · right; exact ⟨by rw [← c, h], d⟩
    · rw [if_neg c2]
      split
      · rw [hxy]; exact (rnd_lo 2 y).1
      · exact hc
  · have h3 := (rnd_lo 3 x).2
    have h4 := (rnd_lo 3 y).1
    have h5 : x.ceil ≤ x.floor + 1 := by
      by_cases h : ((x.floor : Int) : Rat) = x
      · rw [fl_ce_int h]; omega
      · rw [fl_ce_frac h]; omega
    omega
theorem rnd_neg1 (x : Rat) : rnd 1 (-x) = -(rnd 2 x) := fl_neg x
theorem rnd_neg2 (x : Rat) : rnd 2 (-x) = -(rnd 1 x) := ce_neg x
theorem rnd_neg3 (x : Rat) : rnd 3 (-x) = -(rnd 3 x) := by
  rw [rnd3, rnd3, fl_neg, ce_neg]
  by_cases hi : ((x.floor : Int) : Rat) = x
  · rw [fl_ce_int hi]; simp
  · have hc := fl_ce_frac hi
    have hcq : ((x.ceil : Int) : Rat) = (x.floor : Rat) + 1 := by rw [hc, Rat.intCast_add]; rfl
    have hn : (((-(x.ceil)) : Int) : Rat) = -(x.floor : Rat) - 1 := by rw [Rat.intCast_neg, hcq]; grind
    rw [hn]
    have hp : (-(x.ceil)) % 2 = 0 ↔ ¬ x.floor % 2 = 0 := by omega
    simp only [hp]
    generalize ((x.floor : Int) : Rat) = f
    by_cases h1 : 2 * x < 2 * f + 1
    · rw [if_neg (show ¬ (2 * -x < 2 * (-f - 1) + 1 ∨ 2 * -x = 2 * (-f - 1) + 1 ∧ ¬ x.floor % 2 = 0) from fun h => by rcases h with h | ⟨h, _⟩ <;> grind), if_pos (show 2 * x < 2 * f + 1 ∨ 2 * x = 2 * f + 1 ∧ x.floor % 2 = 0 from .inl h1)]
    · by_cases h2 : 2 * x = 2 * f + 1
      · by_cases h3 : x.floor % 2 = 0
        · rw [if_neg (show ¬ (2 * -x < 2 * (-f - 1) + 1 ∨ 2 * -x = 2 * (-f - 1) + 1 ∧ ¬ x.floor % 2 = 0) from fun h => by rcases h with h | ⟨h, h4⟩; grind; exact h4 h3), if_pos (show 2 * x < 2 * f + 1 ∨ 2 * x = 2 * f + 1 ∧ x.floor % 2 = 0 from .inr ⟨h2, h3⟩)]
        · rw [if_pos (show 2 * -x < 2 * (-f - 1) + 1 ∨ 2 * -x = 2 * (-f - 1) + 1 ∧ ¬ x.floor % 2 = 0 from .inr ⟨by grind, h3⟩), if_neg (show ¬ (2 * x < 2 * f + 1 ∨ 2 * x = 2 * f + 1 ∧ x.floor % 2 = 0) from fun h => by rcases h with h | ⟨_, h⟩; exact h1 h; exact h3 h)]
      · rw [if_pos (show 2 * -x < 2 * (-f - 1) + 1 ∨ 2 * -x = 2 * (-f - 1) + 1 ∧ ¬ x.floor % 2 = 0 from .inl (by grind)), if_neg (show ¬ (2 * x < 2 * f + 1 ∨ 2 * x = 2 * f + 1 ∧ x.floor % 2 = 0) from fun h => by rcases h with h | ⟨h, _⟩; exact h1 h; exact h2 h)]
theorem rdd_eq (w : Int) (a : Rat) (k : Nat) : rdd w a k * (((10 ^ k : Nat) : Int) : Rat) = ((rnd w (a * (((10 ^ k : Nat) : Int) : Rat)) : Int) : Rat) := by
  unfold rdd
  rw [Rat.mkRat_eq_div]
  exact Rat.div_mul_cancel (fun e => by have := ten_pos k; rw [Rat.intCast_natCast, e] at this; exact Rat.lt_irrefl this)
theorem mul_ten_inj {a b : Rat} {k : Nat} (h : a * (((10 ^ k : Nat) : Int) : Rat) = b * (((10 ^ k : Nat) : Int) : Rat)) : a = b := by
  have hp := ten_pos k
  rcases (show a < b ∨ a = b ∨ b < a by grind) with h1 | h1 | h1
  · have := Rat.mul_lt_mul_of_pos_right h1 hp; rw [h] at this; exact absurd this Rat.lt_irrefl
  · exact h1
  · have := Rat.mul_lt_mul_of_pos_right h1 hp; rw [h] at this; exact absurd this Rat.lt_irrefl
theorem rdd_neg {w v : Int} {a : Rat} {k : Nat} (h : ∀ x, rnd w (-x) = -(rnd v x)) : rdd w (-a) k = -(rdd v a k) :=
  mul_ten_inj (k := k) (by rw [rdd_eq, Rat.neg_mul, Rat.neg_mul, rdd_eq, h, Rat.intCast_neg])
theorem rdd_neg1 (a : Rat) (k : Nat) : rdd 1 (-a) k = -(rdd 2 a k) := rdd_neg rnd_neg1
theorem rdd_neg2 (a : Rat) (k : Nat) : rdd 2 (-a) k = -(rdd 1 a k) := rdd_neg rnd_neg2
theorem rdd_neg3 (a : Rat) (k : Nat) : rdd 3 (-a) k = -(rdd 3 a k) := rdd_neg rnd_neg3
theorem rdd_mono {w : Int} {a b : Rat} {k : Nat} (h : a ≤ b) : rdd w a k ≤ rdd w b k := by
  refine Rat.le_of_mul_le_mul_right (c := (((10 ^ k : Nat) : Int) : Rat)) ?_ (ten_pos k)
  rw [rdd_eq, rdd_eq, Rat.intCast_le_intCast]
  exact rnd_mono (Rat.mul_le_mul_of_nonneg_right h (Rat.le_of_lt (ten_pos k)))
theorem rdd_le (a : Rat) (k : Nat) : rdd 1 a k ≤ a := by
  refine Rat.le_of_mul_le_mul_right (c := (((10 ^ k : Nat) : Int) : Rat)) ?_ (ten_pos k)
  rw [rdd_eq]; exact fl_le _
theorem rdd_ge (a : Rat) (k : Nat) : a ≤ rdd 2 a k := by
  have h := rdd_le (-a) k
  rw [rdd_neg1] at h
  exact Rat.neg_le_neg_iff.1 h
/-- a multiple of 10^-k below a is at most a rounded down -/
theorem le_rdd {a : Rat} {k : Nat} {n : Int} {b : Rat} (hb : b * (((10 ^ k : Nat) : Int) : Rat) = (n : Rat)) (h : b ≤ a) : b ≤ rdd 1 a k := by
  refine Rat.le_of_mul_le_mul_right (c := (((10 ^ k : Nat) : Int) : Rat)) ?_ (ten_pos k)
  rw [rdd_eq, hb, Rat.intCast_le_intCast]
  exact Rat.le_floor_iff.2 (by rw [← hb]; exact Rat.mul_le_mul_of_nonneg_right h (Rat.le_of_lt (ten_pos k)))
theorem rdd_more1 (a : Rat) {p q : Nat} (h : p ≤ q) : rdd 1 a p ≤ rdd 1 a q := by
  obtain ⟨j, rfl⟩ : ∃ j, q = p + j := ⟨q - p, by omega⟩
  refine le_rdd (n := rnd 1 (a * (((10 ^ p : Nat) : Int) : Rat)) * ((10 ^ j : Nat) : Int)) ?_ (rdd_le a p)
  rw [ten_add, ← Rat.mul_assoc, rdd_eq, Rat.intCast_mul]
theorem rdd_more2 (a : Rat) {p q : Nat} (h : p ≤ q) : rdd 2 a q ≤ rdd 2 a p := by
  have h1 := rdd_more1 (-a) h
  rw [rdd_neg1, rdd_neg1] at h1
  exact Rat.neg_le_neg_iff.1 h1
theorem rdd_rdd (w v : Int) (a : Rat) (k : Nat) : rdd v (rdd w a k) k = rdd w a k :=
  mul_ten_inj (k := k) (by rw [rdd_eq, rdd_eq, rnd_int])
theorem rdd_or (w : Int) (a : Rat) (k : Nat) : rdd w a k = rdd 1 a k ∨ rdd w a k = rdd 2 a k := by
  unfold rdd
  rcases rnd_or w (a * (((10 ^ k : Nat) : Int) : Rat)) with h | h
  · left; rw [h]; rfl
  · right; rw [h]; rfl

/-- 10^-n as Pow has it -/
theorem pow_tenth (n : Nat) : ((1 / 10 : Rat)) ^ n * (((10 ^ n : Nat) : Int) : Rat) = 1 := by
  induction n with
  | zero => decide +kernel
  | succ n ih =>
    rw [Rat.pow_succ, ten_add n 1]
    have e : (((10 ^ 1 : Nat) : Int) : Rat) = 10 := by decide +kernel
    rw [e]
    have e2 : (1 / 10 : Rat) * 10 = 1 := by decide +kernel
    calc (1 / 10 : Rat) ^ n * (1 / 10) * ((((10 ^ n : Nat) : Int) : Rat) * 10) = ((1 / 10 : Rat) ^ n * (((10 ^ n : Nat) : Int) : Rat)) * ((1 / 10) * 10) := by grind
      _ = 1 := by rw [ih, e2, Rat.mul_one]
theorem step_pos (n : Nat) : (0 : Rat) < ((1 / 10 : Rat)) ^ n := Rat.pow_pos (by decide +kernel)
theorem step_ne (n : Nat) : ((1 / 10 : Rat)) ^ n ≠ 0 := fun e => by have := step_pos n; rw [e] at this; exact Rat.lt_irrefl this
theorem div_tstep (a : Rat) (n : Nat) : a / ((1 / 10 : Rat)) ^ n = a * (((10 ^ n : Nat) : Int) : Rat) := by
  rw [Rat.div_def, Rat.inv_eq_of_mul_eq_one (pow_tenth n)]
theorem div_tstep2 (a : Rat) (n : Nat) : a / ((2 : Rat) * ((1 / 10 : Rat)) ^ n) = a * (((10 ^ n : Nat) : Int) : Rat) / 2 := by
  have e : (2 : Rat) * ((1 / 10 : Rat)) ^ n * ((((10 ^ n : Nat) : Int) : Rat) / 2) = 1 := by
    have := pow_tenth n
    generalize ((1 / 10 : Rat)) ^ n = s at *
    generalize (((10 ^ n : Nat) : Int) : Rat) = T at *
    grind
  rw [Rat.div_def, Rat.inv_eq_of_mul_eq_one e]
  grind
/-- the walk's cases of a rounding -/
theorem den_floor (x : Rat) : x.den = 1 ↔ ((x.floor : Int) : Rat) = x := by
  constructor
  · intro h
    have e : ((x.num : Int) : Rat) = x := Rat.ext rfl h.symm
    have e1 : x.floor = x.num := by rw [Rat.floor_def, h]; simp
    rw [e1, e]
  · intro h; rw [← h]; rfl
theorem rdd_whole {a : Rat} {n : Nat} (h : (a * (((10 ^ n : Nat) : Int) : Rat)).den = 1) (w : Int) : rdd w a n = a :=
  mul_ten_inj (k := n) (by rw [rdd_eq, ← (den_floor _).1 h, rnd_int, (den_floor _).1 h])
theorem rdd_part {a : Rat} {n : Nat} (h : ¬ (a * (((10 ^ n : Nat) : Int) : Rat)).den = 1) : rdd 1 a n < a ∧ a < rdd 2 a n ∧ rdd 2 a n - rdd 1 a n = ((1 / 10 : Rat)) ^ n := by
  have hf : ¬ (((a * (((10 ^ n : Nat) : Int) : Rat)).floor : Int) : Rat) = a * (((10 ^ n : Nat) : Int) : Rat) := fun e => h ((den_floor _).2 e)
  have hc := fl_ce_frac hf
  have h1 := rdd_eq 1 a n
  have h2 := rdd_eq 2 a n
  have n1 : ¬ rdd 1 a n = a := fun e => hf (by rw [e] at h1; exact h1.symm)
  have n2 : ¬ rdd 2 a n = a := fun e => hf (by
    rw [e] at h2
    have : (a * (((10 ^ n : Nat) : Int) : Rat)).den = 1 := by rw [h2]; rfl
    exact absurd this h)
  refine ⟨Rat.lt_of_le_of_ne (rdd_le a n) n1, Rat.lt_of_le_of_ne (rdd_ge a n) (fun e => n2 e.symm), mul_ten_inj (k := n) ?_⟩
  rw [pow_tenth, Rat.sub_eq_add_neg, Rat.add_mul, Rat.neg_mul, h1, h2]
  rw [rnd1, rnd2, hc, Rat.intCast_add, Rat.add_comm, ← Rat.add_assoc, Rat.neg_add_cancel, Rat.zero_add]
  rfl
/-- nearest: at most half a step away; a tie is even -/
theorem near_lo {a : Rat} {n : Nat} (h : rdd 3 a n = rdd 1 a n) (hn : ¬ (a * (((10 ^ n : Nat) : Int) : Rat)).den = 1) : 2 * (a - rdd 1 a n) < ((1 / 10 : Rat)) ^ n ∨ (2 * (a - rdd 1 a n) = ((1 / 10 : Rat)) ^ n ∧ (rdd 1 a n * (((10 ^ n : Nat) : Int) : Rat) / 2).den = 1) := by
  have hf : ¬ (((a * (((10 ^ n : Nat) : Int) : Rat)).floor : Int) : Rat) = a * (((10 ^ n : Nat) : Int) : Rat) := fun e => hn ((den_floor _).2 e)
  have hc := fl_ce_frac hf
  have h1 := rdd_eq 1 a n
  have h3 := rdd_eq 3 a n
  rw [h, h1, Rat.intCast_inj, rnd1, rnd3] at h3
  have hT := ten_pos n
  have hs := pow_tenth n
  rw [rnd1] at h1
  have key : 2 * (a * (((10 ^ n : Nat) : Int) : Rat)) < 2 * (((a * (((10 ^ n : Nat) : Int) : Rat)).floor : Int) : Rat) + 1 ∨ (2 * (a * (((10 ^ n : Nat) : Int) : Rat)) = 2 * (((a * (((10 ^ n : Nat) : Int) : Rat)).floor : Int) : Rat) + 1 ∧ (a * (((10 ^ n : Nat) : Int) : Rat)).floor % 2 = 0) := by
    split at h3
    · assumption
    · omega
  rcases key with k | ⟨k, ke⟩
  · left
    refine Rat.lt_of_mul_lt_mul_right (c := (((10 ^ n : Nat) : Int) : Rat)) ?_ (Rat.le_of_lt hT)
    rw [hs]
    have : 2 * (a - rdd 1 a n) * (((10 ^ n : Nat) : Int) : Rat) = 2 * (a * (((10 ^ n : Nat) : Int) : Rat)) - 2 * (rdd 1 a n * (((10 ^ n : Nat) : Int) : Rat)) := by grind
    rw [this, h1]
    grind
  · right
    constructor
    · refine mul_ten_inj (k := n) ?_
      rw [hs]
      have : 2 * (a - rdd 1 a n) * (((10 ^ n : Nat) : Int) : Rat) = 2 * (a * (((10 ^ n : Nat) : Int) : Rat)) - 2 * (rdd 1 a n * (((10 ^ n : Nat) : Int) : Rat)) := by grind
      rw [this, h1]
      grind
    · rw [h1]
      obtain ⟨j, hj⟩ : ∃ j, (a * (((10 ^ n : Nat) : Int) : Rat)).floor = j * 2 := ⟨(a * (((10 ^ n : Nat) : Int) : Rat)).floor / 2, by omega⟩
      rw [hj, Rat.intCast_mul]
      have : ((j : Int) : Rat) * ((2 : Int) : Rat) / 2 = (j : Rat) := Rat.mul_div_cancel (by decide +kernel)
      rw [this]; rfl
theorem near_hi {a : Rat} {n : Nat} (h : rdd 3 a n = rdd 2 a n) (hn : ¬ (a * (((10 ^ n : Nat) : Int) : Rat)).den = 1) : 2 * (rdd 2 a n - a) < ((1 / 10 : Rat)) ^ n ∨ (2 * (rdd 2 a n - a) = ((1 / 10 : Rat)) ^ n ∧ (rdd 2 a n * (((10 ^ n : Nat) : Int) : Rat) / 2).den = 1) := by
  have h' : rdd 3 (-a) n = rdd 1 (-a) n := by rw [rdd_neg3, rdd_neg1, h]
  have hn' : ¬ (-a * (((10 ^ n : Nat) : Int) : Rat)).den = 1 := by rw [Rat.neg_mul, Rat.neg_den]; exact hn
  have := near_lo h' hn'
  rw [rdd_neg1] at this
  have e : -a - -(rdd 2 a n) = rdd 2 a n - a := by grind
  rw [e] at this
  have e2 : -(rdd 2 a n) * (((10 ^ n : Nat) : Int) : Rat) / 2 = -(rdd 2 a n * (((10 ^ n : Nat) : Int) : Rat) / 2) := by grind
  rw [e2, Rat.neg_den] at this
  exact this
theorem rdd_den (w : Int) (a : Rat) (n : Nat) : (rdd w a n * (((10 ^ n : Nat) : Int) : Rat)).den = 1 := by rw [rdd_eq]; rfl

end Go.Proofs.YtgdibedgjndcoaaGreatDoor
