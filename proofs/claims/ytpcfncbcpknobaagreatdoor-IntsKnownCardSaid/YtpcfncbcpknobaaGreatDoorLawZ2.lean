
/- plain facts and z-forms for the laws of gussetlaw02. -/
import Derived.Test.YtpcfncbcpknobaaGreatDoorLawZ
import Derived.Test.YtpcfncbcpknobaaGreatDoorLawZ1
import Derived.Test.YtpcfncbcpknobaaGreatDoorPU
import Derived.Test.YtpcfncbcpknobaaGreatDoorPQ
import Derived.Test.YtpcfncbcpknobaaGreatDoorParseZ2
import Derived.Test.YtpcfncbcpknobaaGreatDoorPlanQ
namespace Go.Proofs.YtpcfncbcpknobaaGreatDoor
open Go.RowKit
set_option linter.unusedSimpArgs false
set_option linter.unusedVariables false
attribute [local go_sem ↓] Go.wp_at_zero Go.wp_at_succ

theorem zigcd (a b g x y : Int) (w : World) (hg : (egcd a b).1 = g) (hx : (egcd a b).2.1 = x) (hy : (egcd a b).2.2 = y) (ha : wl a.natAbs ≤ 1000000000) (hb : wl b.natAbs ≤ 1000000000) :
    Calls Tryz.prog 117 #[(Value.agg #[.int .u64 ((lo (Int.natAbs (a)) : Nat) : Int), .string (bg (Int.natAbs (a))), .bool (decide ((a) < 0))]), (Value.agg #[.int .u64 ((lo (Int.natAbs (b)) : Nat) : Int), .string (bg (Int.natAbs (b))), .bool (decide ((b) < 0))])] w fun e w' => e = .returned (.tuple #[(Value.agg #[.int .u64 ((lo (Int.natAbs (g)) : Nat) : Int), .string (bg (Int.natAbs (g))), .bool (decide ((g) < 0))]), (Value.agg #[.int .u64 ((lo (Int.natAbs (x)) : Nat) : Int), .string (bg (Int.natAbs (x))), .bool (decide ((x) < 0))]), (Value.agg #[.int .u64 ((lo (Int.natAbs (y)) : Nat) : Int), .string (bg (Int.natAbs (y))), .bool (decide ((y) < 0))])]) ∧ Below w.heap.size w w' := hg ▸ hx ▸ hy ▸ igcd_any a b w ha hb

theorem wl_egcd {a b : Int} {M : Nat} (h1 : wl a.natAbs ≤ M) (h2 : wl b.natAbs ≤ M) (hM : M ≤ 1000000000) : wl (egcd a b).1.natAbs ≤ M + 4 ∧ wl (egcd a b).2.1.natAbs ≤ M + 4 ∧ wl (egcd a b).2.2.natAbs ≤ M + 4 := by
  have hs := egcd_small a b
  have hsum : wl (5 * (a.natAbs + b.natAbs) + 5) ≤ M + 4 := by
    have e1 := wl_add a.natAbs b.natAbs
    have e2 := wl_mul 5 (a.natAbs + b.natAbs)
    have e3 := wl_add (5 * (a.natAbs + b.natAbs)) 5
    have e4 : wl 5 ≤ 1 := wl_small (by decide)
    omega
  refine ⟨?_, Nat.le_trans (wl_mono hs.1) hsum, Nat.le_trans (wl_mono hs.2) hsum⟩
  rw [(egcd_gcd _ a b (Nat.le_refl _)).1, Int.natAbs_natCast]
  have := wl_gcd a.natAbs b.natAbs
  omega

theorem tw_egcd' {a b : Int} {M : Nat} (h1 : tw a.natAbs ≤ M) (h2 : tw b.natAbs ≤ M) : tw (egcd a b).1.natAbs ≤ M + 4 ∧ tw (egcd a b).2.1.natAbs ≤ M + 4 ∧ tw (egcd a b).2.2.natAbs ≤ M + 4 := by
  have hs := egcd_small a b
  have hsum : tw (5 * (a.natAbs + b.natAbs) + 5) ≤ M + 4 := by
    have e1 := tw_add a.natAbs b.natAbs
    have e2 := tw_mul 5 (a.natAbs + b.natAbs)
    have e3 := tw_add (5 * (a.natAbs + b.natAbs)) 5
    have e4 : tw 5 ≤ 1 := tw_le.2 (by decide)
    omega
  refine ⟨?_, Nat.le_trans (tw_mono hs.1) hsum, Nat.le_trans (tw_mono hs.2) hsum⟩
  rw [(egcd_gcd _ a b (Nat.le_refl _)).1, Int.natAbs_natCast]
  have := tw_gcd a.natAbs b.natAbs
  omega

theorem eg_comb (a b : Int) : a * (egcd a b).2.1 + b * (egcd a b).2.2 = (egcd a b).1 := (egcd_gcd _ a b (Nat.le_refl _)).2

theorem eg_abs (a b : Int) : (egcd a b).1.natAbs = Nat.gcd a.natAbs b.natAbs := by rw [(egcd_gcd _ a b (Nat.le_refl _)).1, Int.natAbs_natCast]

theorem eg_pos (a b : Int) : 0 ≤ (egcd a b).1 := by rw [(egcd_gcd _ a b (Nat.le_refl _)).1]; omega

theorem idv0 (a b : Int) : a / b * b + a % b = a := by rw [Int.mul_comm]; exact Int.mul_ediv_add_emod a b

theorem idv1 (a b c : Int) (h : b ≠ 0) : (a * b + c % b) / b = a := by
  have hm := mod_abs c h
  have h0 : c % b / b = 0 := by
    rcases Int.lt_or_gt_of_ne h with h1 | h1
    · have e : c % b / b = -(c % b / -b) := by rw [Int.ediv_neg, Int.neg_neg]
      rw [e, Int.ediv_eq_zero_of_lt hm.2 (by omega)]; rfl
    · exact Int.ediv_eq_zero_of_lt hm.2 (by omega)
  rw [Int.add_comm, Int.add_mul_ediv_right _ _ h, h0, Int.zero_add]

theorem idv2 (a b c : Int) : (a * b + c % b) % b = c % b := by
  rw [Int.add_comm, Int.add_mul_emod_self_right, Int.emod_emod]

theorem eg0 (a : Int) : a * (egcd a 0).2.1 = (egcd a 0).1 := by have := eg_comb a 0; simpa using this

theorem elt (a b : Int) (h : b ≠ 0) : a % b < (if false then -((b.natAbs : Nat) : Int) else ((b.natAbs : Nat) : Int)) := Int.emod_lt a h

theorem sqn (a : Int) : 0 ≤ a * a := by
  rcases Int.le_total 0 a with h | h
  · exact Int.mul_nonneg h h
  · have := Int.mul_nonneg (Int.neg_nonneg_of_nonpos h) (Int.neg_nonneg_of_nonpos h)
    rwa [Int.neg_mul_neg] at this

theorem zback (a : Int) : (if decide (a < 0) then -((a.natAbs : Nat) : Int) else ((a.natAbs : Nat) : Int)) = a := by
  by_cases h : a < 0
  · rw [decide_eq_true h, if_pos rfl]; omega
  · rw [decide_eq_false h, if_neg (by decide)]; omega

theorem sgI_cases (a : Int) : (a < 0 ∧ sgI a = -1) ∨ (a = 0 ∧ sgI a = 0) ∨ (0 < a ∧ sgI a = 1) := by
  rcases Int.lt_trichotomy a 0 with h | h | h
  · exact .inl ⟨h, sgI_lt h⟩
  · exact .inr (.inl ⟨h, sgI_eq h⟩)
  · exact .inr (.inr ⟨h, sgI_gt h⟩)

theorem sgI_mul (a b : Int) : sgI (a * b) = sgI a * sgI b := by
  rcases sgI_cases a with ⟨h1, e1⟩ | ⟨h1, e1⟩ | ⟨h1, e1⟩ <;> rcases sgI_cases b with ⟨h2, e2⟩ | ⟨h2, e2⟩ | ⟨h2, e2⟩ <;> rw [e1, e2]
  · exact sgI_gt (Int.mul_pos_of_neg_of_neg h1 h2)
  · subst h2; rw [Int.mul_zero]; rfl
  · exact sgI_lt (Int.mul_neg_of_neg_of_pos h1 h2)
  · subst h1; rw [Int.zero_mul]; rfl
  · subst h1; rw [Int.zero_mul]; rfl
  · subst h1; rw [Int.zero_mul]; rfl
  · exact sgI_lt (Int.mul_neg_of_pos_of_neg h1 h2)
  · subst h2; rw [Int.mul_zero]; rfl
  · exact sgI_gt (Int.mul_pos h1 h2)

theorem sgI_one (a : Int) : -1 ≤ sgI a ∧ sgI a ≤ 1 := by
  rcases sgI_cases a with ⟨_, e⟩ | ⟨_, e⟩ | ⟨_, e⟩ <;> rw [e] <;> decide

theorem sgI_ne {b : Int} (h : b ≠ 0) : ¬ sgI b = 0 := by
  rcases sgI_cases b with ⟨_, e⟩ | ⟨h1, _⟩ | ⟨_, e⟩
  · rw [e]; decide
  · exact absurd h1 h
  · rw [e]; decide

end Go.Proofs.YtpcfncbcpknobaaGreatDoor
