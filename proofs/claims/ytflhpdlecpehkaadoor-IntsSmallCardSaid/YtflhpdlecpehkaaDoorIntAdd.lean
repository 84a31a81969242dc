
/- ints: plus, told, Add, Sub, Mul, Cmp: what they return. -/
import Derived.Test.YtflhpdlecpehkaaDoorIntOps
namespace Go.Proofs.YtflhpdlecpehkaaDoor
open Go.RowKit

theorem natAbs_if (a : Int) : a = if decide (a < 0) then -((a.natAbs : Nat) : Int) else ((a.natAbs : Nat) : Int) := by
  by_cases h : a < 0 <;> simp [h] <;> omega

theorem times_any (a b : Int) (w : World) (ha : wl a.natAbs ≤ 274877906944) (hb : wl b.natAbs ≤ 274877906944) :
    Calls Tryd.prog 47 #[(Value.agg #[.int .u64 ((lo (Int.natAbs (a)) : Nat) : Int), .string (bg (Int.natAbs (a))), .bool (decide ((a) < 0))]), (Value.agg #[.int .u64 ((lo (Int.natAbs (b)) : Nat) : Int), .string (bg (Int.natAbs (b))), .bool (decide ((b) < 0))])] w fun e w' => e = .returned (Value.agg #[.int .u64 ((lo (Int.natAbs (a * b)) : Nat) : Int), .string (bg (Int.natAbs (a * b))), .bool (decide ((a * b) < 0))]) ∧ Below w.heap.size w w' := by
  have h := times_raw (decide (a < 0)) (decide (b < 0)) a.natAbs b.natAbs w ha hb
  rw [int_fields] at h
  have e : (if (decide (a < 0) != decide (b < 0)) then -((a.natAbs * b.natAbs : Nat) : Int) else ((a.natAbs * b.natAbs : Nat) : Int)) = a * b := by
    conv => rhs; rw [natAbs_if a, natAbs_if b]
    cases decide (a < 0) <;> cases decide (b < 0) <;> simp [Int.neg_mul, Int.mul_neg]
  rw [e] at h
  exact h

/-- the sum of two signed sizes -/
def sgv (s : Bool) (n : Nat) : Int := if s then -(n : Int) else (n : Int)

set_option maxHeartbeats 1000000 in
theorem plus_same (p : Bool) (a b : Nat) (w : World) (ha : wl a ≤ 274877906944) (hb : wl b ≤ 274877906944) :
    Calls Tryd.prog 46 #[.agg #[.int .u64 ((lo (a) : Nat) : Int), .string (bg (a)), .bool p], .agg #[.int .u64 ((lo (b) : Nat) : Int), .string (bg (b)), .bool p]] w fun e w' => e = .returned (.agg #[.int .u64 ((lo (a + b) : Nat) : Int), .string (bg (a + b)), .bool (p && !decide (a + b = 0))]) ∧ Below w.heap.size w w' := by
  obtain ⟨W0, HW⟩ : ∃ W0, Hid ((((w.alloc (.cells #[.int .u64 ((lo (a) : Nat) : Int), .string (bg (a)), .bool p] 29)).alloc (.cells #[.int .u64 ((lo (b) : Nat) : Int), .string (bg (b)), .bool p] 29)).alloc (.cells #[.int .u64 0, .string ⟨#[]⟩, .bool false] 29)) = W0) := ⟨_, Lib.hid rfl⟩
  have HS := Lib.hid (show w.heap.size + 3 = W0.heap.size by rw [← HW.out]; simp)
  have z0 : w.heap.size < W0.heap.size := by rw [← HS.out]; omega
  have z1 : w.heap.size + 1 < W0.heap.size := by rw [← HS.out]; omega
  have z2 : w.heap.size + 1 + 1 < W0.heap.size := by rw [← HS.out]; omega
  have c0_0 : W0.cell? ⟨w.heap.size, 0, none⟩ = some (.int .u64 ((lo (a) : Nat) : Int)) := by rw [← HW.out]; simp [go_sem]
  have c0_1 : W0.cell? ⟨w.heap.size, 1, none⟩ = some (.string (bg (a))) := by rw [← HW.out]; simp [go_sem]
  have c0_2 : W0.cell? ⟨w.heap.size, 2, none⟩ = some (.bool p) := by rw [← HW.out]; simp [go_sem]
  have c1_0 : W0.cell? ⟨w.heap.size + 1, 0, none⟩ = some (.int .u64 ((lo (b) : Nat) : Int)) := by rw [← HW.out]; simp [go_sem]
  have c1_1 : W0.cell? ⟨w.heap.size + 1, 1, none⟩ = some (.string (bg (b))) := by rw [← HW.out]; simp [go_sem]
  have c1_2 : W0.cell? ⟨w.heap.size + 1, 2, none⟩ = some (.bool p) := by rw [← HW.out]; simp [go_sem]
  have c2_0 : W0.cell? ⟨w.heap.size + 1 + 1, 0, none⟩ = some (.int .u64 0) := by rw [← HW.out]; simp [go_sem]
  have c2_1 : W0.cell? ⟨w.heap.size + 1 + 1, 1, none⟩ = some (.string ⟨#[]⟩) := by rw [← HW.out]; simp [go_sem]
  have c2_2 : W0.cell? ⟨w.heap.size + 1 + 1, 2, none⟩ = some (.bool false) := by rw [← HW.out]; simp [go_sem]
  have f_0 : W0.frozen? ⟨w.heap.size + 1 + 1, 0, none⟩ = false := by rw [← HW.out]; simp [go_sem]
  have f_1 : W0.frozen? ⟨w.heap.size + 1 + 1, 1, none⟩ = false := by rw [← HW.out]; simp [go_sem]
  have f_2 : W0.frozen? ⟨w.heap.size + 1 + 1, 2, none⟩ = false := by rw [← HW.out]; simp [go_sem]
  have hbw : Below w.heap.size w W0 := by rw [← HW.out]; exact (((Below.refl _ _).alloc (Nat.le_refl _) _).alloc (by simp) _).alloc (by simp; omega) _
  have HR : Hid (∀ w1 : World, Below W0.heap.size W0 w1 → w1.cell? ⟨w.heap.size, 0, none⟩ = some (.int .u64 ((lo (a) : Nat) : Int)) ∧ w1.cell? ⟨w.heap.size, 1, none⟩ = some (.string (bg (a))) ∧ w1.cell? ⟨w.heap.size, 2, none⟩ = some (.bool p) ∧ w1.cell? ⟨w.heap.size + 1, 0, none⟩ = some (.int .u64 ((lo (b) : Nat) : Int)) ∧ w1.cell? ⟨w.heap.size + 1, 1, none⟩ = some (.string (bg (b))) ∧ w1.cell? ⟨w.heap.size + 1, 2, none⟩ = some (.bool p) ∧ w1.cell? ⟨w.heap.size + 1 + 1, 0, none⟩ = some (.int .u64 0) ∧ w1.cell? ⟨w.heap.size + 1 + 1, 1, none⟩ = some (.string ⟨#[]⟩) ∧ w1.cell? ⟨w.heap.size + 1 + 1, 2, none⟩ = some (.bool false) ∧ w1.frozen? ⟨w.heap.size + 1 + 1, 0, none⟩ = false ∧ w1.frozen? ⟨w.heap.size + 1 + 1, 1, none⟩ = false ∧ w1.frozen? ⟨w.heap.size + 1 + 1, 2, none⟩ = false ∧ Below w.heap.size w w1) := fun w1 hb => ⟨(held W0 w1 hb _ _ z0).trans c0_0, (held W0 w1 hb _ _ z0).trans c0_1, (held W0 w1 hb _ _ z0).trans c0_2, (held W0 w1 hb _ _ z1).trans c1_0, (held W0 w1 hb _ _ z1).trans c1_1, (held W0 w1 hb _ _ z1).trans c1_2, (held W0 w1 hb _ _ z2).trans c2_0, (held W0 w1 hb _ _ z2).trans c2_1, (held W0 w1 hb _ _ z2).trans c2_2, (heldf W0 w1 hb _ _ z2).trans f_0, (heldf W0 w1 hb _ _ z2).trans f_1, (heldf W0 w1 hb _ _ z2).trans f_2, grow hbw hb⟩
  have HBW := Lib.hid hbw
  clear hbw
  obtain ⟨P, HP⟩ : ∃ P, Hid (a + b = P) := ⟨_, Lib.hid rfl⟩
  rw [HP.out]
  cases p
  all_goals
    go_enter Tryd.func46, Tryd.ntmps46
    go_wp2_with fail
    rw [HW.out]
    have hlaw := heldat (w.heap.size + 1 + 1) W0
    have y0 : w.heap.size < w.heap.size + 1 + 1 := by omega
    have y1 : w.heap.size + 1 < w.heap.size + 1 + 1 := by omega
    have HC : Hid (w.heap.size + 1 + 1 ≤ W0.heap.size) := Nat.le_of_lt z2
    go_region_held3 (fun w' => Below (w.heap.size + 1 + 1) W0 w')
      (first | exact (Below.refl _ _).drew | assumption | exact (((by assumption : Below (w.heap.size + 1 + 1) W0 _).setCell (Nat.le_refl _) _).setCell (Nat.le_refl _) _).setCell (Nat.le_refl _) _)
      (first
      | (go_at_call 55; refine (add_any a b _ (by omega) (by omega)).mono ?_; rintro e w1 ⟨rfl, hb1⟩; rw [HP.out]; have hB1 : Hid (Below W0.heap.size W0 w1) := ((Below.refl _ _).drew).trans hb1; have hC1 := hB1.out.mono HC.out; clear hb1)
      | (go_at_call 25; refine (from_raw _ P _).mono ?_; rintro e w2 ⟨rfl, hb2⟩; have hB2 : Hid (Below W0.heap.size W0 w2) := grow hB1.out hb2; have hC2 := hB2.out.mono HC.out; clear hb2; clear c0_0 c0_1 c0_2 c1_0 c1_1 c1_2 c2_0 c2_1 c2_2 f_0 f_1 f_2 HBW; obtain ⟨c0_0, c0_1, c0_2, c1_0, c1_1, c1_2, c2_0, c2_1, c2_2, f_0, f_1, f_2, hbw⟩ := HR.out w2 (hB2.out); have HBW := Lib.hid hbw; clear hbw))
    all_goals
      go_wp2
      exact bodyPost_ret (v := .agg #[.int .u64 ((lo (P) : Nat) : Int), .string (bg (P)), .bool _]) (by simp [results, Tryd.results46, go_sem, c2_0, c2_1, c2_2]) rfl ⟨rfl, by first | exact (((HBW.out).setCell (by show w.heap.size ≤ w.heap.size + 1 + 1; omega) _).setCell (by show w.heap.size ≤ w.heap.size + 1 + 1; omega) _).setCell (by show w.heap.size ≤ w.heap.size + 1 + 1; omega) _ | exact ((((HBW.out).setCell (by show w.heap.size ≤ w.heap.size + 1 + 1; omega) _).setCell (by show w.heap.size ≤ w.heap.size + 1 + 1; omega) _).setCell (by show w.heap.size ≤ w.heap.size + 1 + 1; omega) _).drew⟩

set_option maxHeartbeats 1000000 in
theorem plus_other (p : Bool) (a b : Nat) (w : World) (ha : wl a ≤ 274877906944) (hb : wl b ≤ 274877906944) :
    Calls Tryd.prog 46 #[.agg #[.int .u64 ((lo (a) : Nat) : Int), .string (bg (a)), .bool p], .agg #[.int .u64 ((lo (b) : Nat) : Int), .string (bg (b)), .bool (!p)]] w fun e w' =>
      e = .returned (if b ≤ a then .agg #[.int .u64 ((lo (a - b) : Nat) : Int), .string (bg (a - b)), .bool (p && !decide (a - b = 0))] else .agg #[.int .u64 ((lo (b - a) : Nat) : Int), .string (bg (b - a)), .bool (!p && !decide (b - a = 0))]) ∧ Below w.heap.size w w' := by
  obtain ⟨W0, HW⟩ : ∃ W0, Hid ((((w.alloc (.cells #[.int .u64 ((lo (a) : Nat) : Int), .string (bg (a)), .bool p] 29)).alloc (.cells #[.int .u64 ((lo (b) : Nat) : Int), .string (bg (b)), .bool (!p)] 29)).alloc (.cells #[.int .u64 0, .string ⟨#[]⟩, .bool false] 29)) = W0) := ⟨_, Lib.hid rfl⟩
  have HS := Lib.hid (show w.heap.size + 3 = W0.heap.size by rw [← HW.out]; simp)
  have z0 : w.heap.size < W0.heap.size := by rw [← HS.out]; omega
  have z1 : w.heap.size + 1 < W0.heap.size := by rw [← HS.out]; omega
  have z2 : w.heap.size + 1 + 1 < W0.heap.size := by rw [← HS.out]; omega
  have c0_0 : W0.cell? ⟨w.heap.size, 0, none⟩ = some (.int .u64 ((lo (a) : Nat) : Int)) := by rw [← HW.out]; simp [go_sem]
  have c0_1 : W0.cell? ⟨w.heap.size, 1, none⟩ = some (.string (bg (a))) := by rw [← HW.out]; simp [go_sem]
  have c0_2 : W0.cell? ⟨w.heap.size, 2, none⟩ = some (.bool p) := by rw [← HW.out]; simp [go_sem]
  have c1_0 : W0.cell? ⟨w.heap.size + 1, 0, none⟩ = some (.int .u64 ((lo (b) : Nat) : Int)) := by rw [← HW.out]; simp [go_sem]
  have c1_1 : W0.cell? ⟨w.heap.size + 1, 1, none⟩ = some (.string (bg (b))) := by rw [← HW.out]; simp [go_sem]
  have c1_2 : W0.cell? ⟨w.heap.size + 1, 2, none⟩ = some (.bool (!p)) := by rw [← HW.out]; simp [go_sem]
  have c2_0 : W0.cell? ⟨w.heap.size + 1 + 1, 0, none⟩ = some (.int .u64 0) := by rw [← HW.out]; simp [go_sem]
  have c2_1 : W0.cell? ⟨w.heap.size + 1 + 1, 1, none⟩ = some (.string ⟨#[]⟩) := by rw [← HW.out]; simp [go_sem]
  have c2_2 : W0.cell? ⟨w.heap.size + 1 + 1, 2, none⟩ = some (.bool false) := by rw [← HW.out]; simp [go_sem]
  have f_0 : W0.frozen? ⟨w.heap.size + 1 + 1, 0, none⟩ = false := by rw [← HW.out]; simp [go_sem]
  have f_1 : W0.frozen? ⟨w.heap.size + 1 + 1, 1, none⟩ = false := by rw [← HW.out]; simp [go_sem]
  have f_2 : W0.frozen? ⟨w.heap.size + 1 + 1, 2, none⟩ = false := by rw [← HW.out]; simp [go_sem]
  have hbw : Below w.heap.size w W0 := by rw [← HW.out]; exact (((Below.refl _ _).alloc (Nat.le_refl _) _).alloc (by simp) _).alloc (by simp; omega) _
  have HR : Hid (∀ w1 : World, Below W0.heap.size W0 w1 → w1.cell? ⟨w.heap.size, 0, none⟩ = some (.int .u64 ((lo (a) : Nat) : Int)) ∧ w1.cell? ⟨w.heap.size, 1, none⟩ = some (.string (bg (a))) ∧ w1.cell? ⟨w.heap.size, 2, none⟩ = some (.bool p) ∧ w1.cell? ⟨w.heap.size + 1, 0, none⟩ = some (.int .u64 ((lo (b) : Nat) : Int)) ∧ w1.cell? ⟨w.heap.size + 1, 1, none⟩ = some (.string (bg (b))) ∧ w1.cell? ⟨w.heap.size + 1, 2, none⟩ = some (.bool (!p)) ∧ w1.cell? ⟨w.heap.size + 1 + 1, 0, none⟩ = some (.int .u64 0) ∧ w1.cell? ⟨w.heap.size + 1 + 1, 1, none⟩ = some (.string ⟨#[]⟩) ∧ w1.cell? ⟨w.heap.size + 1 + 1, 2, none⟩ = some (.bool false) ∧ w1.frozen? ⟨w.heap.size + 1 + 1, 0, none⟩ = false ∧ w1.frozen? ⟨w.heap.size + 1 + 1, 1, none⟩ = false ∧ w1.frozen? ⟨w.heap.size + 1 + 1, 2, none⟩ = false ∧ Below w.heap.size w w1) := fun w1 hb => ⟨(held W0 w1 hb _ _ z0).trans c0_0, (held W0 w1 hb _ _ z0).trans c0_1, (held W0 w1 hb _ _ z0).trans c0_2, (held W0 w1 hb _ _ z1).trans c1_0, (held W0 w1 hb _ _ z1).trans c1_1, (held W0 w1 hb _ _ z1).trans c1_2, (held W0 w1 hb _ _ z2).trans c2_0, (held W0 w1 hb _ _ z2).trans c2_1, (held W0 w1 hb _ _ z2).trans c2_2, (heldf W0 w1 hb _ _ z2).trans f_0, (heldf W0 w1 hb _ _ z2).trans f_1, (heldf W0 w1 hb _ _ z2).trans f_2, grow hbw hb⟩
  have HBW := Lib.hid hbw
  clear hbw
  by_cases hab : b ≤ a
  · rw [if_pos hab]
    have hd : decide (b ≤ a) = true := decide_eq_true hab
    obtain ⟨P, HP⟩ : ∃ P, Hid (a - b = P) := ⟨_, Lib.hid rfl⟩
    rw [HP.out]
    clear hab
    cases p
    all_goals
      simp only [Bool.not_true, Bool.not_false] at *
      go_enter Tryd.func46, Tryd.ntmps46
      go_wp2_with fail
      rw [HW.out]
      refine (sub_any a b W0 (by omega) (by omega)).mono ?_
      rintro e w1 ⟨rfl, hb1⟩
      rw [HP.out]
      clear c0_0 c0_1 c0_2 c1_0 c1_1 c1_2 c2_0 c2_1 c2_2 f_0 f_1 f_2 HBW; obtain ⟨c0_0, c0_1, c0_2, c1_0, c1_1, c1_2, c2_0, c2_1, c2_2, f_0, f_1, f_2, hbw⟩ := HR.out w1 (hb1); have HBW := Lib.hid hbw; clear hbw
      have HB1 := Lib.hid hb1
      have n0 : w.heap.size < w1.heap.size := by have := hb1.size; omega
      have n1 : w.heap.size + 1 < w1.heap.size := by have := hb1.size; omega
      have n2 : w.heap.size + 1 + 1 < w1.heap.size := by have := hb1.size; omega
      clear hb1
      go_wp2_with fail
      refine (from_raw _ P _).mono ?_
      rintro e w2 ⟨rfl, hb2⟩
      have hB2 := grow (HB1.out.alloc HB1.out.size _) hb2
      clear hb2
      clear c0_0 c0_1 c0_2 c1_0 c1_1 c1_2 c2_0 c2_1 c2_2 f_0 f_1 f_2 HBW; obtain ⟨c0_0, c0_1, c0_2, c1_0, c1_1, c1_2, c2_0, c2_1, c2_2, f_0, f_1, f_2, hbw⟩ := HR.out w2 (hB2); have HBW := Lib.hid hbw; clear hbw
      clear hB2
      go_wp2
      exact bodyPost_ret (v := .agg #[.int .u64 ((lo (P) : Nat) : Int), .string (bg (P)), .bool _]) (by simp [results, Tryd.results46, go_sem, c2_0, c2_1, c2_2]) rfl ⟨rfl, by first | exact (((HBW.out).setCell (by show w.heap.size ≤ w.heap.size + 1 + 1; omega) _).setCell (by show w.heap.size ≤ w.heap.size + 1 + 1; omega) _).setCell (by show w.heap.size ≤ w.heap.size + 1 + 1; omega) _ | exact ((((HBW.out).setCell (by show w.heap.size ≤ w.heap.size + 1 + 1; omega) _).setCell (by show w.heap.size ≤ w.heap.size + 1 + 1; omega) _).setCell (by show w.heap.size ≤ w.heap.size + 1 + 1; omega) _).drew⟩
  · rw [if_neg hab]
    have hd : decide (b ≤ a) = false := decide_eq_false hab
    obtain ⟨P, HP⟩ : ∃ P, Hid (b - a = P) := ⟨_, Lib.hid rfl⟩
    rw [HP.out]
    clear hab
    cases p
    all_goals
      simp only [Bool.not_true, Bool.not_false] at *
      go_enter Tryd.func46, Tryd.ntmps46
      go_wp2_with fail
      rw [HW.out]
      refine (sub_any a b W0 (by omega) (by omega)).mono ?_
      rintro e w1 ⟨rfl, hb1⟩
      clear c0_0 c0_1 c0_2 c1_0 c1_1 c1_2 c2_0 c2_1 c2_2 f_0 f_1 f_2 HBW; obtain ⟨c0_0, c0_1, c0_2, c1_0, c1_1, c1_2, c2_0, c2_1, c2_2, f_0, f_1, f_2, hbw⟩ := HR.out w1 (hb1); have HBW := Lib.hid hbw; clear hbw
      have HB1 := Lib.hid hb1
      have n0 : w.heap.size < w1.heap.size := by have := hb1.size; omega
      have n1 : w.heap.size + 1 < w1.heap.size := by have := hb1.size; omega
      have n2 : w.heap.size + 1 + 1 < w1.heap.size := by have := hb1.size; omega
      clear hb1
      go_wp2_with fail
      refine (sub_any b a _ (by omega) (by omega)).mono ?_
      rintro e w2 ⟨rfl, hb2⟩
      rw [HP.out]
      have hB2 := grow (HB1.out.alloc HB1.out.size _) hb2
      clear hb2
      clear c0_0 c0_1 c0_2 c1_0 c1_1 c1_2 c2_0 c2_1 c2_2 f_0 f_1 f_2 HBW; obtain ⟨c0_0, c0_1, c0_2, c1_0, c1_1, c1_2, c2_0, c2_1, c2_2, f_0, f_1, f_2, hbw⟩ := HR.out w2 (hB2); have HBW := Lib.hid hbw; clear hbw
      have HB2 := Lib.hid hB2
      have n3 : w.heap.size < w2.heap.size := by have := hB2.size; omega
      have n4 : w.heap.size + 1 < w2.heap.size := by have := hB2.size; omega
      have n5 : w.heap.size + 1 + 1 < w2.heap.size := by have := hB2.size; omega
      clear hB2
      go_wp2_with fail
      refine (from_raw _ P _).mono ?_
      rintro e w3 ⟨rfl, hb3⟩
      have hB3 := grow (HB2.out.alloc HB2.out.size _) hb3
      clear hb3
      clear c0_0 c0_1 c0_2 c1_0 c1_1 c1_2 c2_0 c2_1 c2_2 f_0 f_1 f_2 HBW; obtain ⟨c0_0, c0_1, c0_2, c1_0, c1_1, c1_2, c2_0, c2_1, c2_2, f_0, f_1, f_2, hbw⟩ := HR.out w3 (hB3); have HBW := Lib.hid hbw; clear hbw
      clear hB3
      go_wp2
      exact bodyPost_ret (v := .agg #[.int .u64 ((lo (P) : Nat) : Int), .string (bg (P)), .bool _]) (by simp [results, Tryd.results46, go_sem, c2_0, c2_1, c2_2]) rfl ⟨rfl, by first | exact (((HBW.out).setCell (by show w.heap.size ≤ w.heap.size + 1 + 1; omega) _).setCell (by show w.heap.size ≤ w.heap.size + 1 + 1; omega) _).setCell (by show w.heap.size ≤ w.heap.size + 1 + 1; omega) _ | exact ((((HBW.out).setCell (by show w.heap.size ≤ w.heap.size + 1 + 1; omega) _).setCell (by show w.heap.size ≤ w.heap.size + 1 + 1; omega) _).setCell (by show w.heap.size ≤ w.heap.size + 1 + 1; omega) _).drew⟩
end Go.Proofs.YtflhpdlecpehkaaDoor
