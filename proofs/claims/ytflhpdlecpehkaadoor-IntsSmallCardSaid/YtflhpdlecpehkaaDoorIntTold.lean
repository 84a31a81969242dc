
/- ints: told, Add, Sub, Mul, Cmp, Of: what they return. -/
import Derived.Test.YtflhpdlecpehkaaDoorIntAdd
namespace Go.Proofs.YtflhpdlecpehkaaDoor
open Go.RowKit

theorem plus_any (a b : Int) (w : World) (ha : wl a.natAbs ≤ 274877906944) (hb : wl b.natAbs ≤ 274877906944) :
    Calls Tryd.prog 46 #[(Value.agg #[.int .u64 ((lo (Int.natAbs (a)) : Nat) : Int), .string (bg (Int.natAbs (a))), .bool (decide ((a) < 0))]), (Value.agg #[.int .u64 ((lo (Int.natAbs (b)) : Nat) : Int), .string (bg (Int.natAbs (b))), .bool (decide ((b) < 0))])] w fun e w' => e = .returned (Value.agg #[.int .u64 ((lo (Int.natAbs (a + b)) : Nat) : Int), .string (bg (Int.natAbs (a + b))), .bool (decide ((a + b) < 0))]) ∧ Below w.heap.size w w' := by
  have ea := natAbs_if a
  have eb := natAbs_if b
  by_cases hs : decide (b < 0) = decide (a < 0)
  · have h := plus_same (decide (a < 0)) a.natAbs b.natAbs w ha hb
    rw [int_fields] at h
    have e : (if decide (a < 0) then -((a.natAbs + b.natAbs : Nat) : Int) else ((a.natAbs + b.natAbs : Nat) : Int)) = a + b := by
      by_cases h1 : a < 0 <;> by_cases h2 : b < 0 <;> simp [h1, h2] at hs ⊢ <;> omega
    rw [e] at h
    rw [hs]
    exact h
  · have hs2 : decide (b < 0) = !decide (a < 0) := by
      by_cases h1 : a < 0 <;> by_cases h2 : b < 0 <;> simp [h1, h2] at hs ⊢
    have h := plus_other (decide (a < 0)) a.natAbs b.natAbs w ha hb
    rw [hs2]
    by_cases hab : b.natAbs ≤ a.natAbs
    · rw [if_pos hab, int_fields] at h
      have e : (if decide (a < 0) then -((a.natAbs - b.natAbs : Nat) : Int) else ((a.natAbs - b.natAbs : Nat) : Int)) = a + b := by
        by_cases h1 : a < 0 <;> by_cases h2 : b < 0 <;> simp [h1, h2] at hs ⊢ <;> omega
      rw [e] at h
      exact h
    · rw [if_neg hab, int_fields] at h
      have e : (if !decide (a < 0) then -((b.natAbs - a.natAbs : Nat) : Int) else ((b.natAbs - a.natAbs : Nat) : Int)) = a + b := by
        by_cases h1 : a < 0 <;> by_cases h2 : b < 0 <;> simp [h1, h2] at hs ⊢ <;> omega
      rw [e] at h
      exact h

theorem told_plus (a b : Int) (w : World) (ha : wl a.natAbs ≤ 274877906944) (hb : wl b.natAbs ≤ 274877906944) :
    Calls Tryd.prog 45 #[.func (.func 46) #[] #[], (Value.agg #[.int .u64 ((lo (Int.natAbs (a)) : Nat) : Int), .string (bg (Int.natAbs (a))), .bool (decide ((a) < 0))]), (Value.agg #[.int .u64 ((lo (Int.natAbs (b)) : Nat) : Int), .string (bg (Int.natAbs (b))), .bool (decide ((b) < 0))])] w fun e w' => e = .returned (Value.agg #[.int .u64 ((lo (Int.natAbs (a + b)) : Nat) : Int), .string (bg (Int.natAbs (a + b))), .bool (decide ((a + b) < 0))]) ∧ Below w.heap.size w w' := by
  obtain ⟨W0, HW⟩ : ∃ W0, Hid ((((w.alloc (.cells #[.int .u64 ((lo (Int.natAbs (a)) : Nat) : Int), .string (bg (Int.natAbs (a))), .bool (decide ((a) < 0))] 29)).alloc (.cells #[.int .u64 ((lo (Int.natAbs (b)) : Nat) : Int), .string (bg (Int.natAbs (b))), .bool (decide ((b) < 0))] 29)).alloc (.cells #[.int .u64 0, .string ⟨#[]⟩, .bool false] 29)) = W0) := ⟨_, Lib.hid rfl⟩
  have HS := Lib.hid (show w.heap.size + 3 = W0.heap.size by rw [← HW.out]; simp)
  have z0 : w.heap.size < W0.heap.size := by rw [← HS.out]; omega
  have z1 : w.heap.size + 1 < W0.heap.size := by rw [← HS.out]; omega
  have z2 : w.heap.size + 1 + 1 < W0.heap.size := by rw [← HS.out]; omega
  have c0_0 : W0.cell? ⟨w.heap.size, 0, none⟩ = some (.int .u64 ((lo (Int.natAbs (a)) : Nat) : Int)) := by rw [← HW.out]; simp [go_sem]
  have c0_1 : W0.cell? ⟨w.heap.size, 1, none⟩ = some (.string (bg (Int.natAbs (a)))) := by rw [← HW.out]; simp [go_sem]
  have c0_2 : W0.cell? ⟨w.heap.size, 2, none⟩ = some (.bool (decide ((a) < 0))) := by rw [← HW.out]; simp [go_sem]
  have c1_0 : W0.cell? ⟨w.heap.size + 1, 0, none⟩ = some (.int .u64 ((lo (Int.natAbs (b)) : Nat) : Int)) := by rw [← HW.out]; simp [go_sem]
  have c1_1 : W0.cell? ⟨w.heap.size + 1, 1, none⟩ = some (.string (bg (Int.natAbs (b)))) := by rw [← HW.out]; simp [go_sem]
  have c1_2 : W0.cell? ⟨w.heap.size + 1, 2, none⟩ = some (.bool (decide ((b) < 0))) := by rw [← HW.out]; simp [go_sem]
  have c2_0 : W0.cell? ⟨w.heap.size + 1 + 1, 0, none⟩ = some (.int .u64 0) := by rw [← HW.out]; simp [go_sem]
  have c2_1 : W0.cell? ⟨w.heap.size + 1 + 1, 1, none⟩ = some (.string ⟨#[]⟩) := by rw [← HW.out]; simp [go_sem]
  have c2_2 : W0.cell? ⟨w.heap.size + 1 + 1, 2, none⟩ = some (.bool false) := by rw [← HW.out]; simp [go_sem]
  have f_0 : W0.frozen? ⟨w.heap.size + 1 + 1, 0, none⟩ = false := by rw [← HW.out]; simp [go_sem]
  have f_1 : W0.frozen? ⟨w.heap.size + 1 + 1, 1, none⟩ = false := by rw [← HW.out]; simp [go_sem]
  have f_2 : W0.frozen? ⟨w.heap.size + 1 + 1, 2, none⟩ = false := by rw [← HW.out]; simp [go_sem]
  have hbw : Below w.heap.size w W0 := by rw [← HW.out]; exact (((Below.refl _ _).alloc (Nat.le_refl _) _).alloc (by simp) _).alloc (by simp; omega) _
  have HR : Hid (∀ w1 : World, Below W0.heap.size W0 w1 → w1.cell? ⟨w.heap.size, 0, none⟩ = some (.int .u64 ((lo (Int.natAbs (a)) : Nat) : Int)) ∧ w1.cell? ⟨w.heap.size, 1, none⟩ = some (.string (bg (Int.natAbs (a)))) ∧ w1.cell? ⟨w.heap.size, 2, none⟩ = some (.bool (decide ((a) < 0))) ∧ w1.cell? ⟨w.heap.size + 1, 0, none⟩ = some (.int .u64 ((lo (Int.natAbs (b)) : Nat) : Int)) ∧ w1.cell? ⟨w.heap.size + 1, 1, none⟩ = some (.string (bg (Int.natAbs (b)))) ∧ w1.cell? ⟨w.heap.size + 1, 2, none⟩ = some (.bool (decide ((b) < 0))) ∧ w1.cell? ⟨w.heap.size + 1 + 1, 0, none⟩ = some (.int .u64 0) ∧ w1.cell? ⟨w.heap.size + 1 + 1, 1, none⟩ = some (.string ⟨#[]⟩) ∧ w1.cell? ⟨w.heap.size + 1 + 1, 2, none⟩ = some (.bool false) ∧ w1.frozen? ⟨w.heap.size + 1 + 1, 0, none⟩ = false ∧ w1.frozen? ⟨w.heap.size + 1 + 1, 1, none⟩ = false ∧ w1.frozen? ⟨w.heap.size + 1 + 1, 2, none⟩ = false ∧ Below w.heap.size w w1) := fun w1 hb => ⟨(held W0 w1 hb _ _ z0).trans c0_0, (held W0 w1 hb _ _ z0).trans c0_1, (held W0 w1 hb _ _ z0).trans c0_2, (held W0 w1 hb _ _ z1).trans c1_0, (held W0 w1 hb _ _ z1).trans c1_1, (held W0 w1 hb _ _ z1).trans c1_2, (held W0 w1 hb _ _ z2).trans c2_0, (held W0 w1 hb _ _ z2).trans c2_1, (held W0 w1 hb _ _ z2).trans c2_2, (heldf W0 w1 hb _ _ z2).trans f_0, (heldf W0 w1 hb _ _ z2).trans f_1, (heldf W0 w1 hb _ _ z2).trans f_2, grow hbw hb⟩
  have HBW := Lib.hid hbw
  clear hbw
  obtain ⟨z, HZ⟩ : ∃ z, Hid (a + b = z) := ⟨_, Lib.hid rfl⟩
  rw [HZ.out]
  go_enter Tryd.func45, Tryd.ntmps45
  go_wp2_with fail
  rw [HW.out]
  refine (plus_any a b W0 ha hb).mono ?_
  rintro e w1 ⟨rfl, hb1⟩
  rw [HZ.out]
  clear c0_0 c0_1 c0_2 c1_0 c1_1 c1_2 c2_0 c2_1 c2_2 f_0 f_1 f_2 HBW; obtain ⟨c0_0, c0_1, c0_2, c1_0, c1_1, c1_2, c2_0, c2_1, c2_2, f_0, f_1, f_2, hbw⟩ := HR.out w1 (hb1); have HBW := Lib.hid hbw; clear hbw
  clear hb1
  go_wp2
  exact bodyPost_ret (v := (Value.agg #[.int .u64 ((lo (Int.natAbs (z)) : Nat) : Int), .string (bg (Int.natAbs (z))), .bool (decide ((z) < 0))])) (by simp [results, Tryd.results45, go_sem, c2_0, c2_1, c2_2]) rfl ⟨rfl, by first | exact (((HBW.out).setCell (by show w.heap.size ≤ w.heap.size + 1 + 1; omega) _).setCell (by show w.heap.size ≤ w.heap.size + 1 + 1; omega) _).setCell (by show w.heap.size ≤ w.heap.size + 1 + 1; omega) _ | exact ((((HBW.out).setCell (by show w.heap.size ≤ w.heap.size + 1 + 1; omega) _).setCell (by show w.heap.size ≤ w.heap.size + 1 + 1; omega) _).setCell (by show w.heap.size ≤ w.heap.size + 1 + 1; omega) _).drew⟩

theorem told_times (a b : Int) (w : World) (ha : wl a.natAbs ≤ 274877906944) (hb : wl b.natAbs ≤ 274877906944) :
    Calls Tryd.prog 45 #[.func (.func 47) #[] #[], (Value.agg #[.int .u64 ((lo (Int.natAbs (a)) : Nat) : Int), .string (bg (Int.natAbs (a))), .bool (decide ((a) < 0))]), (Value.agg #[.int .u64 ((lo (Int.natAbs (b)) : Nat) : Int), .string (bg (Int.natAbs (b))), .bool (decide ((b) < 0))])] w fun e w' => e = .returned (Value.agg #[.int .u64 ((lo (Int.natAbs (a * b)) : Nat) : Int), .string (bg (Int.natAbs (a * b))), .bool (decide ((a * b) < 0))]) ∧ Below w.heap.size w w' := by
  obtain ⟨W0, HW⟩ : ∃ W0, Hid ((((w.alloc (.cells #[.int .u64 ((lo (Int.natAbs (a)) : Nat) : Int), .string (bg (Int.natAbs (a))), .bool (decide ((a) < 0))] 29)).alloc (.cells #[.int .u64 ((lo (Int.natAbs (b)) : Nat) : Int), .string (bg (Int.natAbs (b))), .bool (decide ((b) < 0))] 29)).alloc (.cells #[.int .u64 0, .string ⟨#[]⟩, .bool false] 29)) = W0) := ⟨_, Lib.hid rfl⟩
  have HS := Lib.hid (show w.heap.size + 3 = W0.heap.size by rw [← HW.out]; simp)
  have z0 : w.heap.size < W0.heap.size := by rw [← HS.out]; omega
  have z1 : w.heap.size + 1 < W0.heap.size := by rw [← HS.out]; omega
  have z2 : w.heap.size + 1 + 1 < W0.heap.size := by rw [← HS.out]; omega
  have c0_0 : W0.cell? ⟨w.heap.size, 0, none⟩ = some (.int .u64 ((lo (Int.natAbs (a)) : Nat) : Int)) := by rw [← HW.out]; simp [go_sem]
  have c0_1 : W0.cell? ⟨w.heap.size, 1, none⟩ = some (.string (bg (Int.natAbs (a)))) := by rw [← HW.out]; simp [go_sem]
  have c0_2 : W0.cell? ⟨w.heap.size, 2, none⟩ = some (.bool (decide ((a) < 0))) := by rw [← HW.out]; simp [go_sem]
  have c1_0 : W0.cell? ⟨w.heap.size + 1, 0, none⟩ = some (.int .u64 ((lo (Int.natAbs (b)) : Nat) : Int)) := by rw [← HW.out]; simp [go_sem]
  have c1_1 : W0.cell? ⟨w.heap.size + 1, 1, none⟩ = some (.string (bg (Int.natAbs (b)))) := by rw [← HW.out]; simp [go_sem]
  have c1_2 : W0.cell? ⟨w.heap.size + 1, 2, none⟩ = some (.bool (decide ((b) < 0))) := by rw [← HW.out]; simp [go_sem]
  have c2_0 : W0.cell? ⟨w.heap.size + 1 + 1, 0, none⟩ = some (.int .u64 0) := by rw [← HW.out]; simp [go_sem]
  have c2_1 : W0.cell? ⟨w.heap.size + 1 + 1, 1, none⟩ = some (.string ⟨#[]⟩) := by rw [← HW.out]; simp [go_sem]
  have c2_2 : W0.cell? ⟨w.heap.size + 1 + 1, 2, none⟩ = some (.bool false) := by rw [← HW.out]; simp [go_sem]
  have f_0 : W0.frozen? ⟨w.heap.size + 1 + 1, 0, none⟩ = false := by rw [← HW.out]; simp [go_sem]
  have f_1 : W0.frozen? ⟨w.heap.size + 1 + 1, 1, none⟩ = false := by rw [← HW.out]; simp [go_sem]
  have f_2 : W0.frozen? ⟨w.heap.size + 1 + 1, 2, none⟩ = false := by rw [← HW.out]; simp [go_sem]
  have hbw : Below w.heap.size w W0 := by rw [← HW.out]; exact (((Below.refl _ _).alloc (Nat.le_refl _) _).alloc (by simp) _).alloc (by simp; omega) _
  have HR : Hid (∀ w1 : World, Below W0.heap.size W0 w1 → w1.cell? ⟨w.heap.size, 0, none⟩ = some (.int .u64 ((lo (Int.natAbs (a)) : Nat) : Int)) ∧ w1.cell? ⟨w.heap.size, 1, none⟩ = some (.string (bg (Int.natAbs (a)))) ∧ w1.cell? ⟨w.heap.size, 2, none⟩ = some (.bool (decide ((a) < 0))) ∧ w1.cell? ⟨w.heap.size + 1, 0, none⟩ = some (.int .u64 ((lo (Int.natAbs (b)) : Nat) : Int)) ∧ w1.cell? ⟨w.heap.size + 1, 1, none⟩ = some (.string (bg (Int.natAbs (b)))) ∧ w1.cell? ⟨w.heap.size + 1, 2, none⟩ = some (.bool (decide ((b) < 0))) ∧ w1.cell? ⟨w.heap.size + 1 + 1, 0, none⟩ = some (.int .u64 0) ∧ w1.cell? ⟨w.heap.size + 1 + 1, 1, none⟩ = some (.string ⟨#[]⟩) ∧ w1.cell? ⟨w.heap.size + 1 + 1, 2, none⟩ = some (.bool false) ∧ w1.frozen? ⟨w.heap.size + 1 + 1, 0, none⟩ = false ∧ w1.frozen? ⟨w.heap.size + 1 + 1, 1, none⟩ = false ∧ w1.frozen? ⟨w.heap.size + 1 + 1, 2, none⟩ = false ∧ Below w.heap.size w w1) := fun w1 hb => ⟨(held W0 w1 hb _ _ z0).trans c0_0, (held W0 w1 hb _ _ z0).trans c0_1, (held W0 w1 hb _ _ z0).trans c0_2, (held W0 w1 hb _ _ z1).trans c1_0, (held W0 w1 hb _ _ z1).trans c1_1, (held W0 w1 hb _ _ z1).trans c1_2, (held W0 w1 hb _ _ z2).trans c2_0, (held W0 w1 hb _ _ z2).trans c2_1, (held W0 w1 hb _ _ z2).trans c2_2, (heldf W0 w1 hb _ _ z2).trans f_0, (heldf W0 w1 hb _ _ z2).trans f_1, (heldf W0 w1 hb _ _ z2).trans f_2, grow hbw hb⟩
  have HBW := Lib.hid hbw
  clear hbw
  obtain ⟨z, HZ⟩ : ∃ z, Hid (a * b = z) := ⟨_, Lib.hid rfl⟩
  rw [HZ.out]
  go_enter Tryd.func45, Tryd.ntmps45
  go_wp2_with fail
  rw [HW.out]
  refine (times_any a b W0 ha hb).mono ?_
  rintro e w1 ⟨rfl, hb1⟩
  rw [HZ.out]
  clear c0_0 c0_1 c0_2 c1_0 c1_1 c1_2 c2_0 c2_1 c2_2 f_0 f_1 f_2 HBW; obtain ⟨c0_0, c0_1, c0_2, c1_0, c1_1, c1_2, c2_0, c2_1, c2_2, f_0, f_1, f_2, hbw⟩ := HR.out w1 (hb1); have HBW := Lib.hid hbw; clear hbw
  clear hb1
  go_wp2
  exact bodyPost_ret (v := (Value.agg #[.int .u64 ((lo (Int.natAbs (z)) : Nat) : Int), .string (bg (Int.natAbs (z))), .bool (decide ((z) < 0))])) (by simp [results, Tryd.results45, go_sem, c2_0, c2_1, c2_2]) rfl ⟨rfl, by first | exact (((HBW.out).setCell (by show w.heap.size ≤ w.heap.size + 1 + 1; omega) _).setCell (by show w.heap.size ≤ w.heap.size + 1 + 1; omega) _).setCell (by show w.heap.size ≤ w.heap.size + 1 + 1; omega) _ | exact ((((HBW.out).setCell (by show w.heap.size ≤ w.heap.size + 1 + 1; omega) _).setCell (by show w.heap.size ≤ w.heap.size + 1 + 1; omega) _).setCell (by show w.heap.size ≤ w.heap.size + 1 + 1; omega) _).drew⟩

theorem iadd_any (a b : Int) (w : World) (ha : wl a.natAbs ≤ 274877906944) (hb : wl b.natAbs ≤ 274877906944) :
    Calls Tryd.prog 19 #[(Value.agg #[.int .u64 ((lo (Int.natAbs (a)) : Nat) : Int), .string (bg (Int.natAbs (a))), .bool (decide ((a) < 0))]), (Value.agg #[.int .u64 ((lo (Int.natAbs (b)) : Nat) : Int), .string (bg (Int.natAbs (b))), .bool (decide ((b) < 0))])] w fun e w' => e = .returned (Value.agg #[.int .u64 ((lo (Int.natAbs (a + b)) : Nat) : Int), .string (bg (Int.natAbs (a + b))), .bool (decide ((a + b) < 0))]) ∧ Below w.heap.size w w' := by
  obtain ⟨W0, HW⟩ : ∃ W0, Hid ((((w.alloc (.cells #[.int .u64 ((lo (Int.natAbs (a)) : Nat) : Int), .string (bg (Int.natAbs (a))), .bool (decide ((a) < 0))] 29)).alloc (.cells #[.int .u64 ((lo (Int.natAbs (b)) : Nat) : Int), .string (bg (Int.natAbs (b))), .bool (decide ((b) < 0))] 29)).alloc (.cells #[.int .u64 0, .string ⟨#[]⟩, .bool false] 29)) = W0) := ⟨_, Lib.hid rfl⟩
  have HS := Lib.hid (show w.heap.size + 3 = W0.heap.size by rw [← HW.out]; simp)
  have z0 : w.heap.size < W0.heap.size := by rw [← HS.out]; omega
  have z1 : w.heap.size + 1 < W0.heap.size := by rw [← HS.out]; omega
  have z2 : w.heap.size + 1 + 1 < W0.heap.size := by rw [← HS.out]; omega
  have c0_0 : W0.cell? ⟨w.heap.size, 0, none⟩ = some (.int .u64 ((lo (Int.natAbs (a)) : Nat) : Int)) := by rw [← HW.out]; simp [go_sem]
  have c0_1 : W0.cell? ⟨w.heap.size, 1, none⟩ = some (.string (bg (Int.natAbs (a)))) := by rw [← HW.out]; simp [go_sem]
  have c0_2 : W0.cell? ⟨w.heap.size, 2, none⟩ = some (.bool (decide ((a) < 0))) := by rw [← HW.out]; simp [go_sem]
  have c1_0 : W0.cell? ⟨w.heap.size + 1, 0, none⟩ = some (.int .u64 ((lo (Int.natAbs (b)) : Nat) : Int)) := by rw [← HW.out]; simp [go_sem]
  have c1_1 : W0.cell? ⟨w.heap.size + 1, 1, none⟩ = some (.string (bg (Int.natAbs (b)))) := by rw [← HW.out]; simp [go_sem]
  have c1_2 : W0.cell? ⟨w.heap.size + 1, 2, none⟩ = some (.bool (decide ((b) < 0))) := by rw [← HW.out]; simp [go_sem]
  have c2_0 : W0.cell? ⟨w.heap.size + 1 + 1, 0, none⟩ = some (.int .u64 0) := by rw [← HW.out]; simp [go_sem]
  have c2_1 : W0.cell? ⟨w.heap.size + 1 + 1, 1, none⟩ = some (.string ⟨#[]⟩) := by rw [← HW.out]; simp [go_sem]
  have c2_2 : W0.cell? ⟨w.heap.size + 1 + 1, 2, none⟩ = some (.bool false) := by rw [← HW.out]; simp [go_sem]
  have f_0 : W0.frozen? ⟨w.heap.size + 1 + 1, 0, none⟩ = false := by rw [← HW.out]; simp [go_sem]
  have f_1 : W0.frozen? ⟨w.heap.size + 1 + 1, 1, none⟩ = false := by rw [← HW.out]; simp [go_sem]
  have f_2 : W0.frozen? ⟨w.heap.size + 1 + 1, 2, none⟩ = false := by rw [← HW.out]; simp [go_sem]
  have hbw : Below w.heap.size w W0 := by rw [← HW.out]; exact (((Below.refl _ _).alloc (Nat.le_refl _) _).alloc (by simp) _).alloc (by simp; omega) _
  have HR : Hid (∀ w1 : World, Below W0.heap.size W0 w1 → w1.cell? ⟨w.heap.size, 0, none⟩ = some (.int .u64 ((lo (Int.natAbs (a)) : Nat) : Int)) ∧ w1.cell? ⟨w.heap.size, 1, none⟩ = some (.string (bg (Int.natAbs (a)))) ∧ w1.cell? ⟨w.heap.size, 2, none⟩ = some (.bool (decide ((a) < 0))) ∧ w1.cell? ⟨w.heap.size + 1, 0, none⟩ = some (.int .u64 ((lo (Int.natAbs (b)) : Nat) : Int)) ∧ w1.cell? ⟨w.heap.size + 1, 1, none⟩ = some (.string (bg (Int.natAbs (b)))) ∧ w1.cell? ⟨w.heap.size + 1, 2, none⟩ = some (.bool (decide ((b) < 0))) ∧ w1.cell? ⟨w.heap.size + 1 + 1, 0, none⟩ = some (.int .u64 0) ∧ w1.cell? ⟨w.heap.size + 1 + 1, 1, none⟩ = some (.string ⟨#[]⟩) ∧ w1.cell? ⟨w.heap.size + 1 + 1, 2, none⟩ = some (.bool false) ∧ w1.frozen? ⟨w.heap.size + 1 + 1, 0, none⟩ = false ∧ w1.frozen? ⟨w.heap.size + 1 + 1, 1, none⟩ = false ∧ w1.frozen? ⟨w.heap.size + 1 + 1, 2, none⟩ = false ∧ Below w.heap.size w w1) := fun w1 hb => ⟨(held W0 w1 hb _ _ z0).trans c0_0, (held W0 w1 hb _ _ z0).trans c0_1, (held W0 w1 hb _ _ z0).trans c0_2, (held W0 w1 hb _ _ z1).trans c1_0, (held W0 w1 hb _ _ z1).trans c1_1, (held W0 w1 hb _ _ z1).trans c1_2, (held W0 w1 hb _ _ z2).trans c2_0, (held W0 w1 hb _ _ z2).trans c2_1, (held W0 w1 hb _ _ z2).trans c2_2, (heldf W0 w1 hb _ _ z2).trans f_0, (heldf W0 w1 hb _ _ z2).trans f_1, (heldf W0 w1 hb _ _ z2).trans f_2, grow hbw hb⟩
  have HBW := Lib.hid hbw
  clear hbw
  obtain ⟨z, HZ⟩ : ∃ z, Hid (a + b = z) := ⟨_, Lib.hid rfl⟩
  rw [HZ.out]
  go_enter Tryd.func19, Tryd.ntmps19
  go_wp2_with fail
  rw [HW.out]
  refine (told_plus a b W0 ha hb).mono ?_
  rintro e w1 ⟨rfl, hb1⟩
  rw [HZ.out]
  clear c0_0 c0_1 c0_2 c1_0 c1_1 c1_2 c2_0 c2_1 c2_2 f_0 f_1 f_2 HBW; obtain ⟨c0_0, c0_1, c0_2, c1_0, c1_1, c1_2, c2_0, c2_1, c2_2, f_0, f_1, f_2, hbw⟩ := HR.out w1 (hb1); have HBW := Lib.hid hbw; clear hbw
  clear hb1
  go_wp2
  exact bodyPost_ret (v := (Value.agg #[.int .u64 ((lo (Int.natAbs (z)) : Nat) : Int), .string (bg (Int.natAbs (z))), .bool (decide ((z) < 0))])) (by simp [results, Tryd.results19, go_sem, c2_0, c2_1, c2_2]) rfl ⟨rfl, by first | exact (((HBW.out).setCell (by show w.heap.size ≤ w.heap.size + 1 + 1; omega) _).setCell (by show w.heap.size ≤ w.heap.size + 1 + 1; omega) _).setCell (by show w.heap.size ≤ w.heap.size + 1 + 1; omega) _ | exact ((((HBW.out).setCell (by show w.heap.size ≤ w.heap.size + 1 + 1; omega) _).setCell (by show w.heap.size ≤ w.heap.size + 1 + 1; omega) _).setCell (by show w.heap.size ≤ w.heap.size + 1 + 1; omega) _).drew⟩

theorem imul_any (a b : Int) (w : World) (ha : wl a.natAbs ≤ 274877906944) (hb : wl b.natAbs ≤ 274877906944) :
    Calls Tryd.prog 20 #[(Value.agg #[.int .u64 ((lo (Int.natAbs (a)) : Nat) : Int), .string (bg (Int.natAbs (a))), .bool (decide ((a) < 0))]), (Value.agg #[.int .u64 ((lo (Int.natAbs (b)) : Nat) : Int), .string (bg (Int.natAbs (b))), .bool (decide ((b) < 0))])] w fun e w' => e = .returned (Value.agg #[.int .u64 ((lo (Int.natAbs (a * b)) : Nat) : Int), .string (bg (Int.natAbs (a * b))), .bool (decide ((a * b) < 0))]) ∧ Below w.heap.size w w' := by
  obtain ⟨W0, HW⟩ : ∃ W0, Hid ((((w.alloc (.cells #[.int .u64 ((lo (Int.natAbs (a)) : Nat) : Int), .string (bg (Int.natAbs (a))), .bool (decide ((a) < 0))] 29)).alloc (.cells #[.int .u64 ((lo (Int.natAbs (b)) : Nat) : Int), .string (bg (Int.natAbs (b))), .bool (decide ((b) < 0))] 29)).alloc (.cells #[.int .u64 0, .string ⟨#[]⟩, .bool false] 29)) = W0) := ⟨_, Lib.hid rfl⟩
  have HS := Lib.hid (show w.heap.size + 3 = W0.heap.size by rw [← HW.out]; simp)
  have z0 : w.heap.size < W0.heap.size := by rw [← HS.out]; omega
  have z1 : w.heap.size + 1 < W0.heap.size := by rw [← HS.out]; omega
  have z2 : w.heap.size + 1 + 1 < W0.heap.size := by rw [← HS.out]; omega
  have c0_0 : W0.cell? ⟨w.heap.size, 0, none⟩ = some (.int .u64 ((lo (Int.natAbs (a)) : Nat) : Int)) := by rw [← HW.out]; simp [go_sem]
  have c0_1 : W0.cell? ⟨w.heap.size, 1, none⟩ = some (.string (bg (Int.natAbs (a)))) := by rw [← HW.out]; simp [go_sem]
  have c0_2 : W0.cell? ⟨w.heap.size, 2, none⟩ = some (.bool (decide ((a) < 0))) := by rw [← HW.out]; simp [go_sem]
  have c1_0 : W0.cell? ⟨w.heap.size + 1, 0, none⟩ = some (.int .u64 ((lo (Int.natAbs (b)) : Nat) : Int)) := by rw [← HW.out]; simp [go_sem]
  have c1_1 : W0.cell? ⟨w.heap.size + 1, 1, none⟩ = some (.string (bg (Int.natAbs (b)))) := by rw [← HW.out]; simp [go_sem]
  have c1_2 : W0.cell? ⟨w.heap.size + 1, 2, none⟩ = some (.bool (decide ((b) < 0))) := by rw [← HW.out]; simp [go_sem]
  have c2_0 : W0.cell? ⟨w.heap.size + 1 + 1, 0, none⟩ = some (.int .u64 0) := by rw [← HW.out]; simp [go_sem]
  have c2_1 : W0.cell? ⟨w.heap.size + 1 + 1, 1, none⟩ = some (.string ⟨#[]⟩) := by rw [← HW.out]; simp [go_sem]
  have c2_2 : W0.cell? ⟨w.heap.size + 1 + 1, 2, none⟩ = some (.bool false) := by rw [← HW.out]; simp [go_sem]
  have f_0 : W0.frozen? ⟨w.heap.size + 1 + 1, 0, none⟩ = false := by rw [← HW.out]; simp [go_sem]
  have f_1 : W0.frozen? ⟨w.heap.size + 1 + 1, 1, none⟩ = false := by rw [← HW.out]; simp [go_sem]
  have f_2 : W0.frozen? ⟨w.heap.size + 1 + 1, 2, none⟩ = false := by rw [← HW.out]; simp [go_sem]
  have hbw : Below w.heap.size w W0 := by rw [← HW.out]; exact (((Below.refl _ _).alloc (Nat.le_refl _) _).alloc (by simp) _).alloc (by simp; omega) _
  have HR : Hid (∀ w1 : World, Below W0.heap.size W0 w1 → w1.cell? ⟨w.heap.size, 0, none⟩ = some (.int .u64 ((lo (Int.natAbs (a)) : Nat) : Int)) ∧ w1.cell? ⟨w.heap.size, 1, none⟩ = some (.string (bg (Int.natAbs (a)))) ∧ w1.cell? ⟨w.heap.size, 2, none⟩ = some (.bool (decide ((a) < 0))) ∧ w1.cell? ⟨w.heap.size + 1, 0, none⟩ = some (.int .u64 ((lo (Int.natAbs (b)) : Nat) : Int)) ∧ w1.cell? ⟨w.heap.size + 1, 1, none⟩ = some (.string (bg (Int.natAbs (b)))) ∧ w1.cell? ⟨w.heap.size + 1, 2, none⟩ = some (.bool (decide ((b) < 0))) ∧ w1.cell? ⟨w.heap.size + 1 + 1, 0, none⟩ = some (.int .u64 0) ∧ w1.cell? ⟨w.heap.size + 1 + 1, 1, none⟩ = some (.string ⟨#[]⟩) ∧ w1.cell? ⟨w.heap.size + 1 + 1, 2, none⟩ = some (.bool false) ∧ w1.frozen? ⟨w.heap.size + 1 + 1, 0, none⟩ = false ∧ w1.frozen? ⟨w.heap.size + 1 + 1, 1, none⟩ = false ∧ w1.frozen? ⟨w.heap.size + 1 + 1, 2, none⟩ = false ∧ Below w.heap.size w w1) := fun w1 hb => ⟨(held W0 w1 hb _ _ z0).trans c0_0, (held W0 w1 hb _ _ z0).trans c0_1, (held W0 w1 hb _ _ z0).trans c0_2, (held W0 w1 hb _ _ z1).trans c1_0, (held W0 w1 hb _ _ z1).trans c1_1, (held W0 w1 hb _ _ z1).trans c1_2, (held W0 w1 hb _ _ z2).trans c2_0, (held W0 w1 hb _ _ z2).trans c2_1, (held W0 w1 hb _ _ z2).trans c2_2, (heldf W0 w1 hb _ _ z2).trans f_0, (heldf W0 w1 hb _ _ z2).trans f_1, (heldf W0 w1 hb _ _ z2).trans f_2, grow hbw hb⟩
  have HBW := Lib.hid hbw
  clear hbw
  obtain ⟨z, HZ⟩ : ∃ z, Hid (a * b = z) := ⟨_, Lib.hid rfl⟩
  rw [HZ.out]
  go_enter Tryd.func20, Tryd.ntmps20
  go_wp2_with fail
  rw [HW.out]
  refine (told_times a b W0 ha hb).mono ?_
  rintro e w1 ⟨rfl, hb1⟩
  rw [HZ.out]
  clear c0_0 c0_1 c0_2 c1_0 c1_1 c1_2 c2_0 c2_1 c2_2 f_0 f_1 f_2 HBW; obtain ⟨c0_0, c0_1, c0_2, c1_0, c1_1, c1_2, c2_0, c2_1, c2_2, f_0, f_1, f_2, hbw⟩ := HR.out w1 (hb1); have HBW := Lib.hid hbw; clear hbw
  clear hb1
  go_wp2
  exact bodyPost_ret (v := (Value.agg #[.int .u64 ((lo (Int.natAbs (z)) : Nat) : Int), .string (bg (Int.natAbs (z))), .bool (decide ((z) < 0))])) (by simp [results, Tryd.results20, go_sem, c2_0, c2_1, c2_2]) rfl ⟨rfl, by first | exact (((HBW.out).setCell (by show w.heap.size ≤ w.heap.size + 1 + 1; omega) _).setCell (by show w.heap.size ≤ w.heap.size + 1 + 1; omega) _).setCell (by show w.heap.size ≤ w.heap.size + 1 + 1; omega) _ | exact ((((HBW.out).setCell (by show w.heap.size ≤ w.heap.size + 1 + 1; omega) _).setCell (by show w.heap.size ≤ w.heap.size + 1 + 1; omega) _).setCell (by show w.heap.size ≤ w.heap.size + 1 + 1; omega) _).drew⟩

end Go.Proofs.YtflhpdlecpehkaaDoor
