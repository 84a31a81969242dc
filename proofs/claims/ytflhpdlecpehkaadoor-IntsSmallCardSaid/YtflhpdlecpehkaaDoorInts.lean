
/- ints: From, Of, Abs, Sign, Neg: what they return. -/
import Derived.Test.YtflhpdlecpehkaaDoorPB
import Derived.Deep.RegionHeld3
namespace Go.Proofs.YtflhpdlecpehkaaDoor
open Go.RowKit
attribute [local go_sem ↓] Go.wp_at_zero Go.wp_at_succ

theorem eq_size_zero (d m : Nat) (w : World) : (Op.equalIn (d + 3) 27 (Value.agg #[.int .u64 ((lo (m) : Nat) : Int), .string (bg (m))]) (Value.agg #[.int .u64 0, .string ⟨#[]⟩])).run Tryd.prog w = .ok (decide (m = 0)) w := by
  simp [go_sem, eq_nat_zero]
  by_cases h0 : m = 0 <;> simp [h0]

attribute [local go_sem ↓] eq_size_zero
/-- size.zero -/
theorem szero_any (n : Nat) (w : World) :
    Calls Tryd.prog 36 #[(Value.agg #[.int .u64 ((lo (n) : Nat) : Int), .string (bg (n))])] w fun e w' => e = .returned (.bool (decide (n = 0))) ∧ Below w.heap.size w w' := by
  go_enter Tryd.func36, Tryd.ntmps36
  go_wp2
  go_ret
  exact ⟨rfl, (Below.refl _ _).alloc (Nat.le_refl _) _⟩

theorem from_raw (s : Bool) (n : Nat) (w : World) :
    Calls Tryd.prog 25 #[.bool s, (Value.agg #[.int .u64 ((lo (n) : Nat) : Int), .string (bg (n))])] w fun e w' => e = .returned (.agg #[.int .u64 ((lo (n) : Nat) : Int), .string (bg (n)), .bool (s && !decide (n = 0))]) ∧ Below w.heap.size w w' := by
  obtain ⟨W0, HW⟩ : ∃ W0, Hid (((w.alloc (.cells #[.int .u64 ((lo n : Nat) : Int), .string (bg n)] 25)).alloc (.cells #[.int .u64 0, .string ⟨#[]⟩, .bool false] 29)).alloc (.cells #[.int .u64 ((lo n : Nat) : Int), .string (bg n)] 27) = W0) := ⟨_, Lib.hid rfl⟩
  have HS := Lib.hid (show w.heap.size + 3 = W0.heap.size by rw [← HW.out]; simp)
  have hza : w.heap.size + 1 < W0.heap.size := by rw [← HS.out]; omega
  have hzb : w.heap.size + 1 + 1 < W0.heap.size := by rw [← HS.out]; omega
  have hka : W0.cell? ⟨w.heap.size + 1 + 1, 0, none⟩ = some (.int .u64 ((lo n : Nat) : Int)) := by rw [← HW.out]; simp [go_sem]
  have hkb : W0.cell? ⟨w.heap.size + 1 + 1, 1, none⟩ = some (.string (bg n)) := by rw [← HW.out]; simp [go_sem]
  have hkc : W0.cell? ⟨w.heap.size + 1, 0, none⟩ = some (.int .u64 0) := by rw [← HW.out]; simp [go_sem]
  have hkd : W0.cell? ⟨w.heap.size + 1, 1, none⟩ = some (.string ⟨#[]⟩) := by rw [← HW.out]; simp [go_sem]
  have hke : W0.cell? ⟨w.heap.size + 1, 2, none⟩ = some (.bool false) := by rw [← HW.out]; simp [go_sem]
  have hkf : W0.frozen? ⟨w.heap.size + 1, 0, none⟩ = false := by rw [← HW.out]; simp [go_sem]
  have hkg : W0.frozen? ⟨w.heap.size + 1, 1, none⟩ = false := by rw [← HW.out]; simp [go_sem]
  have hkh : W0.frozen? ⟨w.heap.size + 1, 2, none⟩ = false := by rw [← HW.out]; simp [go_sem]
  have h0 := Lib.hid (show Below w.heap.size w W0 by rw [← HW.out]; exact (((Below.refl _ _).alloc (Nat.le_refl _) _).alloc (by simp) _).alloc (by simp; omega) _)
  have hlaw := held W0
  have hlf := heldf W0
  have hR : ∀ w1 : World, Below W0.heap.size W0 w1 → w1.cell? ⟨w.heap.size + 1 + 1, 0, none⟩ = some (.int .u64 ((lo n : Nat) : Int)) ∧ w1.cell? ⟨w.heap.size + 1 + 1, 1, none⟩ = some (.string (bg n)) ∧
      w1.cell? ⟨w.heap.size + 1, 0, none⟩ = some (.int .u64 0) ∧ w1.cell? ⟨w.heap.size + 1, 1, none⟩ = some (.string ⟨#[]⟩) ∧ w1.cell? ⟨w.heap.size + 1, 2, none⟩ = some (.bool false) ∧
      w1.frozen? ⟨w.heap.size + 1, 0, none⟩ = false ∧ w1.frozen? ⟨w.heap.size + 1, 1, none⟩ = false ∧ w1.frozen? ⟨w.heap.size + 1, 2, none⟩ = false ∧ Below w.heap.size w w1 := fun w1 hb =>
    ⟨(hlaw w1 hb _ _ hzb).trans hka, (hlaw w1 hb _ _ hzb).trans hkb, (hlaw w1 hb _ _ hza).trans hkc, (hlaw w1 hb _ _ hza).trans hkd, (hlaw w1 hb _ _ hza).trans hke,
      (hlf w1 hb _ _ hza).trans hkf, (hlf w1 hb _ _ hza).trans hkg, (hlf w1 hb _ _ hza).trans hkh, grow h0.out hb⟩
  have HR := Lib.hid hR
  clear hlaw hlf hR
  cases s
  · go_enter Tryd.func25, Tryd.ntmps25
    go_wp2_with fail
    rw [HW.out]
    go_region
    go_wp2
    exact bodyPost_ret (v := .agg #[.int .u64 ((lo (n) : Nat) : Int), .string (bg (n)), .bool false]) (by simp [results, Tryd.results25, go_sem, hkc, hkd, hke]) rfl
      ⟨by rw [Bool.false_and], (((h0.out.setCell (by show w.heap.size ≤ w.heap.size + 1; omega) _).setCell (by show w.heap.size ≤ w.heap.size + 1; omega) _).setCell (by show w.heap.size ≤ w.heap.size + 1; omega) _).drew⟩
  · go_enter Tryd.func25, Tryd.ntmps25
    go_wp2_with fail
    rw [HW.out]
    go_region_with (first | (go_at_call_of 36 (Value.agg #[.int .u64 ((lo (n) : Nat) : Int), .string (bg (n))]); refine (szero_any n _).mono ?_; rintro e w1 ⟨rfl, hb1⟩; obtain ⟨q1, q2, q3, q4, q5, q6, q7, q8, q9⟩ := HR.out w1 (((Below.refl _ _).drew).trans hb1); have Q9 := Lib.hid q9; clear hb1 q9))
    all_goals
      go_wp2
      exact bodyPost_ret (v := .agg #[.int .u64 ((lo (n) : Nat) : Int), .string (bg (n)), .bool (!decide (n = 0))]) (by simp [results, Tryd.results25, go_sem, q3, q4, q5]) rfl
        ⟨by rw [Bool.true_and], ((Q9.out.setCell (by show w.heap.size ≤ w.heap.size + 1; omega) _).setCell (by show w.heap.size ≤ w.heap.size + 1; omega) _).setCell (by show w.heap.size ≤ w.heap.size + 1; omega) _⟩

theorem int_fields (s : Bool) (n : Nat) : (Value.agg #[.int .u64 ((lo (n) : Nat) : Int), .string (bg (n)), .bool (s && !decide (n = 0))]) = (Value.agg #[.int .u64 ((lo (Int.natAbs ((if s then -(n : Int) else (n : Int)))) : Nat) : Int), .string (bg (Int.natAbs ((if s then -(n : Int) else (n : Int))))), .bool (decide (((if s then -(n : Int) else (n : Int))) < 0))]) := by
  cases s
  · have h : ¬ ((n : Int) < 0) := by omega
    simp [h]
  · by_cases h : n = 0
    · simp [h]
    · have h1 : 0 < n := by omega
      simp [h, h1]
theorem from_any (s : Bool) (n : Nat) (z : Int) (w : World) (hz : (if s then -(n : Int) else (n : Int)) = z) :
    Calls Tryd.prog 25 #[.bool s, (Value.agg #[.int .u64 ((lo (n) : Nat) : Int), .string (bg (n))])] w fun e w' => e = .returned (Value.agg #[.int .u64 ((lo (Int.natAbs (z)) : Nat) : Int), .string (bg (Int.natAbs (z))), .bool (decide ((z) < 0))]) ∧ Below w.heap.size w w' := by
  subst hz
  rw [← int_fields]
  exact from_raw s n w
end Go.Proofs.YtflhpdlecpehkaaDoor
