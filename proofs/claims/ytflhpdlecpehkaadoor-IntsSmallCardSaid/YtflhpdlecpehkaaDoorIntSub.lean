
/- ints: Sub, Cmp, Of: what they return. -/
import Derived.Test.YtflhpdlecpehkaaDoorIntTold
namespace Go.Proofs.YtflhpdlecpehkaaDoor
open Go.RowKit

set_option maxHeartbeats 1000000 in
theorem isub_any (a b : Int) (w : World) (ha : wl a.natAbs ≤ 274877906944) (hb : wl b.natAbs ≤ 274877906944) :
    Calls Tryd.prog 21 #[(Value.agg #[.int .u64 ((lo (Int.natAbs (a)) : Nat) : Int), .string (bg (Int.natAbs (a))), .bool (decide ((a) < 0))]), (Value.agg #[.int .u64 ((lo (Int.natAbs (b)) : Nat) : Int), .string (bg (Int.natAbs (b))), .bool (decide ((b) < 0))])] w fun e w' => e = .returned (Value.agg #[.int .u64 ((lo (Int.natAbs (a - b)) : Nat) : Int), .string (bg (Int.natAbs (a - b))), .bool (decide ((a - b) < 0))]) ∧ Below w.heap.size w w' := by
  obtain ⟨W0, HW⟩ : ∃ W0, Hid ((((w.alloc (.cells #[.int .u64 ((lo (Int.natAbs (a)) : Nat) : Int), .string (bg (Int.natAbs (a))), .bool (decide ((a) < 0))] 29)).alloc (.cells #[.int .u64 ((lo (Int.natAbs (b)) : Nat) : Int), .string (bg (Int.natAbs (b))), .bool (decide ((b) < 0))] 29)).alloc (.cells #[.int .u64 0, .string ⟨#[]⟩, .bool false] 29)) = W0) := ⟨_, Lib.hid rfl⟩
  have HS := Lib.hid (show w.heap.size + 3 = W0.heap.size by rw [← HW.out]; simp)
  have z0 : w.heap.size < W0.heap.size := by rw [← HS.out]; omega
  have z1 : w.heap.size + 1 < W0.heap.size := by rw [← HS.out]; omega
  have z2 : w.heap.size + 1 + 1 < W0.heap.size := by rw [← HS.out]; omega
  have c0_0 : W0.cell? ⟨w.heap.size, 0, none⟩ = some (.int .u64 ((lo (Int.natAbs (a)) : Nat) : Int)) := by rw [← HW.out]; simp [go_sem]
  have c0_1 : W0.cell? ⟨w.heap.size, 1, none⟩ = some (.string (bg (Int.natAbs (a)))) := by rw [← HW.out]; simp [go_sem]
  have c0_2 : W0.cell? ⟨w.heap.size, 2, none⟩ = some (.bool (decide ((a) < 0))) := by rw [← HW.out]; simp [go_sem]
  have c1_0 : W0.cell? ⟨w.heap.size + 1, 0, none⟩ = some (.int .u64 ((lo (Int.natAbs (b)) : Nat) : Int)) := by rw [← HW.out]; simp [go_sem]
  have c1_1 : W0.cell? ⟨w.heap.size + 1, 1, none⟩ = some (.string (bg (Int.natAbs (b)))) := by rw [← HW.out]; simp [go_sem]
  have c1_2 : W0.cell? ⟨w.heap.size + 1, 2, none⟩ = some (.bool (decide ((b) < 0))) := by rw [← HW.out]; simp [go_sem]
  have c2_0 : W0.cell? ⟨w.heap.size + 1 + 1, 0, none⟩ = some (.int .u64 0) := by rw [← HW.out]; simp [go_sem]
  have c2_1 : W0.cell? ⟨w.heap.size + 1 + 1, 1, none⟩ = some (.string ⟨#[]⟩) := by rw [← HW.out]; simp [go_sem]
  have c2_2 : W0.cell? ⟨w.heap.size + 1 + 1, 2, none⟩ = some (.bool false) := by rw [← HW.out]; simp [go_sem]
  have f_0 : W0.frozen? ⟨w.heap.size + 1 + 1, 0, none⟩ = false := by rw [← HW.out]; simp [go_sem]
  have f_1 : W0.frozen? ⟨w.heap.size + 1 + 1, 1, none⟩ = false := by rw [← HW.out]; simp [go_sem]
  have f_2 : W0.frozen? ⟨w.heap.size + 1 + 1, 2, none⟩ = false := by rw [← HW.out]; simp [go_sem]
  have hbw : Below w.heap.size w W0 := by rw [← HW.out]; exact (((Below.refl _ _).alloc (Nat.le_refl _) _).alloc (by simp) _).alloc (by simp; omega) _
  have HR : Hid (∀ w1 : World, Below W0.heap.size W0 w1 → w1.cell? ⟨w.heap.size, 0, none⟩ = some (.int .u64 ((lo (Int.natAbs (a)) : Nat) : Int)) ∧ w1.cell? ⟨w.heap.size, 1, none⟩ = some (.string (bg (Int.natAbs (a)))) ∧ w1.cell? ⟨w.heap.size, 2, none⟩ = some (.bool (decide ((a) < 0))) ∧ w1.cell? ⟨w.heap.size + 1, 0, none⟩ = some (.int .u64 ((lo (Int.natAbs (b)) : Nat) : Int)) ∧ w1.cell? ⟨w.heap.size + 1, 1, none⟩ = some (.string (bg (Int.natAbs (b)))) ∧ w1.cell? ⟨w.heap.size + 1, 2, none⟩ = some (.bool (decide ((b) < 0))) ∧ w1.cell? ⟨w.heap.size + 1 + 1, 0, none⟩ = some (.int .u64 0) ∧ w1.cell? ⟨w.heap.size + 1 + 1, 1, none⟩ = some (.string ⟨#[]⟩) ∧ w1.cell? ⟨w.heap.size + 1 + 1, 2, none⟩ = some (.bool false) ∧ w1.frozen? ⟨w.heap.size + 1 + 1, 0, none⟩ = false ∧ w1.frozen? ⟨w.heap.size + 1 + 1, 1, none⟩ = false ∧ w1.frozen? ⟨w.heap.size + 1 + 1, 2, none⟩ = false ∧ Below w.heap.size w w1) := fun w1 hb => ⟨(held W0 w1 hb _ _ z0).trans c0_0, (held W0 w1 hb _ _ z0).trans c0_1, (held W0 w1 hb _ _ z0).trans c0_2, (held W0 w1 hb _ _ z1).trans c1_0, (held W0 w1 hb _ _ z1).trans c1_1, (held W0 w1 hb _ _ z1).trans c1_2, (held W0 w1 hb _ _ z2).trans c2_0, (held W0 w1 hb _ _ z2).trans c2_1, (held W0 w1 hb _ _ z2).trans c2_2, (heldf W0 w1 hb _ _ z2).trans f_0, (heldf W0 w1 hb _ _ z2).trans f_1, (heldf W0 w1 hb _ _ z2).trans f_2, grow hbw hb⟩
  have HBW := Lib.hid hbw
  clear hbw
  obtain ⟨z, HZ⟩ : ∃ z, Hid (a + -b = z) := ⟨_, Lib.hid rfl⟩
  rw [show a - b = z from by rw [← HZ.out]; omega]
  have HNB : Hid (wl (-b).natAbs ≤ 274877906944) := by
    show wl (-b).natAbs ≤ 274877906944
    rw [Int.natAbs_neg]; exact hb
  obtain ⟨c, HC1⟩ : ∃ c, Hid (-b = c) := ⟨_, Lib.hid rfl⟩
  rw [HC1.out] at HZ HNB
  go_enter Tryd.func21, Tryd.ntmps21
  go_wp2_with fail
  rw [HW.out]
  have hlaw := heldat (w.heap.size + 1 + 1) W0
  have y0 : w.heap.size < w.heap.size + 1 + 1 := by omega
  have y1 : w.heap.size + 1 < w.heap.size + 1 + 1 := by omega
  have HC : Hid (w.heap.size + 1 + 1 ≤ W0.heap.size) := Nat.le_of_lt z2
  go_region_held3 (fun w' => Below (w.heap.size + 1 + 1) W0 w')
    (first | exact (Below.refl _ _).drew | assumption | exact (((by assumption : Below (w.heap.size + 1 + 1) W0 _).setCell (Nat.le_refl _) _).setCell (Nat.le_refl _) _).setCell (Nat.le_refl _) _)
    (first
    | (go_at_call 22; refine (neg_any b _).mono ?_; rintro e w1 ⟨rfl, hb1⟩; rw [HC1.out]; have hB1 : Hid (Below W0.heap.size W0 w1) := ((Below.refl _ _).drew).trans hb1; have hC1 := hB1.out.mono HC.out; clear hb1)
    | (go_at_call 45; refine (told_plus a c _ ha HNB.out).mono ?_; rintro e w2 ⟨rfl, hb2⟩; rw [HZ.out]; have hB2 : Hid (Below W0.heap.size W0 w2) := grow hB1.out hb2; have hC2 := hB2.out.mono HC.out; clear hb2; clear c0_0 c0_1 c0_2 c1_0 c1_1 c1_2 c2_0 c2_1 c2_2 f_0 f_1 f_2 HBW; obtain ⟨c0_0, c0_1, c0_2, c1_0, c1_1, c1_2, c2_0, c2_1, c2_2, f_0, f_1, f_2, hbw⟩ := HR.out w2 (hB2.out); have HBW := Lib.hid hbw; clear hbw))
  all_goals
    go_wp2
    exact bodyPost_ret (v := (Value.agg #[.int .u64 ((lo (Int.natAbs (z)) : Nat) : Int), .string (bg (Int.natAbs (z))), .bool (decide ((z) < 0))])) (by simp [results, Tryd.results21, go_sem, c2_0, c2_1, c2_2]) rfl ⟨rfl, by first | exact (((HBW.out).setCell (by show w.heap.size ≤ w.heap.size + 1 + 1; omega) _).setCell (by show w.heap.size ≤ w.heap.size + 1 + 1; omega) _).setCell (by show w.heap.size ≤ w.heap.size + 1 + 1; omega) _ | exact ((((HBW.out).setCell (by show w.heap.size ≤ w.heap.size + 1 + 1; omega) _).setCell (by show w.heap.size ≤ w.heap.size + 1 + 1; omega) _).setCell (by show w.heap.size ≤ w.heap.size + 1 + 1; omega) _).drew⟩

theorem icmp_any (a b : Int) (w : World) (ha : wl a.natAbs ≤ 274877906944) (hb : wl b.natAbs ≤ 274877906944) :
    Calls Tryd.prog 24 #[(Value.agg #[.int .u64 ((lo (Int.natAbs (a)) : Nat) : Int), .string (bg (Int.natAbs (a))), .bool (decide ((a) < 0))]), (Value.agg #[.int .u64 ((lo (Int.natAbs (b)) : Nat) : Int), .string (bg (Int.natAbs (b))), .bool (decide ((b) < 0))])] w fun e w' => e = .returned (.int .i64 (sgI (a - b))) ∧ Below w.heap.size w w' := by
  obtain ⟨W0, HW⟩ : ∃ W0, Hid (((w.alloc (.cells #[.int .u64 ((lo (Int.natAbs (a)) : Nat) : Int), .string (bg (Int.natAbs (a))), .bool (decide ((a) < 0))] 29)).alloc (.cells #[.int .u64 ((lo (Int.natAbs (b)) : Nat) : Int), .string (bg (Int.natAbs (b))), .bool (decide ((b) < 0))] 29)) = W0) := ⟨_, Lib.hid rfl⟩
  have HS := Lib.hid (show w.heap.size + 2 = W0.heap.size by rw [← HW.out]; simp)
  have z0 : w.heap.size < W0.heap.size := by rw [← HS.out]; omega
  have z1 : w.heap.size + 1 < W0.heap.size := by rw [← HS.out]; omega
  have c0_0 : W0.cell? ⟨w.heap.size, 0, none⟩ = some (.int .u64 ((lo (Int.natAbs (a)) : Nat) : Int)) := by rw [← HW.out]; simp [go_sem]
  have c0_1 : W0.cell? ⟨w.heap.size, 1, none⟩ = some (.string (bg (Int.natAbs (a)))) := by rw [← HW.out]; simp [go_sem]
  have c0_2 : W0.cell? ⟨w.heap.size, 2, none⟩ = some (.bool (decide ((a) < 0))) := by rw [← HW.out]; simp [go_sem]
  have c1_0 : W0.cell? ⟨w.heap.size + 1, 0, none⟩ = some (.int .u64 ((lo (Int.natAbs (b)) : Nat) : Int)) := by rw [← HW.out]; simp [go_sem]
  have c1_1 : W0.cell? ⟨w.heap.size + 1, 1, none⟩ = some (.string (bg (Int.natAbs (b)))) := by rw [← HW.out]; simp [go_sem]
  have c1_2 : W0.cell? ⟨w.heap.size + 1, 2, none⟩ = some (.bool (decide ((b) < 0))) := by rw [← HW.out]; simp [go_sem]
  have f_0 : W0.frozen? ⟨w.heap.size + 1, 0, none⟩ = false := by rw [← HW.out]; simp [go_sem]
  have f_1 : W0.frozen? ⟨w.heap.size + 1, 1, none⟩ = false := by rw [← HW.out]; simp [go_sem]
  have f_2 : W0.frozen? ⟨w.heap.size + 1, 2, none⟩ = false := by rw [← HW.out]; simp [go_sem]
  have hbw : Below w.heap.size w W0 := by rw [← HW.out]; exact ((Below.refl _ _).alloc (Nat.le_refl _) _).alloc (by simp) _
  have HR : Hid (∀ w1 : World, Below W0.heap.size W0 w1 → w1.cell? ⟨w.heap.size, 0, none⟩ = some (.int .u64 ((lo (Int.natAbs (a)) : Nat) : Int)) ∧ w1.cell? ⟨w.heap.size, 1, none⟩ = some (.string (bg (Int.natAbs (a)))) ∧ w1.cell? ⟨w.heap.size, 2, none⟩ = some (.bool (decide ((a) < 0))) ∧ w1.cell? ⟨w.heap.size + 1, 0, none⟩ = some (.int .u64 ((lo (Int.natAbs (b)) : Nat) : Int)) ∧ w1.cell? ⟨w.heap.size + 1, 1, none⟩ = some (.string (bg (Int.natAbs (b)))) ∧ w1.cell? ⟨w.heap.size + 1, 2, none⟩ = some (.bool (decide ((b) < 0))) ∧ w1.frozen? ⟨w.heap.size + 1, 0, none⟩ = false ∧ w1.frozen? ⟨w.heap.size + 1, 1, none⟩ = false ∧ w1.frozen? ⟨w.heap.size + 1, 2, none⟩ = false ∧ Below w.heap.size w w1) := fun w1 hb => ⟨(held W0 w1 hb _ _ z0).trans c0_0, (held W0 w1 hb _ _ z0).trans c0_1, (held W0 w1 hb _ _ z0).trans c0_2, (held W0 w1 hb _ _ z1).trans c1_0, (held W0 w1 hb _ _ z1).trans c1_1, (held W0 w1 hb _ _ z1).trans c1_2, (heldf W0 w1 hb _ _ z1).trans f_0, (heldf W0 w1 hb _ _ z1).trans f_1, (heldf W0 w1 hb _ _ z1).trans f_2, grow hbw hb⟩
  have HBW := Lib.hid hbw
  clear hbw
  obtain ⟨z, HZ⟩ : ∃ z, Hid (a - b = z) := ⟨_, Lib.hid rfl⟩
  rw [HZ.out]
  go_enter Tryd.func24, Tryd.ntmps24
  go_wp2_with fail
  rw [HW.out]
  refine (isub_any a b W0 ha hb).mono ?_
  rintro e w1 ⟨rfl, hb1⟩
  rw [HZ.out]
  have HB1 := Lib.hid hb1
  clear hb1
  go_wp2_with fail
  refine (sign_int z w1).mono ?_
  rintro e w2 ⟨rfl, hb2⟩
  have hB2 := grow HB1.out hb2
  clear hb2
  clear c0_0 c0_1 c0_2 c1_0 c1_1 c1_2 f_0 f_1 f_2 HBW; obtain ⟨c0_0, c0_1, c0_2, c1_0, c1_1, c1_2, f_0, f_1, f_2, hbw⟩ := HR.out w2 (hB2); have HBW := Lib.hid hbw; clear hbw
  clear hB2
  go_wp2
  go_ret
  exact ⟨rfl, HBW.out⟩
end Go.Proofs.YtflhpdlecpehkaaDoor
