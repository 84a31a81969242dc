/- PointsRound: the law's walk. -/
import Derived.Test.YtenpbnmmadbkdaaRound0
import Derived.Test.YtenpbnmmadbkdaaOf3
namespace Go.Proofs.Ytenpbnmmadbkdaa
open Go.RowKit
set_option linter.unusedSimpArgs false
set_option linter.unusedVariables false
attribute [local go_sem ↓] Go.wp_at_zero Go.wp_at_succ
attribute [local go_sem ↓] eq_nat eq_nat_zero eq_int eq_frac eq_pt
set_option maxHeartbeats 8000000 in
theorem round_flat (n0x d0x n0y d0y n1x d1x n1y d1y n2x d2x n2y d2y n3x d3x n3y d3y : Int) (w : World) (h1_0x : -9223372036854775808 ≤ n0x) (h2_0x : n0x ≤ 9223372036854775807) (h3_0x : 0 ≤ d0x) (h4_0x : d0x ≤ 4294967295) (h1_0y : -9223372036854775808 ≤ n0y) (h2_0y : n0y ≤ 9223372036854775807) (h3_0y : 0 ≤ d0y) (h4_0y : d0y ≤ 4294967295) (h1_1x : -9223372036854775808 ≤ n1x) (h2_1x : n1x ≤ 9223372036854775807) (h3_1x : 0 ≤ d1x) (h4_1x : d1x ≤ 4294967295) (h1_1y : -9223372036854775808 ≤ n1y) (h2_1y : n1y ≤ 9223372036854775807) (h3_1y : 0 ≤ d1y) (h4_1y : d1y ≤ 4294967295) (h1_2x : -9223372036854775808 ≤ n2x) (h2_2x : n2x ≤ 9223372036854775807) (h3_2x : 0 ≤ d2x) (h4_2x : d2x ≤ 4294967295) (h1_2y : -9223372036854775808 ≤ n2y) (h2_2y : n2y ≤ 9223372036854775807) (h3_2y : 0 ≤ d2y) (h4_2y : d2y ≤ 4294967295) (h1_3x : -9223372036854775808 ≤ n3x) (h2_3x : n3x ≤ 9223372036854775807) (h3_3x : 0 ≤ d3x) (h4_3x : d3x ≤ 4294967295) (h1_3y : -9223372036854775808 ≤ n3y) (h2_3y : n3y ≤ 9223372036854775807) (h3_3y : 0 ≤ d3y) (h4_3y : d3y ≤ 4294967295) (htq : Hid (tt (qv n0x d0x) (qv n0y d0y) (qv n1x d1x) (qv n1y d1y) (qv n2x d2x) = 0)) :
    Calls Try.prog 4 #[(Value.agg #[.int .i64 (n0x), .int .u32 (d0x), .int .i64 (n0y), .int .u32 (d0y), .int .i64 (n1x), .int .u32 (d1x), .int .i64 (n1y), .int .u32 (d1y), .int .i64 (n2x), .int .u32 (d2x), .int .i64 (n2y), .int .u32 (d2y), .int .i64 (n3x), .int .u32 (d3x), .int .i64 (n3y), .int .u32 (d3y)])] w fun e w' => e = .returned (.bool true) ∧ Below w.heap.size w w' := by
  go_enter Try.func4, Try.ntmps4
  -- region 0
  refine wp_seq_k fun K hK => ?_
  replace hK := Lib.hid hK
  refine wp_region_lit ?_
  go_wp2
  refine hK.out _ _ ?_; clear hK K
  show Code.wp _ _ _ _ _
  refine forgetW (fun w2 => Bx w2 (w.heap.size) 47 #[.int .i64 (n0x), .int .u32 (d0x), .int .i64 (n0y), .int .u32 (d0y), .int .i64 (n1x), .int .u32 (d1x), .int .i64 (n1y), .int .u32 (d1y), .int .i64 (n2x), .int .u32 (d2x), .int .i64 (n2y), .int .u32 (d2y), .int .i64 (n3x), .int .u32 (d3x), .int .i64 (n3y), .int .u32 (d3y)] ∧ Below w.heap.size w w2) ⟨Bx.at rfl, (Below.refl _ _).alloc (Nat.le_refl _) _⟩ ?_
  rintro Wx ⟨bx0, HB⟩
  replace HB := Lib.hid HB
  -- region 1
  obtain ⟨u1, HZ1⟩ : ∃ z, Hid (qv (n0x) (d0x) = z) := ⟨_, Lib.hid rfl⟩
  have su1 : sz u1 ≤ 4 := by rw [← HZ1.out]; exact sz_qv (n0x) (d0x) (by first | omega | exact Nat.le_trans (wl_small (by decide)) (by decide)) (by first | omega | exact Nat.le_trans (wl_small (by decide)) (by decide)) (by first | omega | exact Nat.le_trans (wl_small (by decide)) (by decide)) (by first | omega | exact Nat.le_trans (wl_small (by decide)) (by decide))
  obtain ⟨u2, HZ2⟩ : ∃ z, Hid (qv (n0y) (d0y) = z) := ⟨_, Lib.hid rfl⟩
  have su2 : sz u2 ≤ 4 := by rw [← HZ2.out]; exact sz_qv (n0y) (d0y) (by first | omega | exact Nat.le_trans (wl_small (by decide)) (by decide)) (by first | omega | exact Nat.le_trans (wl_small (by decide)) (by decide)) (by first | omega | exact Nat.le_trans (wl_small (by decide)) (by decide)) (by first | omega | exact Nat.le_trans (wl_small (by decide)) (by decide))
  obtain ⟨u3, HZ3⟩ : ∃ z, Hid (qv (n1x) (d1x) = z) := ⟨_, Lib.hid rfl⟩
  have su3 : sz u3 ≤ 4 := by rw [← HZ3.out]; exact sz_qv (n1x) (d1x) (by first | omega | exact Nat.le_trans (wl_small (by decide)) (by decide)) (by first | omega | exact Nat.le_trans (wl_small (by decide)) (by decide)) (by first | omega | exact Nat.le_trans (wl_small (by decide)) (by decide)) (by first | omega | exact Nat.le_trans (wl_small (by decide)) (by decide))
  obtain ⟨u4, HZ4⟩ : ∃ z, Hid (qv (n1y) (d1y) = z) := ⟨_, Lib.hid rfl⟩
  have su4 : sz u4 ≤ 4 := by rw [← HZ4.out]; exact sz_qv (n1y) (d1y) (by first | omega | exact Nat.le_trans (wl_small (by decide)) (by decide)) (by first | omega | exact Nat.le_trans (wl_small (by decide)) (by decide)) (by first | omega | exact Nat.le_trans (wl_small (by decide)) (by decide)) (by first | omega | exact Nat.le_trans (wl_small (by decide)) (by decide))
  obtain ⟨u5, HZ5⟩ : ∃ z, Hid (qv (n2x) (d2x) = z) := ⟨_, Lib.hid rfl⟩
  have su5 : sz u5 ≤ 4 := by rw [← HZ5.out]; exact sz_qv (n2x) (d2x) (by first | omega | exact Nat.le_trans (wl_small (by decide)) (by decide)) (by first | omega | exact Nat.le_trans (wl_small (by decide)) (by decide)) (by first | omega | exact Nat.le_trans (wl_small (by decide)) (by decide)) (by first | omega | exact Nat.le_trans (wl_small (by decide)) (by decide))
  obtain ⟨u6, HZ6⟩ : ∃ z, Hid (qv (n2y) (d2y) = z) := ⟨_, Lib.hid rfl⟩
  have su6 : sz u6 ≤ 4 := by rw [← HZ6.out]; exact sz_qv (n2y) (d2y) (by first | omega | exact Nat.le_trans (wl_small (by decide)) (by decide)) (by first | omega | exact Nat.le_trans (wl_small (by decide)) (by decide)) (by first | omega | exact Nat.le_trans (wl_small (by decide)) (by decide)) (by first | omega | exact Nat.le_trans (wl_small (by decide)) (by decide))
  obtain ⟨u7, HZ7⟩ : ∃ z, Hid (qv (n3x) (d3x) = z) := ⟨_, Lib.hid rfl⟩
  have su7 : sz u7 ≤ 4 := by rw [← HZ7.out]; exact sz_qv (n3x) (d3x) (by first | omega | exact Nat.le_trans (wl_small (by decide)) (by decide)) (by first | omega | exact Nat.le_trans (wl_small (by decide)) (by decide)) (by first | omega | exact Nat.le_trans (wl_small (by decide)) (by decide)) (by first | omega | exact Nat.le_trans (wl_small (by decide)) (by decide))
  obtain ⟨u8, HZ8⟩ : ∃ z, Hid (qv (n3y) (d3y) = z) := ⟨_, Lib.hid rfl⟩
  have su8 : sz u8 ≤ 4 := by rw [← HZ8.out]; exact sz_qv (n3y) (d3y) (by first | omega | exact Nat.le_trans (wl_small (by decide)) (by decide)) (by first | omega | exact Nat.le_trans (wl_small (by decide)) (by decide)) (by first | omega | exact Nat.le_trans (wl_small (by decide)) (by decide)) (by first | omega | exact Nat.le_trans (wl_small (by decide)) (by decide))
  have lx0 := bx0.cells
  have BX0 := Lib.hid bx0
  clear bx0
  refine wp_seq_k fun K hK => ?_
  replace hK := Lib.hid hK
  refine wp_region_plan 16 [12, 13, 14, 15] [] (fun i => if i = 12 then 3 else if i = 13 then 4 else if i = 14 then 5 else 6) (fun i => if i = 12 then .cells #[.int .u64 0, .string ⟨#[]⟩, .bool false, .int .u64 0, .string ⟨#[]⟩, .int .u64 0, .string ⟨#[]⟩, .bool false, .int .u64 0, .string ⟨#[]⟩] 38 else if i = 13 then .cells #[.int .u64 0, .string ⟨#[]⟩, .bool false, .int .u64 0, .string ⟨#[]⟩, .int .u64 0, .string ⟨#[]⟩, .bool false, .int .u64 0, .string ⟨#[]⟩] 38 else if i = 14 then .cells #[.int .u64 0, .string ⟨#[]⟩, .bool false, .int .u64 0, .string ⟨#[]⟩, .int .u64 0, .string ⟨#[]⟩, .bool false, .int .u64 0, .string ⟨#[]⟩] 38 else .cells #[.int .u64 0, .string ⟨#[]⟩, .bool false, .int .u64 0, .string ⟨#[]⟩, .int .u64 0, .string ⟨#[]⟩, .bool false, .int .u64 0, .string ⟨#[]⟩] 38) [(true, 0), (true, 1), (true, 3), (true, 4), (true, 6), (true, 7), (true, 9), (true, 10), (true, 2), (true, 5), (true, 8), (true, 11)] (by kernel_rfl) (by kernel_rfl) (by intro i hi; simp only [List.mem_cons, List.not_mem_nil, or_false] at hi; rcases hi with rfl | rfl | rfl | rfl <;> exact ⟨_, rfl, rfl, rfl, by simp, fun ρ w => by kernel_rfl⟩) (fun i hi => by cases hi) (fun _ _ _ _ _ h => h) (fun T hT => ?_)
  iterate 8
    refine wpPlan_takeL (v := ?_) rfl (by rfl) (fun w' hw => ?_) ?_
    rotate_left
    · go_simp
      with_reducible rfl
    simp only [Act.put, List.setIfInBounds_toArray, List.set_cons_zero, List.set_cons_succ]
  refine wpPlan_callL rfl (by rfl) Try.call7 (fun w' hw => pof_any (n0x) (d0x) (n0y) (d0y) (u1) (u2) _ HZ1.out HZ2.out (by first | omega | exact Nat.le_trans (wl_small (by decide)) (by decide)) (by first | omega | exact Nat.le_trans (wl_small (by decide)) (by decide)) (by first | omega | exact Nat.le_trans (wl_small (by decide)) (by decide)) (by first | omega | exact Nat.le_trans (wl_small (by decide)) (by decide)) (by first | omega | exact Nat.le_trans (wl_small (by decide)) (by decide)) (by first | omega | exact Nat.le_trans (wl_small (by decide)) (by decide)) (by first | omega | exact Nat.le_trans (wl_small (by decide)) (by decide)) (by first | omega | exact Nat.le_trans (wl_small (by decide)) (by decide))) (by rfl) ?_
  simp only [Act.put, List.setIfInBounds_toArray, List.set_cons_zero, List.set_cons_succ]
  refine wpPlan_callL rfl (by rfl) Try.call7 (fun w' hw => pof_any (n1x) (d1x) (n1y) (d1y) (u3) (u4) _ HZ3.out HZ4.out (by first | omega | exact Nat.le_trans (wl_small (by decide)) (by decide)) (by first | omega | exact Nat.le_trans (wl_small (by decide)) (by decide)) (by first | omega | exact Nat.le_trans (wl_small (by decide)) (by decide)) (by first | omega | exact Nat.le_trans (wl_small (by decide)) (by decide)) (by first | omega | exact Nat.le_trans (wl_small (by decide)) (by decide)) (by first | omega | exact Nat.le_trans (wl_small (by decide)) (by decide)) (by first | omega | exact Nat.le_trans (wl_small (by decide)) (by decide)) (by first | omega | exact Nat.le_trans (wl_small (by decide)) (by decide))) (by rfl) ?_
  simp only [Act.put, List.setIfInBounds_toArray, List.set_cons_zero, List.set_cons_succ]
  refine wpPlan_callL rfl (by rfl) Try.call7 (fun w' hw => pof_any (n2x) (d2x) (n2y) (d2y) (u5) (u6) _ HZ5.out HZ6.out (by first | omega | exact Nat.le_trans (wl_small (by decide)) (by decide)) (by first | omega | exact Nat.le_trans (wl_small (by decide)) (by decide)) (by first | omega | exact Nat.le_trans (wl_small (by decide)) (by decide)) (by first | omega | exact Nat.le_trans (wl_small (by decide)) (by decide)) (by first | omega | exact Nat.le_trans (wl_small (by decide)) (by decide)) (by first | omega | exact Nat.le_trans (wl_small (by decide)) (by decide)) (by first | omega | exact Nat.le_trans (wl_small (by decide)) (by decide)) (by first | omega | exact Nat.le_trans (wl_small (by decide)) (by decide))) (by rfl) ?_
  simp only [Act.put, List.setIfInBounds_toArray, List.set_cons_zero, List.set_cons_succ]
  refine wpPlan_callL rfl (by rfl) Try.call7 (fun w' hw => pof_any (n3x) (d3x) (n3y) (d3y) (u7) (u8) _ HZ7.out HZ8.out (by first | omega | exact Nat.le_trans (wl_small (by decide)) (by decide)) (by first | omega | exact Nat.le_trans (wl_small (by decide)) (by decide)) (by first | omega | exact Nat.le_trans (wl_small (by decide)) (by decide)) (by first | omega | exact Nat.le_trans (wl_small (by decide)) (by decide)) (by first | omega | exact Nat.le_trans (wl_small (by decide)) (by decide)) (by first | omega | exact Nat.le_trans (wl_small (by decide)) (by decide)) (by first | omega | exact Nat.le_trans (wl_small (by decide)) (by decide)) (by first | omega | exact Nat.le_trans (wl_small (by decide)) (by decide))) (by rfl) ?_
  simp only [Act.put, List.setIfInBounds_toArray, List.set_cons_zero, List.set_cons_succ]
  refine wpPlan_nil (hT.out _ _ ?_); clear hT T
  intro G vw1 hg hf
  simp only [puts, Act.put, List.setIfInBounds_toArray, List.set_cons_zero, List.set_cons_succ, List.drop_succ_cons, List.drop_zero, ↓reduceIte, Nat.reduceEqDiff]
  clear lx0
  have HG := Lib.hid (hg)
  clear hg
  have bx1 := Bx.of_fresh hf (i := 12) (by decide) rfl
  have yx1 := (hf.1 12 (by decide)).1
  have bx2 := Bx.of_fresh hf (i := 13) (by decide) rfl
  have yx2 := (hf.1 13 (by decide)).1
  have dx1_2 : G 12 ≠ G 13 := fun e => absurd (hf.2 12 (by decide) 13 (by decide) e) (by decide)
  have bx3 := Bx.of_fresh hf (i := 14) (by decide) rfl
  have yx3 := (hf.1 14 (by decide)).1
  have dx1_3 : G 12 ≠ G 14 := fun e => absurd (hf.2 12 (by decide) 14 (by decide) e) (by decide)
  have dx2_3 : G 13 ≠ G 14 := fun e => absurd (hf.2 13 (by decide) 14 (by decide) e) (by decide)
  have bx4 := Bx.of_fresh hf (i := 15) (by decide) rfl
  have yx4 := (hf.1 15 (by decide)).1
  have dx1_4 : G 12 ≠ G 15 := fun e => absurd (hf.2 12 (by decide) 15 (by decide) e) (by decide)
  have dx2_4 : G 13 ≠ G 15 := fun e => absurd (hf.2 13 (by decide) 15 (by decide) e) (by decide)
  have dx3_4 : G 14 ≠ G 15 := fun e => absurd (hf.2 14 (by decide) 15 (by decide) e) (by decide)
  clear hf
  generalize G 12 = gx1 at *
  generalize G 13 = gx2 at *
  generalize G 14 = gx3 at *
  generalize G 15 = gx4 at *
  have qx0_1 : w.heap.size < gx1 := Nat.lt_of_lt_of_le BX0.out.lt yx1
  have qx0_2 : w.heap.size < gx2 := Nat.lt_of_lt_of_le BX0.out.lt yx2
  have qx0_3 : w.heap.size < gx3 := Nat.lt_of_lt_of_le BX0.out.lt yx3
  have qx0_4 : w.heap.size < gx4 := Nat.lt_of_lt_of_le BX0.out.lt yx4
  replace yx1 : w.heap.size ≤ gx1 := Nat.le_trans HB.out.size yx1
  replace yx2 : w.heap.size ≤ gx2 := Nat.le_trans HB.out.size yx2
  replace yx3 : w.heap.size ≤ gx3 := Nat.le_trans HB.out.size yx3
  replace yx4 : w.heap.size ≤ gx4 := Nat.le_trans HB.out.size yx4
  have bx0 := BX0.out.gr HG.out; clear BX0
  have lx1 := bx1.cells; have fx1 := bx1.free
  have lx2 := bx2.cells; have fx2 := bx2.free
  have lx3 := bx3.cells; have fx3 := bx3.free
  have lx4 := bx4.cells; have fx4 := bx4.free
  have r0 := Gr.refl vw1
  have BX0 := Lib.hid bx0; clear bx0
  have BX1 := Lib.hid bx1; clear bx1
  have BX2 := Lib.hid bx2; clear bx2
  have BX3 := Lib.hid bx3; clear bx3
  have BX4 := Lib.hid bx4; clear bx4
  go_wp2
  refine hK.out _ _ ?_; clear hK K
  show Code.wp _ _ _ _ _
  clear lx1 fx1
  clear lx2 fx2
  clear lx3 fx3
  clear lx4 fx4
  clear r0
  refine forgetW (fun w2 => Bx w2 gx1 38 #[.int .u64 ((lo (Int.natAbs ((u1).num)) : Nat) : Int), .string (bg (Int.natAbs ((u1).num))), .bool (decide (((u1).num) < 0)), .int .u64 ((lo ((u1).den - 1) : Nat) : Int), .string (bg ((u1).den - 1)), .int .u64 ((lo (Int.natAbs ((u2).num)) : Nat) : Int), .string (bg (Int.natAbs ((u2).num))), .bool (decide (((u2).num) < 0)), .int .u64 ((lo ((u2).den - 1) : Nat) : Int), .string (bg ((u2).den - 1))] ∧ Bx w2 gx2 38 #[.int .u64 ((lo (Int.natAbs ((u3).num)) : Nat) : Int), .string (bg (Int.natAbs ((u3).num))), .bool (decide (((u3).num) < 0)), .int .u64 ((lo ((u3).den - 1) : Nat) : Int), .string (bg ((u3).den - 1)), .int .u64 ((lo (Int.natAbs ((u4).num)) : Nat) : Int), .string (bg (Int.natAbs ((u4).num))), .bool (decide (((u4).num) < 0)), .int .u64 ((lo ((u4).den - 1) : Nat) : Int), .string (bg ((u4).den - 1))] ∧ Bx w2 gx3 38 #[.int .u64 ((lo (Int.natAbs ((u5).num)) : Nat) : Int), .string (bg (Int.natAbs ((u5).num))), .bool (decide (((u5).num) < 0)), .int .u64 ((lo ((u5).den - 1) : Nat) : Int), .string (bg ((u5).den - 1)), .int .u64 ((lo (Int.natAbs ((u6).num)) : Nat) : Int), .string (bg (Int.natAbs ((u6).num))), .bool (decide (((u6).num) < 0)), .int .u64 ((lo ((u6).den - 1) : Nat) : Int), .string (bg ((u6).den - 1))] ∧ Bx w2 gx4 38 #[.int .u64 ((lo (Int.natAbs ((u7).num)) : Nat) : Int), .string (bg (Int.natAbs ((u7).num))), .bool (decide (((u7).num) < 0)), .int .u64 ((lo ((u7).den - 1) : Nat) : Int), .string (bg ((u7).den - 1)), .int .u64 ((lo (Int.natAbs ((u8).num)) : Nat) : Int), .string (bg (Int.natAbs ((u8).num))), .bool (decide (((u8).num) < 0)), .int .u64 ((lo ((u8).den - 1) : Nat) : Int), .string (bg ((u8).den - 1))] ∧ Below w.heap.size w w2) ⟨(((((((((((((((((((((((((((((((((((((((((BX1.out).set 0 _).set 1 _).set 2 _).set 3 _).set 4 _).set 5 _).set 6 _).set 7 _).set 8 _).set 9 _).setOther (by show gx1 ≠ gx2; omega) _).setOther (by show gx1 ≠ gx2; omega) _).setOther (by show gx1 ≠ gx2; omega) _).setOther (by show gx1 ≠ gx2; omega) _).setOther (by show gx1 ≠ gx2; omega) _).setOther (by show gx1 ≠ gx2; omega) _).setOther (by show gx1 ≠ gx2; omega) _).setOther (by show gx1 ≠ gx2; omega) _).setOther (by show gx1 ≠ gx2; omega) _).setOther (by show gx1 ≠ gx2; omega) _).setOther (by show gx1 ≠ gx3; omega) _).setOther (by show gx1 ≠ gx3; omega) _).setOther (by show gx1 ≠ gx3; omega) _).setOther (by show gx1 ≠ gx3; omega) _).setOther (by show gx1 ≠ gx3; omega) _).setOther (by show gx1 ≠ gx3; omega) _).setOther (by show gx1 ≠ gx3; omega) _).setOther (by show gx1 ≠ gx3; omega) _).setOther (by show gx1 ≠ gx3; omega) _).setOther (by show gx1 ≠ gx3; omega) _).setOther (by show gx1 ≠ gx4; omega) _).setOther (by show gx1 ≠ gx4; omega) _).setOther (by show gx1 ≠ gx4; omega) _).setOther (by show gx1 ≠ gx4; omega) _).setOther (by show gx1 ≠ gx4; omega) _).setOther (by show gx1 ≠ gx4; omega) _).setOther (by show gx1 ≠ gx4; omega) _).setOther (by show gx1 ≠ gx4; omega) _).setOther (by show gx1 ≠ gx4; omega) _).setOther (by show gx1 ≠ gx4; omega) _).eq (by simp only [List.setIfInBounds_toArray, List.set_cons_zero, List.set_cons_succ]), (((((((((((((((((((((((((((((((((((((((((BX2.out).setOther (by show gx2 ≠ gx1; omega) _).setOther (by show gx2 ≠ gx1; omega) _).setOther (by show gx2 ≠ gx1; omega) _).setOther (by show gx2 ≠ gx1; omega) _).setOther (by show gx2 ≠ gx1; omega) _).setOther (by show gx2 ≠ gx1; omega) _).setOther (by show gx2 ≠ gx1; omega) _).setOther (by show gx2 ≠ gx1; omega) _).setOther (by show gx2 ≠ gx1; omega) _).setOther (by show gx2 ≠ gx1; omega) _).set 0 _).set 1 _).set 2 _).set 3 _).set 4 _).set 5 _).set 6 _).set 7 _).set 8 _).set 9 _).setOther (by show gx2 ≠ gx3; omega) _).setOther (by show gx2 ≠ gx3; omega) _).setOther (by show gx2 ≠ gx3; omega) _).setOther (by show gx2 ≠ gx3; omega) _).setOther (by show gx2 ≠ gx3; omega) _).setOther (by show gx2 ≠ gx3; omega) _).setOther (by show gx2 ≠ gx3; omega) _).setOther (by show gx2 ≠ gx3; omega) _).setOther (by show gx2 ≠ gx3; omega) _).setOther (by show gx2 ≠ gx3; omega) _).setOther (by show gx2 ≠ gx4; omega) _).setOther (by show gx2 ≠ gx4; omega) _).setOther (by show gx2 ≠ gx4; omega) _).setOther (by show gx2 ≠ gx4; omega) _).setOther (by show gx2 ≠ gx4; omega) _).setOther (by show gx2 ≠ gx4; omega) _).setOther (by show gx2 ≠ gx4; omega) _).setOther (by show gx2 ≠ gx4; omega) _).setOther (by show gx2 ≠ gx4; omega) _).setOther (by show gx2 ≠ gx4; omega) _).eq (by simp only [List.setIfInBounds_toArray, List.set_cons_zero, List.set_cons_succ]), (((((((((((((((((((((((((((((((((((((((((BX3.out).setOther (by show gx3 ≠ gx1; omega) _).setOther (by show gx3 ≠ gx1; omega) _).setOther (by show gx3 ≠ gx1; omega) _).setOther (by show gx3 ≠ gx1; omega) _).setOther (by show gx3 ≠ gx1; omega) _).setOther (by show gx3 ≠ gx1; omega) _).setOther (by show gx3 ≠ gx1; omega) _).setOther (by show gx3 ≠ gx1; omega) _).setOther (by show gx3 ≠ gx1; omega) _).setOther (by show gx3 ≠ gx1; omega) _).setOther (by show gx3 ≠ gx2; omega) _).setOther (by show gx3 ≠ gx2; omega) _).setOther (by show gx3 ≠ gx2; omega) _).setOther (by show gx3 ≠ gx2; omega) _).setOther (by show gx3 ≠ gx2; omega) _).setOther (by show gx3 ≠ gx2; omega) _).setOther (by show gx3 ≠ gx2; omega) _).setOther (by show gx3 ≠ gx2; omega) _).setOther (by show gx3 ≠ gx2; omega) _).setOther (by show gx3 ≠ gx2; omega) _).set 0 _).set 1 _).set 2 _).set 3 _).set 4 _).set 5 _).set 6 _).set 7 _).set 8 _).set 9 _).setOther (by show gx3 ≠ gx4; omega) _).setOther (by show gx3 ≠ gx4; omega) _).setOther (by show gx3 ≠ gx4; omega) _).setOther (by show gx3 ≠ gx4; omega) _).setOther (by show gx3 ≠ gx4; omega) _).setOther (by show gx3 ≠ gx4; omega) _).setOther (by show gx3 ≠ gx4; omega) _).setOther (by show gx3 ≠ gx4; omega) _).setOther (by show gx3 ≠ gx4; omega) _).setOther (by show gx3 ≠ gx4; omega) _).eq (by simp only [List.setIfInBounds_toArray, List.set_cons_zero, List.set_cons_succ]), (((((((((((((((((((((((((((((((((((((((((BX4.out).setOther (by show gx4 ≠ gx1; omega) _).setOther (by show gx4 ≠ gx1; omega) _).setOther (by show gx4 ≠ gx1; omega) _).setOther (by show gx4 ≠ gx1; omega) _).setOther (by show gx4 ≠ gx1; omega) _).setOther (by show gx4 ≠ gx1; omega) _).setOther (by show gx4 ≠ gx1; omega) _).setOther (by show gx4 ≠ gx1; omega) _).setOther (by show gx4 ≠ gx1; omega) _).setOther (by show gx4 ≠ gx1; omega) _).setOther (by show gx4 ≠ gx2; omega) _).setOther (by show gx4 ≠ gx2; omega) _).setOther (by show gx4 ≠ gx2; omega) _).setOther (by show gx4 ≠ gx2; omega) _).setOther (by show gx4 ≠ gx2; omega) _).setOther (by show gx4 ≠ gx2; omega) _).setOther (by show gx4 ≠ gx2; omega) _).setOther (by show gx4 ≠ gx2; omega) _).setOther (by show gx4 ≠ gx2; omega) _).setOther (by show gx4 ≠ gx2; omega) _).setOther (by show gx4 ≠ gx3; omega) _).setOther (by show gx4 ≠ gx3; omega) _).setOther (by show gx4 ≠ gx3; omega) _).setOther (by show gx4 ≠ gx3; omega) _).setOther (by show gx4 ≠ gx3; omega) _).setOther (by show gx4 ≠ gx3; omega) _).setOther (by show gx4 ≠ gx3; omega) _).setOther (by show gx4 ≠ gx3; omega) _).setOther (by show gx4 ≠ gx3; omega) _).setOther (by show gx4 ≠ gx3; omega) _).set 0 _).set 1 _).set 2 _).set 3 _).set 4 _).set 5 _).set 6 _).set 7 _).set 8 _).set 9 _).eq (by simp only [List.setIfInBounds_toArray, List.set_cons_zero, List.set_cons_succ]), ((((((((((((((((((((((((((((((((((((((((HB.out.trans (HG.out.mono HB.out.size)).setCell (by show w.heap.size ≤ gx1; omega) _).setCell (by show w.heap.size ≤ gx1; omega) _).setCell (by show w.heap.size ≤ gx1; omega) _).setCell (by show w.heap.size ≤ gx1; omega) _).setCell (by show w.heap.size ≤ gx1; omega) _).setCell (by show w.heap.size ≤ gx1; omega) _).setCell (by show w.heap.size ≤ gx1; omega) _).setCell (by show w.heap.size ≤ gx1; omega) _).setCell (by show w.heap.size ≤ gx1; omega) _).setCell (by show w.heap.size ≤ gx1; omega) _).setCell (by show w.heap.size ≤ gx2; omega) _).setCell (by show w.heap.size ≤ gx2; omega) _).setCell (by show w.heap.size ≤ gx2; omega) _).setCell (by show w.heap.size ≤ gx2; omega) _).setCell (by show w.heap.size ≤ gx2; omega) _).setCell (by show w.heap.size ≤ gx2; omega) _).setCell (by show w.heap.size ≤ gx2; omega) _).setCell (by show w.heap.size ≤ gx2; omega) _).setCell (by show w.heap.size ≤ gx2; omega) _).setCell (by show w.heap.size ≤ gx2; omega) _).setCell (by show w.heap.size ≤ gx3; omega) _).setCell (by show w.heap.size ≤ gx3; omega) _).setCell (by show w.heap.size ≤ gx3; omega) _).setCell (by show w.heap.size ≤ gx3; omega) _).setCell (by show w.heap.size ≤ gx3; omega) _).setCell (by show w.heap.size ≤ gx3; omega) _).setCell (by show w.heap.size ≤ gx3; omega) _).setCell (by show w.heap.size ≤ gx3; omega) _).setCell (by show w.heap.size ≤ gx3; omega) _).setCell (by show w.heap.size ≤ gx3; omega) _).setCell (by show w.heap.size ≤ gx4; omega) _).setCell (by show w.heap.size ≤ gx4; omega) _).setCell (by show w.heap.size ≤ gx4; omega) _).setCell (by show w.heap.size ≤ gx4; omega) _).setCell (by show w.heap.size ≤ gx4; omega) _).setCell (by show w.heap.size ≤ gx4; omega) _).setCell (by show w.heap.size ≤ gx4; omega) _).setCell (by show w.heap.size ≤ gx4; omega) _).setCell (by show w.heap.size ≤ gx4; omega) _).setCell (by show w.heap.size ≤ gx4; omega) _⟩ ?_
  clear HB HG BX0 BX1 BX2 BX3 BX4
  rintro Wx1 ⟨bx1, bx2, bx3, bx4, HB⟩
  replace HB := Lib.hid HB
  -- region 2
  obtain ⟨s9, HS9⟩ : ∃ s, Hid (sgQ (incirc (u1) (u2) (u3) (u4) (u5) (u6) (u7) (u8)) = s) := ⟨_, Lib.hid rfl⟩
  obtain ⟨t9, HT9⟩ : ∃ t, Hid (turn (u1) (u2) (u3) (u4) (u5) (u6) = t) := ⟨_, Lib.hid rfl⟩
  obtain ⟨r9, HR9⟩ : ∃ r, Hid (IntKind.i64.wrap (s9 * t9) = r) := ⟨_, Lib.hid rfl⟩
  have lx1 := bx1.cells
  have lx2 := bx2.cells
  have lx3 := bx3.cells
  have lx4 := bx4.cells
  have BX1 := Lib.hid bx1
  have BX2 := Lib.hid bx2
  have BX3 := Lib.hid bx3
  have BX4 := Lib.hid bx4
  clear bx1 bx2 bx3 bx4
  refine wp_seq_k fun K hK => ?_
  replace hK := Lib.hid hK
  refine wp_region_seqplan 6 [(true, 0), (true, 1), (true, 2), (true, 3), (true, 4), (true, 5)] (by rfl) (by simp) (fun T hT => ?_)
  iterate 4
    refine wpPlan_takeL (v := ?_) rfl (by rfl) (fun w' hw => ?_) ?_
    rotate_left
    · go_simp
      with_reducible rfl
    simp only [Act.put, List.setIfInBounds_toArray, List.set_cons_zero, List.set_cons_succ]
  refine wpPlan_callL rfl (by rfl) Try.call17 (fun w' hw => pcircle_any (u1) (u2) (u3) (u4) (u5) (u6) (u7) (u8) (s9) (t9) (r9) _ (HS9.out) (HT9.out) (HR9.out) (by first | omega | exact Nat.le_trans (wl_small (by decide)) (by decide)) (by first | omega | exact Nat.le_trans (wl_small (by decide)) (by decide)) (by first | omega | exact Nat.le_trans (wl_small (by decide)) (by decide)) (by first | omega | exact Nat.le_trans (wl_small (by decide)) (by decide)) (by first | omega | exact Nat.le_trans (wl_small (by decide)) (by decide)) (by first | omega | exact Nat.le_trans (wl_small (by decide)) (by decide)) (by first | omega | exact Nat.le_trans (wl_small (by decide)) (by decide)) (by first | omega | exact Nat.le_trans (wl_small (by decide)) (by decide))) (by rfl) ?_
  simp only [Act.put, List.setIfInBounds_toArray, List.set_cons_zero, List.set_cons_succ]
  iterate 1
    refine wpPlan_takeL (v := ?_) rfl (by rfl) (fun w' hw => ?_) ?_
    rotate_left
    · go_simp
      with_reducible rfl
    simp only [Act.put, List.setIfInBounds_toArray, List.set_cons_zero, List.set_cons_succ]
  refine wpPlan_nil (hT.out _ _ ?_); clear hT T
  intro vw2 hg
  simp only [puts, Act.put, List.setIfInBounds_toArray, List.set_cons_zero, List.set_cons_succ, List.drop_succ_cons, List.drop_zero, ↓reduceIte, Nat.reduceEqDiff]
  clear lx1 lx2 lx3 lx4
  have HG := Lib.hid (hg)
  clear hg
  have bx1 := BX1.out.gr HG.out; clear BX1
  have bx2 := BX2.out.gr HG.out; clear BX2
  have bx3 := BX3.out.gr HG.out; clear BX3
  have bx4 := BX4.out.gr HG.out; clear BX4
  have r0 := Gr.refl vw2
  have BX1 := Lib.hid bx1; clear bx1
  have BX2 := Lib.hid bx2; clear bx2
  have BX3 := Lib.hid bx3; clear bx3
  have BX4 := Lib.hid bx4; clear bx4
  go_wp2
  refine hK.out _ _ ?_; clear hK K
  show Code.wp _ _ _ _ _
  clear r0
  refine forgetW (fun w2 => Bx w2 gx1 38 #[.int .u64 ((lo (Int.natAbs ((u1).num)) : Nat) : Int), .string (bg (Int.natAbs ((u1).num))), .bool (decide (((u1).num) < 0)), .int .u64 ((lo ((u1).den - 1) : Nat) : Int), .string (bg ((u1).den - 1)), .int .u64 ((lo (Int.natAbs ((u2).num)) : Nat) : Int), .string (bg (Int.natAbs ((u2).num))), .bool (decide (((u2).num) < 0)), .int .u64 ((lo ((u2).den - 1) : Nat) : Int), .string (bg ((u2).den - 1))] ∧ Bx w2 gx2 38 #[.int .u64 ((lo (Int.natAbs ((u3).num)) : Nat) : Int), .string (bg (Int.natAbs ((u3).num))), .bool (decide (((u3).num) < 0)), .int .u64 ((lo ((u3).den - 1) : Nat) : Int), .string (bg ((u3).den - 1)), .int .u64 ((lo (Int.natAbs ((u4).num)) : Nat) : Int), .string (bg (Int.natAbs ((u4).num))), .bool (decide (((u4).num) < 0)), .int .u64 ((lo ((u4).den - 1) : Nat) : Int), .string (bg ((u4).den - 1))] ∧ Bx w2 gx3 38 #[.int .u64 ((lo (Int.natAbs ((u5).num)) : Nat) : Int), .string (bg (Int.natAbs ((u5).num))), .bool (decide (((u5).num) < 0)), .int .u64 ((lo ((u5).den - 1) : Nat) : Int), .string (bg ((u5).den - 1)), .int .u64 ((lo (Int.natAbs ((u6).num)) : Nat) : Int), .string (bg (Int.natAbs ((u6).num))), .bool (decide (((u6).num) < 0)), .int .u64 ((lo ((u6).den - 1) : Nat) : Int), .string (bg ((u6).den - 1))] ∧ Bx w2 gx4 38 #[.int .u64 ((lo (Int.natAbs ((u7).num)) : Nat) : Int), .string (bg (Int.natAbs ((u7).num))), .bool (decide (((u7).num) < 0)), .int .u64 ((lo ((u7).den - 1) : Nat) : Int), .string (bg ((u7).den - 1)), .int .u64 ((lo (Int.natAbs ((u8).num)) : Nat) : Int), .string (bg (Int.natAbs ((u8).num))), .bool (decide (((u8).num) < 0)), .int .u64 ((lo ((u8).den - 1) : Nat) : Int), .string (bg ((u8).den - 1))] ∧ Below w.heap.size w w2) ⟨BX1.out, BX2.out, BX3.out, BX4.out, HB.out.trans (HG.out.mono HB.out.size)⟩ ?_
  clear HB HG BX1 BX2 BX3 BX4
  rintro Wx2 ⟨bx1, bx2, bx3, bx4, HB⟩
  replace HB := Lib.hid HB
  refine wp_seq ?_
  -- region 3
  have lx1 := bx1.cells
  have lx2 := bx2.cells
  have lx3 := bx3.cells
  have lx4 := bx4.cells
  have BX1 := Lib.hid bx1
  have BX2 := Lib.hid bx2
  have BX3 := Lib.hid bx3
  have BX4 := Lib.hid bx4
  clear bx1 bx2 bx3 bx4
  refine wp_seq_k fun K hK => ?_
  replace hK := Lib.hid hK
  refine wp_region_seqplan 40 [(true, 0), (true, 1), (true, 2), (true, 3), (true, 4), (true, 5), (true, 6), (true, 7), (true, 8), (true, 9), (true, 10), (true, 11), (true, 12), (true, 13), (true, 14), (true, 15), (true, 16), (true, 17), (true, 18), (true, 19), (true, 20), (true, 21), (true, 22), (true, 23), (true, 24), (true, 25), (true, 26), (true, 27), (true, 28), (true, 29), (true, 30), (true, 31), (true, 32), (true, 33), (true, 34), (true, 35), (true, 36), (true, 37), (true, 38), (true, 39)] (by rfl) (by simp) (fun T hT => ?_)
  iterate 4
    refine wpPlan_takeL (v := ?_) rfl (by rfl) (fun w' hw => ?_) ?_
    rotate_left
    · go_simp
      with_reducible rfl
    simp only [Act.put, List.setIfInBounds_toArray, List.set_cons_zero, List.set_cons_succ]
  refine wpPlan_callL rfl (by rfl) Try.call17 (fun w' hw => pcircle_any (u3) (u4) (u5) (u6) (u1) (u2) (u7) (u8) (s9) (t9) (r9) _ (by rw [← HS9.out]; exact congrArg sgQ (incirc_rot _ _ _ _ _ _ _ _)) (by rw [← HT9.out]; exact turn_rot _ _ _ _ _ _) (HR9.out) (by first | omega | exact Nat.le_trans (wl_small (by decide)) (by decide)) (by first | omega | exact Nat.le_trans (wl_small (by decide)) (by decide)) (by first | omega | exact Nat.le_trans (wl_small (by decide)) (by decide)) (by first | omega | exact Nat.le_trans (wl_small (by decide)) (by decide)) (by first | omega | exact Nat.le_trans (wl_small (by decide)) (by decide)) (by first | omega | exact Nat.le_trans (wl_small (by decide)) (by decide)) (by first | omega | exact Nat.le_trans (wl_small (by decide)) (by decide)) (by first | omega | exact Nat.le_trans (wl_small (by decide)) (by decide))) (by rfl) ?_
  simp only [Act.put, List.setIfInBounds_toArray, List.set_cons_zero, List.set_cons_succ]
  iterate 7
    refine wpPlan_takeL (v := ?_) rfl (by rfl) (fun w' hw => ?_) ?_
    rotate_left
    · go_simp
      with_reducible rfl
    simp only [Act.put, List.setIfInBounds_toArray, List.set_cons_zero, List.set_cons_succ]
  refine wpPlan_callL rfl (by rfl) Try.call17 (fun w' hw => pcircle_any (u3) (u4) (u1) (u2) (u5) (u6) (u7) (u8) (-s9) (-t9) (r9) _ (by rw [← HS9.out, incirc_swap]; exact sgQ_negate _) (by rw [← HT9.out]; exact turn_swap _ _ _ _ _ _) (by rw [Int.neg_mul_neg]; exact HR9.out) (by first | omega | exact Nat.le_trans (wl_small (by decide)) (by decide)) (by first | omega | exact Nat.le_trans (wl_small (by decide)) (by decide)) (by first | omega | exact Nat.le_trans (wl_small (by decide)) (by decide)) (by first | omega | exact Nat.le_trans (wl_small (by decide)) (by decide)) (by first | omega | exact Nat.le_trans (wl_small (by decide)) (by decide)) (by first | omega | exact Nat.le_trans (wl_small (by decide)) (by decide)) (by first | omega | exact Nat.le_trans (wl_small (by decide)) (by decide)) (by first | omega | exact Nat.le_trans (wl_small (by decide)) (by decide))) (by rfl) ?_
  simp only [Act.put, List.setIfInBounds_toArray, List.set_cons_zero, List.set_cons_succ]
  iterate 8
    refine wpPlan_takeL (v := ?_) rfl (by rfl) (fun w' hw => ?_) ?_
    rotate_left
    · go_simp
      with_reducible rfl
    simp only [Act.put, List.setIfInBounds_toArray, List.set_cons_zero, List.set_cons_succ]
  refine wpPlan_callL rfl (by rfl) Try.call17 (fun w' hw => pcircle_any (u1) (u2) (u3) (u4) (u5) (u6) (u1) (u2) (0) (t9) (0) _ (by rw [incirc_a]; rfl) (HT9.out) (by rw [Int.zero_mul]; rfl) (by first | omega | exact Nat.le_trans (wl_small (by decide)) (by decide)) (by first | omega | exact Nat.le_trans (wl_small (by decide)) (by decide)) (by first | omega | exact Nat.le_trans (wl_small (by decide)) (by decide)) (by first | omega | exact Nat.le_trans (wl_small (by decide)) (by decide)) (by first | omega | exact Nat.le_trans (wl_small (by decide)) (by decide)) (by first | omega | exact Nat.le_trans (wl_small (by decide)) (by decide)) (by first | omega | exact Nat.le_trans (wl_small (by decide)) (by decide)) (by first | omega | exact Nat.le_trans (wl_small (by decide)) (by decide))) (by rfl) ?_
  simp only [Act.put, List.setIfInBounds_toArray, List.set_cons_zero, List.set_cons_succ]
  iterate 7
    refine wpPlan_takeL (v := ?_) rfl (by rfl) (fun w' hw => ?_) ?_
    rotate_left
    · go_simp
      with_reducible rfl
    simp only [Act.put, List.setIfInBounds_toArray, List.set_cons_zero, List.set_cons_succ]
  refine wpPlan_callL rfl (by rfl) Try.call17 (fun w' hw => pcircle_any (u1) (u2) (u3) (u4) (u5) (u6) (u3) (u4) (0) (t9) (0) _ (by rw [incirc_b]; rfl) (HT9.out) (by rw [Int.zero_mul]; rfl) (by first | omega | exact Nat.le_trans (wl_small (by decide)) (by decide)) (by first | omega | exact Nat.le_trans (wl_small (by decide)) (by decide)) (by first | omega | exact Nat.le_trans (wl_small (by decide)) (by decide)) (by first | omega | exact Nat.le_trans (wl_small (by decide)) (by decide)) (by first | omega | exact Nat.le_trans (wl_small (by decide)) (by decide)) (by first | omega | exact Nat.le_trans (wl_small (by decide)) (by decide)) (by first | omega | exact Nat.le_trans (wl_small (by decide)) (by decide)) (by first | omega | exact Nat.le_trans (wl_small (by decide)) (by decide))) (by rfl) ?_
  simp only [Act.put, List.setIfInBounds_toArray, List.set_cons_zero, List.set_cons_succ]
  iterate 7
    refine wpPlan_takeL (v := ?_) rfl (by rfl) (fun w' hw => ?_) ?_
    rotate_left
    · go_simp
      with_reducible rfl
    simp only [Act.put, List.setIfInBounds_toArray, List.set_cons_zero, List.set_cons_succ]
  refine wpPlan_callL rfl (by rfl) Try.call17 (fun w' hw => pcircle_any (u1) (u2) (u3) (u4) (u5) (u6) (u5) (u6) (0) (t9) (0) _ (by rw [incirc_c]; rfl) (HT9.out) (by rw [Int.zero_mul]; rfl) (by first | omega | exact Nat.le_trans (wl_small (by decide)) (by decide)) (by first | omega | exact Nat.le_trans (wl_small (by decide)) (by decide)) (by first | omega | exact Nat.le_trans (wl_small (by decide)) (by decide)) (by first | omega | exact Nat.le_trans (wl_small (by decide)) (by decide)) (by first | omega | exact Nat.le_trans (wl_small (by decide)) (by decide)) (by first | omega | exact Nat.le_trans (wl_small (by decide)) (by decide)) (by first | omega | exact Nat.le_trans (wl_small (by decide)) (by decide)) (by first | omega | exact Nat.le_trans (wl_small (by decide)) (by decide))) (by rfl) ?_
  simp only [Act.put, List.setIfInBounds_toArray, List.set_cons_zero, List.set_cons_succ]
  iterate 2
    refine wpPlan_takeL (v := ?_) rfl (by rfl) (fun w' hw => ?_) ?_
    rotate_left
    · go_simp
      with_reducible rfl
    simp only [Act.put, List.setIfInBounds_toArray, List.set_cons_zero, List.set_cons_succ]
  refine wpPlan_nil (hT.out _ _ ?_); clear hT T
  intro vw3 hg
  simp only [puts, Act.put, List.setIfInBounds_toArray, List.set_cons_zero, List.set_cons_succ, List.drop_succ_cons, List.drop_zero, ↓reduceIte, Nat.reduceEqDiff]
  clear lx1 lx2 lx3 lx4
  have HG := Lib.hid (hg)
  clear hg
  have bx1 := BX1.out.gr HG.out; clear BX1
  have bx2 := BX2.out.gr HG.out; clear BX2
  have bx3 := BX3.out.gr HG.out; clear BX3
  have bx4 := BX4.out.gr HG.out; clear BX4
  have r0 := Gr.refl vw3
  have BX1 := Lib.hid bx1; clear bx1
  have BX2 := Lib.hid bx2; clear bx2
  have BX3 := Lib.hid bx3; clear bx3
  have BX4 := Lib.hid bx4; clear bx4
  go_wp2
  refine hK.out _ _ ?_; clear hK K
  show Code.wp _ _ _ _ _
  clear r0
  refine forgetW (fun w2 => Bx w2 gx1 38 #[.int .u64 ((lo (Int.natAbs ((u1).num)) : Nat) : Int), .string (bg (Int.natAbs ((u1).num))), .bool (decide (((u1).num) < 0)), .int .u64 ((lo ((u1).den - 1) : Nat) : Int), .string (bg ((u1).den - 1)), .int .u64 ((lo (Int.natAbs ((u2).num)) : Nat) : Int), .string (bg (Int.natAbs ((u2).num))), .bool (decide (((u2).num) < 0)), .int .u64 ((lo ((u2).den - 1) : Nat) : Int), .string (bg ((u2).den - 1))] ∧ Bx w2 gx2 38 #[.int .u64 ((lo (Int.natAbs ((u3).num)) : Nat) : Int), .string (bg (Int.natAbs ((u3).num))), .bool (decide (((u3).num) < 0)), .int .u64 ((lo ((u3).den - 1) : Nat) : Int), .string (bg ((u3).den - 1)), .int .u64 ((lo (Int.natAbs ((u4).num)) : Nat) : Int), .string (bg (Int.natAbs ((u4).num))), .bool (decide (((u4).num) < 0)), .int .u64 ((lo ((u4).den - 1) : Nat) : Int), .string (bg ((u4).den - 1))] ∧ Bx w2 gx3 38 #[.int .u64 ((lo (Int.natAbs ((u5).num)) : Nat) : Int), .string (bg (Int.natAbs ((u5).num))), .bool (decide (((u5).num) < 0)), .int .u64 ((lo ((u5).den - 1) : Nat) : Int), .string (bg ((u5).den - 1)), .int .u64 ((lo (Int.natAbs ((u6).num)) : Nat) : Int), .string (bg (Int.natAbs ((u6).num))), .bool (decide (((u6).num) < 0)), .int .u64 ((lo ((u6).den - 1) : Nat) : Int), .string (bg ((u6).den - 1))] ∧ Below w.heap.size w w2) ⟨BX1.out, BX2.out, BX3.out, HB.out.trans (HG.out.mono HB.out.size)⟩ ?_
  clear HB HG BX1 BX2 BX3 BX4
  rintro Wx3 ⟨bx1, bx2, bx3, HB⟩
  replace HB := Lib.hid HB
  refine wp_cond_false (by rfl) ?_
  refine wp_skip ?_
  show Code.wp _ _ _ _ _
  -- region 5
  obtain ⟨u10, HZ10⟩ : ∃ z, Hid ((u3) - (u1) = z) := ⟨_, Lib.hid rfl⟩
  have su10 : sz u10 ≤ 9 := by rw [← HZ10.out]; have := sz_sub (u3) (u1); omega
  obtain ⟨u11, HZ11⟩ : ∃ z, Hid ((u4) - (u2) = z) := ⟨_, Lib.hid rfl⟩
  have su11 : sz u11 ≤ 9 := by rw [← HZ11.out]; have := sz_sub (u4) (u2); omega
  have lx1 := bx1.cells
  have lx2 := bx2.cells
  have BX1 := Lib.hid bx1
  have BX2 := Lib.hid bx2
  have BX3 := Lib.hid bx3
  clear bx1 bx2 bx3
  refine wp_seq_k fun K hK => ?_
  replace hK := Lib.hid hK
  refine wp_region_seqplan 3 [(true, 0), (true, 1), (true, 2)] (by rfl) (by simp) (fun T hT => ?_)
  iterate 2
    refine wpPlan_takeL (v := ?_) rfl (by rfl) (fun w' hw => ?_) ?_
    rotate_left
    · go_simp
      with_reducible rfl
    simp only [Act.put, List.setIfInBounds_toArray, List.set_cons_zero, List.set_cons_succ]
  refine wpPlan_callL rfl (by rfl) Try.call8 (fun w' hw => psub_any (u3) (u4) (u1) (u2) (u10) (u11) _ HZ10.out HZ11.out (by first | omega | exact Nat.le_trans (wl_small (by decide)) (by decide)) (by first | omega | exact Nat.le_trans (wl_small (by decide)) (by decide)) (by first | omega | exact Nat.le_trans (wl_small (by decide)) (by decide)) (by first | omega | exact Nat.le_trans (wl_small (by decide)) (by decide))) (by rfl) ?_
  simp only [Act.put, List.setIfInBounds_toArray, List.set_cons_zero, List.set_cons_succ]
  refine wpPlan_nil (hT.out _ _ ?_); clear hT T
  intro vw4 hg
  simp only [puts, Act.put, List.setIfInBounds_toArray, List.set_cons_zero, List.set_cons_succ, List.drop_succ_cons, List.drop_zero, ↓reduceIte, Nat.reduceEqDiff]
  clear lx1 lx2
  have HG := Lib.hid (hg)
  clear hg
  have bx1 := BX1.out.gr HG.out; clear BX1
  have bx2 := BX2.out.gr HG.out; clear BX2
  have bx3 := BX3.out.gr HG.out; clear BX3
  have r0 := Gr.refl vw4
  have BX1 := Lib.hid bx1; clear bx1
  have BX2 := Lib.hid bx2; clear bx2
  have BX3 := Lib.hid bx3; clear bx3
  go_wp2
  refine hK.out _ _ ?_; clear hK K
  show Code.wp _ _ _ _ _
  clear r0
  have hsz : w.heap.size ≤ vw4.heap.size := Nat.le_trans HB.out.size HG.out.size
  have mx1 : gx1 < vw4.heap.size := BX1.out.lt
  have mx2 : gx2 < vw4.heap.size := BX2.out.lt
  have mx3 : gx3 < vw4.heap.size := BX3.out.lt
  refine forgetW (fun w2 => Bx w2 gx1 38 #[.int .u64 ((lo (Int.natAbs ((u1).num)) : Nat) : Int), .string (bg (Int.natAbs ((u1).num))), .bool (decide (((u1).num) < 0)), .int .u64 ((lo ((u1).den - 1) : Nat) : Int), .string (bg ((u1).den - 1)), .int .u64 ((lo (Int.natAbs ((u2).num)) : Nat) : Int), .string (bg (Int.natAbs ((u2).num))), .bool (decide (((u2).num) < 0)), .int .u64 ((lo ((u2).den - 1) : Nat) : Int), .string (bg ((u2).den - 1))] ∧ Bx w2 gx2 38 #[.int .u64 ((lo (Int.natAbs ((u3).num)) : Nat) : Int), .string (bg (Int.natAbs ((u3).num))), .bool (decide (((u3).num) < 0)), .int .u64 ((lo ((u3).den - 1) : Nat) : Int), .string (bg ((u3).den - 1)), .int .u64 ((lo (Int.natAbs ((u4).num)) : Nat) : Int), .string (bg (Int.natAbs ((u4).num))), .bool (decide (((u4).num) < 0)), .int .u64 ((lo ((u4).den - 1) : Nat) : Int), .string (bg ((u4).den - 1))] ∧ Bx w2 gx3 38 #[.int .u64 ((lo (Int.natAbs ((u5).num)) : Nat) : Int), .string (bg (Int.natAbs ((u5).num))), .bool (decide (((u5).num) < 0)), .int .u64 ((lo ((u5).den - 1) : Nat) : Int), .string (bg ((u5).den - 1)), .int .u64 ((lo (Int.natAbs ((u6).num)) : Nat) : Int), .string (bg (Int.natAbs ((u6).num))), .bool (decide (((u6).num) < 0)), .int .u64 ((lo ((u6).den - 1) : Nat) : Int), .string (bg ((u6).den - 1))] ∧ Bx w2 (vw4.heap.size) 38 #[.int .u64 ((lo (Int.natAbs ((u10).num)) : Nat) : Int), .string (bg (Int.natAbs ((u10).num))), .bool (decide (((u10).num) < 0)), .int .u64 ((lo ((u10).den - 1) : Nat) : Int), .string (bg ((u10).den - 1)), .int .u64 ((lo (Int.natAbs ((u11).num)) : Nat) : Int), .string (bg (Int.natAbs ((u11).num))), .bool (decide (((u11).num) < 0)), .int .u64 ((lo ((u11).den - 1) : Nat) : Int), .string (bg ((u11).den - 1))] ∧ Below w.heap.size w w2) ⟨(BX1.out).alloc _, (BX2.out).alloc _, (BX3.out).alloc _, (Bx.at (by simp) : Bx _ (vw4.heap.size) _ _), (HB.out.trans (HG.out.mono HB.out.size)).alloc (by first | omega | (simp; omega)) _⟩ ?_
  clear HB HG BX1 BX2 BX3
  rintro Wx5 ⟨bx1, bx2, bx3, bx5, HB⟩
  replace HB := Lib.hid HB
  have yx5 : w.heap.size ≤ vw4.heap.size := by omega
  have qx1_5 : gx1 < vw4.heap.size := by omega
  have qx2_5 : gx2 < vw4.heap.size := by omega
  have qx3_5 : gx3 < vw4.heap.size := by omega
  generalize hx5 : vw4.heap.size = gx5 at *
  clear hx5
  clear hsz mx1 mx2 mx3
  -- region 6
  obtain ⟨u12, HZ12⟩ : ∃ z, Hid (-(u11) = z) := ⟨_, Lib.hid rfl⟩
  have su12 : sz u12 ≤ 9 := by rw [← HZ12.out]; rw [sz_neg]; omega
  obtain ⟨u13, HZ13⟩ : ∃ z, Hid ((u12) * (u5) = z) := ⟨_, Lib.hid rfl⟩
  have su13 : sz u13 ≤ 13 := by rw [← HZ13.out]; have := sz_mul (u12) (u5); omega
  obtain ⟨u14, HZ14⟩ : ∃ z, Hid ((u10) * (u5) = z) := ⟨_, Lib.hid rfl⟩
  have su14 : sz u14 ≤ 13 := by rw [← HZ14.out]; have := sz_mul (u10) (u5); omega
  have lx3 := bx3.cells
  have lx5 := bx5.cells
  have BX1 := Lib.hid bx1
  have BX2 := Lib.hid bx2
  have BX3 := Lib.hid bx3
  have BX5 := Lib.hid bx5
  clear bx1 bx2 bx3 bx5
  refine wp_seq_k fun K hK => ?_
  replace hK := Lib.hid hK
  refine wp_region_plan 10 [9] [] (fun _ => 9) (fun _ => .cells #[.int .u64 0, .string ⟨#[]⟩, .bool false, .int .u64 0, .string ⟨#[]⟩, .int .u64 0, .string ⟨#[]⟩, .bool false, .int .u64 0, .string ⟨#[]⟩] 38) [(true, 0), (true, 1), (true, 3), (true, 4), (true, 6), (true, 7), (true, 2), (true, 5), (true, 8)] (by kernel_rfl) (by kernel_rfl) (by intro i hi; simp only [List.mem_cons, List.not_mem_nil, or_false] at hi; rcases hi with rfl <;> exact ⟨_, rfl, rfl, rfl, by simp, fun ρ w => by kernel_rfl⟩) (fun i hi => by cases hi) (fun _ _ _ _ _ h => h) (fun T hT => ?_)
  iterate 6
    refine wpPlan_takeL (v := ?_) rfl (by rfl) (fun w' hw => ?_) ?_
    rotate_left
    · go_simp
      with_reducible rfl
    simp only [Act.put, List.setIfInBounds_toArray, List.set_cons_zero, List.set_cons_succ]
  refine wpPlan_callL rfl (by rfl) Try.call19 (fun w' hw => fneg_any (u11) (u12) _ HZ12.out) (by rfl) ?_
  simp only [Act.put, List.setIfInBounds_toArray, List.set_cons_zero, List.set_cons_succ]
  iterate 1
    refine wpPlan_takeL (v := ?_) rfl (by rfl) (fun w' hw => ?_) ?_
    rotate_left
    · go_simp
      with_reducible rfl
    simp only [Act.put, List.setIfInBounds_toArray, List.set_cons_zero, List.set_cons_succ]
  refine wpPlan_callL rfl (by rfl) Try.call18 (fun w' hw => pscale_any (u12) (u10) (u5) (u13) (u14) _ HZ13.out HZ14.out (by first | omega | exact Nat.le_trans (wl_small (by decide)) (by decide)) (by first | omega | exact Nat.le_trans (wl_small (by decide)) (by decide)) (by first | omega | exact Nat.le_trans (wl_small (by decide)) (by decide))) (by rfl) ?_
  simp only [Act.put, List.setIfInBounds_toArray, List.set_cons_zero, List.set_cons_succ]
  refine wpPlan_nil (hT.out _ _ ?_); clear hT T
  intro G vw5 hg hf
  simp only [puts, Act.put, List.setIfInBounds_toArray, List.set_cons_zero, List.set_cons_succ, List.drop_succ_cons, List.drop_zero, ↓reduceIte, Nat.reduceEqDiff]
  clear lx3 lx5
  have HG := Lib.hid (hg)
  clear hg
  have bx6 := Bx.of_fresh hf (i := 9) (by decide) rfl
  have yx6 := (hf.1 9 (by decide)).1
  clear hf
  generalize G 9 = gx6 at *
  have qx1_6 : gx1 < gx6 := Nat.lt_of_lt_of_le BX1.out.lt yx6
  have qx2_6 : gx2 < gx6 := Nat.lt_of_lt_of_le BX2.out.lt yx6
  have qx3_6 : gx3 < gx6 := Nat.lt_of_lt_of_le BX3.out.lt yx6
  have qx5_6 : gx5 < gx6 := Nat.lt_of_lt_of_le BX5.out.lt yx6
  replace yx6 : w.heap.size ≤ gx6 := Nat.le_trans HB.out.size yx6
  have bx1 := BX1.out.gr HG.out; clear BX1
  have bx2 := BX2.out.gr HG.out; clear BX2
  have bx3 := BX3.out.gr HG.out; clear BX3
  have bx5 := BX5.out.gr HG.out; clear BX5
  have lx6 := bx6.cells; have fx6 := bx6.free
  have r0 := Gr.refl vw5
  have BX1 := Lib.hid bx1; clear bx1
  have BX2 := Lib.hid bx2; clear bx2
  have BX3 := Lib.hid bx3; clear bx3
  have BX5 := Lib.hid bx5; clear bx5
  have BX6 := Lib.hid bx6; clear bx6
  go_wp2
  refine hK.out _ _ ?_; clear hK K
  show Code.wp _ _ _ _ _
  clear lx6 fx6
  clear r0
  refine forgetW (fun w2 => Bx w2 gx1 38 #[.int .u64 ((lo (Int.natAbs ((u1).num)) : Nat) : Int), .string (bg (Int.natAbs ((u1).num))), .bool (decide (((u1).num) < 0)), .int .u64 ((lo ((u1).den - 1) : Nat) : Int), .string (bg ((u1).den - 1)), .int .u64 ((lo (Int.natAbs ((u2).num)) : Nat) : Int), .string (bg (Int.natAbs ((u2).num))), .bool (decide (((u2).num) < 0)), .int .u64 ((lo ((u2).den - 1) : Nat) : Int), .string (bg ((u2).den - 1))] ∧ Bx w2 gx2 38 #[.int .u64 ((lo (Int.natAbs ((u3).num)) : Nat) : Int), .string (bg (Int.natAbs ((u3).num))), .bool (decide (((u3).num) < 0)), .int .u64 ((lo ((u3).den - 1) : Nat) : Int), .string (bg ((u3).den - 1)), .int .u64 ((lo (Int.natAbs ((u4).num)) : Nat) : Int), .string (bg (Int.natAbs ((u4).num))), .bool (decide (((u4).num) < 0)), .int .u64 ((lo ((u4).den - 1) : Nat) : Int), .string (bg ((u4).den - 1))] ∧ Bx w2 gx6 38 #[.int .u64 ((lo (Int.natAbs ((u13).num)) : Nat) : Int), .string (bg (Int.natAbs ((u13).num))), .bool (decide (((u13).num) < 0)), .int .u64 ((lo ((u13).den - 1) : Nat) : Int), .string (bg ((u13).den - 1)), .int .u64 ((lo (Int.natAbs ((u14).num)) : Nat) : Int), .string (bg (Int.natAbs ((u14).num))), .bool (decide (((u14).num) < 0)), .int .u64 ((lo ((u14).den - 1) : Nat) : Int), .string (bg ((u14).den - 1))] ∧ Below w.heap.size w w2) ⟨((((((((((BX1.out).setOther (by show gx1 ≠ gx6; omega) _).setOther (by show gx1 ≠ gx6; omega) _).setOther (by show gx1 ≠ gx6; omega) _).setOther (by show gx1 ≠ gx6; omega) _).setOther (by show gx1 ≠ gx6; omega) _).setOther (by show gx1 ≠ gx6; omega) _).setOther (by show gx1 ≠ gx6; omega) _).setOther (by show gx1 ≠ gx6; omega) _).setOther (by show gx1 ≠ gx6; omega) _).setOther (by show gx1 ≠ gx6; omega) _, ((((((((((BX2.out).setOther (by show gx2 ≠ gx6; omega) _).setOther (by show gx2 ≠ gx6; omega) _).setOther (by show gx2 ≠ gx6; omega) _).setOther (by show gx2 ≠ gx6; omega) _).setOther (by show gx2 ≠ gx6; omega) _).setOther (by show gx2 ≠ gx6; omega) _).setOther (by show gx2 ≠ gx6; omega) _).setOther (by show gx2 ≠ gx6; omega) _).setOther (by show gx2 ≠ gx6; omega) _).setOther (by show gx2 ≠ gx6; omega) _, (((((((((((BX6.out).set 0 _).set 1 _).set 2 _).set 3 _).set 4 _).set 5 _).set 6 _).set 7 _).set 8 _).set 9 _).eq (by simp only [List.setIfInBounds_toArray, List.set_cons_zero, List.set_cons_succ]), ((((((((((HB.out.trans (HG.out.mono HB.out.size)).setCell (by show w.heap.size ≤ gx6; omega) _).setCell (by show w.heap.size ≤ gx6; omega) _).setCell (by show w.heap.size ≤ gx6; omega) _).setCell (by show w.heap.size ≤ gx6; omega) _).setCell (by show w.heap.size ≤ gx6; omega) _).setCell (by show w.heap.size ≤ gx6; omega) _).setCell (by show w.heap.size ≤ gx6; omega) _).setCell (by show w.heap.size ≤ gx6; omega) _).setCell (by show w.heap.size ≤ gx6; omega) _).setCell (by show w.heap.size ≤ gx6; omega) _⟩ ?_
  clear HB HG BX1 BX2 BX3 BX5 BX6
  rintro Wx6 ⟨bx1, bx2, bx6, HB⟩
  replace HB := Lib.hid HB
  refine wp_seq ?_
  -- region 7
  obtain ⟨u15, HZ15⟩ : ∃ z, Hid ((u3) + (u13) = z) := ⟨_, Lib.hid rfl⟩
  have su15 : sz u15 ≤ 18 := by rw [← HZ15.out]; have := sz_add (u3) (u13); omega
  obtain ⟨u16, HZ16⟩ : ∃ z, Hid ((u4) + (u14) = z) := ⟨_, Lib.hid rfl⟩
  have su16 : sz u16 ≤ 18 := by rw [← HZ16.out]; have := sz_add (u4) (u14); omega
  obtain ⟨u17, HZ17⟩ : ∃ z, Hid ((u1) + (u13) = z) := ⟨_, Lib.hid rfl⟩
  have su17 : sz u17 ≤ 18 := by rw [← HZ17.out]; have := sz_add (u1) (u13); omega
  obtain ⟨u18, HZ18⟩ : ∃ z, Hid ((u2) + (u14) = z) := ⟨_, Lib.hid rfl⟩
  have su18 : sz u18 ≤ 18 := by rw [← HZ18.out]; have := sz_add (u2) (u14); omega
  obtain ⟨u19, HZ19⟩ : ∃ z, Hid ((u3) + (u13) = z) := ⟨_, Lib.hid rfl⟩
  have su19 : sz u19 ≤ 18 := by rw [← HZ19.out]; have := sz_add (u3) (u13); omega
  obtain ⟨u20, HZ20⟩ : ∃ z, Hid ((u4) + (u14) = z) := ⟨_, Lib.hid rfl⟩
  have su20 : sz u20 ≤ 18 := by rw [← HZ20.out]; have := sz_add (u4) (u14); omega
  obtain ⟨u21, HZ21⟩ : ∃ z, Hid ((u1) + (u13) = z) := ⟨_, Lib.hid rfl⟩
  have su21 : sz u21 ≤ 18 := by rw [← HZ21.out]; have := sz_add (u1) (u13); omega
  obtain ⟨u22, HZ22⟩ : ∃ z, Hid ((u2) + (u14) = z) := ⟨_, Lib.hid rfl⟩
  have su22 : sz u22 ≤ 18 := by rw [← HZ22.out]; have := sz_add (u2) (u14); omega
  have lx1 := bx1.cells
  have lx2 := bx2.cells
  have lx6 := bx6.cells
  have BX1 := Lib.hid bx1
  have BX2 := Lib.hid bx2
  have BX6 := Lib.hid bx6
  clear bx1 bx2 bx6
  refine wp_seq_k fun K hK => ?_
  replace hK := Lib.hid hK
  refine wp_region_plan 21 [] [] (fun _ => 0) (fun _ => .cells #[] 0) [(true, 0), (true, 1), (true, 2), (true, 3), (true, 5), (true, 6), (true, 4), (true, 7), (true, 8), (true, 9), (true, 10), (true, 11), (true, 12), (true, 13), (true, 15), (true, 16), (true, 18), (true, 14), (true, 17), (true, 19), (true, 20)] (by kernel_rfl) (by kernel_rfl) (fun i hi => by cases hi) (fun i hi => by cases hi) (fun _ _ _ _ _ h => h) (fun T hT => ?_)
  iterate 6
    refine wpPlan_takeL (v := ?_) rfl (by rfl) (fun w' hw => ?_) ?_
    rotate_left
    · go_simp
      with_reducible rfl
    simp only [Act.put, List.setIfInBounds_toArray, List.set_cons_zero, List.set_cons_succ]
  refine wpPlan_callL rfl (by rfl) Try.call14 (fun w' hw => padd_any (u3) (u4) (u13) (u14) (u15) (u16) _ HZ15.out HZ16.out (by first | omega | exact Nat.le_trans (wl_small (by decide)) (by decide)) (by first | omega | exact Nat.le_trans (wl_small (by decide)) (by decide)) (by first | omega | exact Nat.le_trans (wl_small (by decide)) (by decide)) (by first | omega | exact Nat.le_trans (wl_small (by decide)) (by decide))) (by rfl) ?_
  simp only [Act.put, List.setIfInBounds_toArray, List.set_cons_zero, List.set_cons_succ]
  refine wpPlan_callL rfl (by rfl) Try.call14 (fun w' hw => padd_any (u1) (u2) (u13) (u14) (u17) (u18) _ HZ17.out HZ18.out (by first | omega | exact Nat.le_trans (wl_small (by decide)) (by decide)) (by first | omega | exact Nat.le_trans (wl_small (by decide)) (by decide)) (by first | omega | exact Nat.le_trans (wl_small (by decide)) (by decide)) (by first | omega | exact Nat.le_trans (wl_small (by decide)) (by decide))) (by rfl) ?_
  simp only [Act.put, List.setIfInBounds_toArray, List.set_cons_zero, List.set_cons_succ]
  refine wpPlan_callL rfl (by rfl) Try.call17 (fun w' hw => pcircle_any (u1) (u2) (u3) (u4) (u15) (u16) (u17) (u18) (0) (turn (u1) (u2) (u3) (u4) (u15) (u16)) (0) _ (by simp only [← HZ18.out, ← HZ17.out, ← HZ16.out, ← HZ15.out, ← HZ14.out, ← HZ13.out, ← HZ12.out, ← HZ11.out, ← HZ10.out]; rw [rect_1]; rfl) (rfl) (by rw [Int.zero_mul]; rfl) (by first | omega | exact Nat.le_trans (wl_small (by decide)) (by decide)) (by first | omega | exact Nat.le_trans (wl_small (by decide)) (by decide)) (by first | omega | exact Nat.le_trans (wl_small (by decide)) (by decide)) (by first | omega | exact Nat.le_trans (wl_small (by decide)) (by decide)) (by first | omega | exact Nat.le_trans (wl_small (by decide)) (by decide)) (by first | omega | exact Nat.le_trans (wl_small (by decide)) (by decide)) (by first | omega | exact Nat.le_trans (wl_small (by decide)) (by decide)) (by first | omega | exact Nat.le_trans (wl_small (by decide)) (by decide))) (by rfl) ?_
  simp only [Act.put, List.setIfInBounds_toArray, List.set_cons_zero, List.set_cons_succ]
  iterate 8
    refine wpPlan_takeL (v := ?_) rfl (by rfl) (fun w' hw => ?_) ?_
    rotate_left
    · go_simp
      with_reducible rfl
    simp only [Act.put, List.setIfInBounds_toArray, List.set_cons_zero, List.set_cons_succ]
  refine wpPlan_callL rfl (by rfl) Try.call14 (fun w' hw => padd_any (u3) (u4) (u13) (u14) (u19) (u20) _ HZ19.out HZ20.out (by first | omega | exact Nat.le_trans (wl_small (by decide)) (by decide)) (by first | omega | exact Nat.le_trans (wl_small (by decide)) (by decide)) (by first | omega | exact Nat.le_trans (wl_small (by decide)) (by decide)) (by first | omega | exact Nat.le_trans (wl_small (by decide)) (by decide))) (by rfl) ?_
  simp only [Act.put, List.setIfInBounds_toArray, List.set_cons_zero, List.set_cons_succ]
  refine wpPlan_callL rfl (by rfl) Try.call14 (fun w' hw => padd_any (u1) (u2) (u13) (u14) (u21) (u22) _ HZ21.out HZ22.out (by first | omega | exact Nat.le_trans (wl_small (by decide)) (by decide)) (by first | omega | exact Nat.le_trans (wl_small (by decide)) (by decide)) (by first | omega | exact Nat.le_trans (wl_small (by decide)) (by decide)) (by first | omega | exact Nat.le_trans (wl_small (by decide)) (by decide))) (by rfl) ?_
  simp only [Act.put, List.setIfInBounds_toArray, List.set_cons_zero, List.set_cons_succ]
  refine wpPlan_callL rfl (by rfl) Try.call17 (fun w' hw => pcircle_any (u3) (u4) (u19) (u20) (u21) (u22) (u1) (u2) (0) (turn (u3) (u4) (u19) (u20) (u21) (u22)) (0) _ (by simp only [← HZ22.out, ← HZ21.out, ← HZ20.out, ← HZ19.out, ← HZ18.out, ← HZ17.out, ← HZ16.out, ← HZ15.out, ← HZ14.out, ← HZ13.out, ← HZ12.out, ← HZ11.out, ← HZ10.out]; rw [rect_2]; rfl) (rfl) (by rw [Int.zero_mul]; rfl) (by first | omega | exact Nat.le_trans (wl_small (by decide)) (by decide)) (by first | omega | exact Nat.le_trans (wl_small (by decide)) (by decide)) (by first | omega | exact Nat.le_trans (wl_small (by decide)) (by decide)) (by first | omega | exact Nat.le_trans (wl_small (by decide)) (by decide)) (by first | omega | exact Nat.le_trans (wl_small (by decide)) (by decide)) (by first | omega | exact Nat.le_trans (wl_small (by decide)) (by decide)) (by first | omega | exact Nat.le_trans (wl_small (by decide)) (by decide)) (by first | omega | exact Nat.le_trans (wl_small (by decide)) (by decide))) (by rfl) ?_
  simp only [Act.put, List.setIfInBounds_toArray, List.set_cons_zero, List.set_cons_succ]
  iterate 1
    refine wpPlan_takeL (v := ?_) rfl (by rfl) (fun w' hw => ?_) ?_
    rotate_left
    · go_simp
      with_reducible rfl
    simp only [Act.put, List.setIfInBounds_toArray, List.set_cons_zero, List.set_cons_succ]
  refine wpPlan_nil (hT.out _ _ ?_); clear hT T
  intro G vw6 hg hf
  simp only [puts, Act.put, List.setIfInBounds_toArray, List.set_cons_zero, List.set_cons_succ, List.drop_succ_cons, List.drop_zero, ↓reduceIte, Nat.reduceEqDiff]
  clear lx1 lx2 lx6
  have HG := Lib.hid (hg)
  clear hg
  have bx1 := BX1.out.gr HG.out; clear BX1
  have bx2 := BX2.out.gr HG.out; clear BX2
  have bx6 := BX6.out.gr HG.out; clear BX6
  have r0 := Gr.refl vw6
  have BX1 := Lib.hid bx1; clear bx1
  have BX2 := Lib.hid bx2; clear bx2
  have BX6 := Lib.hid bx6; clear bx6
  go_wp2
  refine hK.out _ _ ?_; clear hK K
  show Code.wp _ _ _ _ _
  clear r0
  refine forgetW (fun w2 => Bx w2 gx1 38 #[.int .u64 ((lo (Int.natAbs ((u1).num)) : Nat) : Int), .string (bg (Int.natAbs ((u1).num))), .bool (decide (((u1).num) < 0)), .int .u64 ((lo ((u1).den - 1) : Nat) : Int), .string (bg ((u1).den - 1)), .int .u64 ((lo (Int.natAbs ((u2).num)) : Nat) : Int), .string (bg (Int.natAbs ((u2).num))), .bool (decide (((u2).num) < 0)), .int .u64 ((lo ((u2).den - 1) : Nat) : Int), .string (bg ((u2).den - 1))] ∧ Bx w2 gx2 38 #[.int .u64 ((lo (Int.natAbs ((u3).num)) : Nat) : Int), .string (bg (Int.natAbs ((u3).num))), .bool (decide (((u3).num) < 0)), .int .u64 ((lo ((u3).den - 1) : Nat) : Int), .string (bg ((u3).den - 1)), .int .u64 ((lo (Int.natAbs ((u4).num)) : Nat) : Int), .string (bg (Int.natAbs ((u4).num))), .bool (decide (((u4).num) < 0)), .int .u64 ((lo ((u4).den - 1) : Nat) : Int), .string (bg ((u4).den - 1))] ∧ Bx w2 gx6 38 #[.int .u64 ((lo (Int.natAbs ((u13).num)) : Nat) : Int), .string (bg (Int.natAbs ((u13).num))), .bool (decide (((u13).num) < 0)), .int .u64 ((lo ((u13).den - 1) : Nat) : Int), .string (bg ((u13).den - 1)), .int .u64 ((lo (Int.natAbs ((u14).num)) : Nat) : Int), .string (bg (Int.natAbs ((u14).num))), .bool (decide (((u14).num) < 0)), .int .u64 ((lo ((u14).den - 1) : Nat) : Int), .string (bg ((u14).den - 1))] ∧ Below w.heap.size w w2) ⟨BX1.out, BX2.out, BX6.out, HB.out.trans (HG.out.mono HB.out.size)⟩ ?_
  clear HB HG BX1 BX2 BX6
  rintro Wx7 ⟨bx1, bx2, bx6, HB⟩
  replace HB := Lib.hid HB
  refine wp_cond_false (by rfl) ?_
  refine wp_skip ?_
  show Code.wp _ _ _ _ _
  refine wp_seq ?_
  -- region 9
  obtain ⟨u23, HZ23⟩ : ∃ z, Hid ((u3) + (u13) = z) := ⟨_, Lib.hid rfl⟩
  have su23 : sz u23 ≤ 18 := by rw [← HZ23.out]; have := sz_add (u3) (u13); omega
  obtain ⟨u24, HZ24⟩ : ∃ z, Hid ((u4) + (u14) = z) := ⟨_, Lib.hid rfl⟩
  have su24 : sz u24 ≤ 18 := by rw [← HZ24.out]; have := sz_add (u4) (u14); omega
  have lx1 := bx1.cells
  have lx2 := bx2.cells
  have lx6 := bx6.cells
  have BX1 := Lib.hid bx1
  have BX2 := Lib.hid bx2
  have BX6 := Lib.hid bx6
  clear bx1 bx2 bx6
  refine wp_seq_k fun K hK => ?_
  replace hK := Lib.hid hK
  refine wp_region_plan 20 [] [] (fun _ => 0) (fun _ => .cells #[] 0) [(true, 0), (true, 1), (true, 2), (true, 3), (true, 4), (true, 5), (true, 6), (true, 7), (true, 8), (true, 9), (true, 10), (true, 11), (true, 13), (true, 14), (true, 15), (true, 12), (true, 16), (true, 17), (true, 18), (true, 19)] (by kernel_rfl) (by kernel_rfl) (fun i hi => by cases hi) (fun i hi => by cases hi) (fun _ _ _ _ _ h => h) (fun T hT => ?_)
  iterate 4
    refine wpPlan_takeL (v := ?_) rfl (by rfl) (fun w' hw => ?_) ?_
    rotate_left
    · go_simp
      with_reducible rfl
    simp only [Act.put, List.setIfInBounds_toArray, List.set_cons_zero, List.set_cons_succ]
  refine wpPlan_callL rfl (by rfl) Try.call14 (fun w' hw => padd_any (u3) (u4) (u13) (u14) (u23) (u24) _ HZ23.out HZ24.out (by first | omega | exact Nat.le_trans (wl_small (by decide)) (by decide)) (by first | omega | exact Nat.le_trans (wl_small (by decide)) (by decide)) (by first | omega | exact Nat.le_trans (wl_small (by decide)) (by decide)) (by first | omega | exact Nat.le_trans (wl_small (by decide)) (by decide))) (by rfl) ?_
  simp only [Act.put, List.setIfInBounds_toArray, List.set_cons_zero, List.set_cons_succ]
  refine wpPlan_callL rfl (by rfl) Try.call13 (fun w' hw => pturn_any (u1) (u2) (u3) (u4) (u23) (u24) (0) _ (by simp only [← HZ24.out, ← HZ23.out, ← HZ22.out, ← HZ21.out, ← HZ20.out, ← HZ19.out, ← HZ18.out, ← HZ17.out, ← HZ16.out, ← HZ15.out, ← HZ14.out, ← HZ13.out, ← HZ12.out, ← HZ11.out, ← HZ10.out, ← HZ8.out, ← HZ7.out, ← HZ6.out, ← HZ5.out, ← HZ4.out, ← HZ3.out, ← HZ2.out, ← HZ1.out]; exact htq.out) (by first | omega | exact Nat.le_trans (wl_small (by decide)) (by decide)) (by first | omega | exact Nat.le_trans (wl_small (by decide)) (by decide)) (by first | omega | exact Nat.le_trans (wl_small (by decide)) (by decide)) (by first | omega | exact Nat.le_trans (wl_small (by decide)) (by decide)) (by first | omega | exact Nat.le_trans (wl_small (by decide)) (by decide)) (by first | omega | exact Nat.le_trans (wl_small (by decide)) (by decide))) (by rfl) ?_
  simp only [Act.put, List.setIfInBounds_toArray, List.set_cons_zero, List.set_cons_succ]
  iterate 2
    refine wpPlan_takeL (v := ?_) rfl (by rfl) (fun w' hw => ?_) ?_
    rotate_left
    · go_simp
      with_reducible rfl
    simp only [Act.put, List.setIfInBounds_toArray, List.set_cons_zero, List.set_cons_succ]
  refine wpPlan_skipL rfl (by rfl) ?_
  simp only [Act.put, List.setIfInBounds_toArray, List.set_cons_zero, List.set_cons_succ]
  refine wpPlan_skipL rfl (by rfl) ?_
  simp only [Act.put, List.setIfInBounds_toArray, List.set_cons_zero, List.set_cons_succ]
  refine wpPlan_skipL rfl (by rfl) ?_
  simp only [Act.put, List.setIfInBounds_toArray, List.set_cons_zero, List.set_cons_succ]
  refine wpPlan_skipL rfl (by rfl) ?_
  simp only [Act.put, List.setIfInBounds_toArray, List.set_cons_zero, List.set_cons_succ]
  refine wpPlan_skipL rfl (by rfl) ?_
  simp only [Act.put, List.setIfInBounds_toArray, List.set_cons_zero, List.set_cons_succ]
  refine wpPlan_skipL rfl (by rfl) ?_
  simp only [Act.put, List.setIfInBounds_toArray, List.set_cons_zero, List.set_cons_succ]
  refine wpPlan_skipL rfl (by rfl) ?_
  simp only [Act.put, List.setIfInBounds_toArray, List.set_cons_zero, List.set_cons_succ]
  refine wpPlan_skipL rfl (by rfl) ?_
  simp only [Act.put, List.setIfInBounds_toArray, List.set_cons_zero, List.set_cons_succ]
  refine wpPlan_skipL rfl (by rfl) ?_
  simp only [Act.put, List.setIfInBounds_toArray, List.set_cons_zero, List.set_cons_succ]
  refine wpPlan_skipL rfl (by rfl) ?_
  simp only [Act.put, List.setIfInBounds_toArray, List.set_cons_zero, List.set_cons_succ]
  refine wpPlan_skipL rfl (by rfl) ?_
  simp only [Act.put, List.setIfInBounds_toArray, List.set_cons_zero, List.set_cons_succ]
  refine wpPlan_skipL rfl (by rfl) ?_
  simp only [Act.put, List.setIfInBounds_toArray, List.set_cons_zero, List.set_cons_succ]
  refine wpPlan_nil (hT.out _ _ ?_); clear hT T
  intro G vw7 hg hf
  simp only [puts, Act.put, List.setIfInBounds_toArray, List.set_cons_zero, List.set_cons_succ, List.drop_succ_cons, List.drop_zero, ↓reduceIte, Nat.reduceEqDiff]
  clear lx1 lx2 lx6
  have HG := Lib.hid (hg)
  clear hg
  have bx1 := BX1.out.gr HG.out; clear BX1
  have bx2 := BX2.out.gr HG.out; clear BX2
  have bx6 := BX6.out.gr HG.out; clear BX6
  have r0 := Gr.refl vw7
  have BX1 := Lib.hid bx1; clear bx1
  have BX2 := Lib.hid bx2; clear bx2
  have BX6 := Lib.hid bx6; clear bx6
  go_wp2
  refine hK.out _ _ ?_; clear hK K
  show Code.wp _ _ _ _ _
  clear r0
  refine forgetW (fun w2 => Below w.heap.size w w2) (HB.out.trans (HG.out.mono HB.out.size)) ?_
  clear HB HG BX1 BX2 BX6
  rintro Wx9 HB
  replace HB := Lib.hid HB
  refine wp_cond_false (by rfl) ?_
  refine wp_skip ?_
  show Code.wp _ _ _ _ _
  -- region 11
  refine wp_seq_k fun K hK => ?_
  replace hK := Lib.hid hK
  refine wp_region_seqplan 2 [(true, 0), (true, 1)] (by rfl) (by simp) (fun T hT => ?_)
  refine wpPlan_callL rfl (by rfl) Try.call16 (fun w' hw => lives_any _) (by rfl) ?_
  simp only [Act.put, List.setIfInBounds_toArray, List.set_cons_zero, List.set_cons_succ]
  iterate 1
    refine wpPlan_takeL (v := ?_) rfl (by rfl) (fun w' hw => ?_) ?_
    rotate_left
    · go_simp
      with_reducible rfl
    simp only [Act.put, List.setIfInBounds_toArray, List.set_cons_zero, List.set_cons_succ]
  refine wpPlan_nil (hT.out _ _ ?_); clear hT T
  intro vw8 hg
  simp only [puts, Act.put, List.setIfInBounds_toArray, List.set_cons_zero, List.set_cons_succ, List.drop_succ_cons, List.drop_zero, ↓reduceIte, Nat.reduceEqDiff]
  have HG := Lib.hid (hg)
  clear hg
  have r0 := Gr.refl vw8
  go_wp2
  refine hK.out _ _ ?_; clear hK K
  show Code.wp _ _ _ _ _
  clear r0
  refine forgetW (fun w2 => Below w.heap.size w w2) (HB.out.trans (HG.out.mono HB.out.size)) ?_
  clear HB HG
  rintro Wx11 HB
  replace HB := Lib.hid HB
  refine wp_ret ?_
  try simp only [Exit.then, Exit.inBlock]
  have r0 := Gr.refl Wx11
  exact bodyPost_ret (v := .bool true) (by simp [results, Try.results4, go_sem]) rfl ⟨rfl, HB.out⟩

set_option maxHeartbeats 8000000 in
theorem round_long (n0x d0x n0y d0y n1x d1x n1y d1y n2x d2x n2y d2y n3x d3x n3y d3y tq : Int) (w : World) (h1_0x : -9223372036854775808 ≤ n0x) (h2_0x : n0x ≤ 9223372036854775807) (h3_0x : 0 ≤ d0x) (h4_0x : d0x ≤ 4294967295) (h1_0y : -9223372036854775808 ≤ n0y) (h2_0y : n0y ≤ 9223372036854775807) (h3_0y : 0 ≤ d0y) (h4_0y : d0y ≤ 4294967295) (h1_1x : -9223372036854775808 ≤ n1x) (h2_1x : n1x ≤ 9223372036854775807) (h3_1x : 0 ≤ d1x) (h4_1x : d1x ≤ 4294967295) (h1_1y : -9223372036854775808 ≤ n1y) (h2_1y : n1y ≤ 9223372036854775807) (h3_1y : 0 ≤ d1y) (h4_1y : d1y ≤ 4294967295) (h1_2x : -9223372036854775808 ≤ n2x) (h2_2x : n2x ≤ 9223372036854775807) (h3_2x : 0 ≤ d2x) (h4_2x : d2x ≤ 4294967295) (h1_2y : -9223372036854775808 ≤ n2y) (h2_2y : n2y ≤ 9223372036854775807) (h3_2y : 0 ≤ d2y) (h4_2y : d2y ≤ 4294967295) (h1_3x : -9223372036854775808 ≤ n3x) (h2_3x : n3x ≤ 9223372036854775807) (h3_3x : 0 ≤ d3x) (h4_3x : d3x ≤ 4294967295) (h1_3y : -9223372036854775808 ≤ n3y) (h2_3y : n3y ≤ 9223372036854775807) (h3_3y : 0 ≤ d3y) (h4_3y : d3y ≤ 4294967295) (htq : Hid (tt (qv n0x d0x) (qv n0y d0y) (qv n1x d1x) (qv n1y d1y) (qv n2x d2x) = tq)) (hq9 : (tq == 0) = false) (hq9' : (tq != 0) = true) :
    Calls Try.prog 4 #[(Value.agg #[.int .i64 (n0x), .int .u32 (d0x), .int .i64 (n0y), .int .u32 (d0y), .int .i64 (n1x), .int .u32 (d1x), .int .i64 (n1y), .int .u32 (d1y), .int .i64 (n2x), .int .u32 (d2x), .int .i64 (n2y), .int .u32 (d2y), .int .i64 (n3x), .int .u32 (d3x), .int .i64 (n3y), .int .u32 (d3y)])] w fun e w' => e = .returned (.bool true) ∧ Below w.heap.size w w' := by
  go_enter Try.func4, Try.ntmps4
  -- region 0
  refine wp_seq_k fun K hK => ?_
  replace hK := Lib.hid hK
  refine wp_region_lit ?_
  go_wp2
  refine hK.out _ _ ?_; clear hK K
  show Code.wp _ _ _ _ _
  refine forgetW (fun w2 => Bx w2 (w.heap.size) 47 #[.int .i64 (n0x), .int .u32 (d0x), .int .i64 (n0y), .int .u32 (d0y), .int .i64 (n1x), .int .u32 (d1x), .int .i64 (n1y), .int .u32 (d1y), .int .i64 (n2x), .int .u32 (d2x), .int .i64 (n2y), .int .u32 (d2y), .int .i64 (n3x), .int .u32 (d3x), .int .i64 (n3y), .int .u32 (d3y)] ∧ Below w.heap.size w w2) ⟨Bx.at rfl, (Below.refl _ _).alloc (Nat.le_refl _) _⟩ ?_
  rintro Wx ⟨bx0, HB⟩
  replace HB := Lib.hid HB
  -- region 1
  obtain ⟨u1, HZ1⟩ : ∃ z, Hid (qv (n0x) (d0x) = z) := ⟨_, Lib.hid rfl⟩
  have su1 : sz u1 ≤ 4 := by rw [← HZ1.out]; exact sz_qv (n0x) (d0x) (by first | omega | exact Nat.le_trans (wl_small (by decide)) (by decide)) (by first | omega | exact Nat.le_trans (wl_small (by decide)) (by decide)) (by first | omega | exact Nat.le_trans (wl_small (by decide)) (by decide)) (by first | omega | exact Nat.le_trans (wl_small (by decide)) (by decide))
  obtain ⟨u2, HZ2⟩ : ∃ z, Hid (qv (n0y) (d0y) = z) := ⟨_, Lib.hid rfl⟩
  have su2 : sz u2 ≤ 4 := by rw [← HZ2.out]; exact sz_qv (n0y) (d0y) (by first | omega | exact Nat.le_trans (wl_small (by decide)) (by decide)) (by first | omega | exact Nat.le_trans (wl_small (by decide)) (by decide)) (by first | omega | exact Nat.le_trans (wl_small (by decide)) (by decide)) (by first | omega | exact Nat.le_trans (wl_small (by decide)) (by decide))
  obtain ⟨u3, HZ3⟩ : ∃ z, Hid (qv (n1x) (d1x) = z) := ⟨_, Lib.hid rfl⟩
  have su3 : sz u3 ≤ 4 := by rw [← HZ3.out]; exact sz_qv (n1x) (d1x) (by first | omega | exact Nat.le_trans (wl_small (by decide)) (by decide)) (by first | omega | exact Nat.le_trans (wl_small (by decide)) (by decide)) (by first | omega | exact Nat.le_trans (wl_small (by decide)) (by decide)) (by first | omega | exact Nat.le_trans (wl_small (by decide)) (by decide))
  obtain ⟨u4, HZ4⟩ : ∃ z, Hid (qv (n1y) (d1y) = z) := ⟨_, Lib.hid rfl⟩
  have su4 : sz u4 ≤ 4 := by rw [← HZ4.out]; exact sz_qv (n1y) (d1y) (by first | omega | exact Nat.le_trans (wl_small (by decide)) (by decide)) (by first | omega | exact Nat.le_trans (wl_small (by decide)) (by decide)) (by first | omega | exact Nat.le_trans (wl_small (by decide)) (by decide)) (by first | omega | exact Nat.le_trans (wl_small (by decide)) (by decide))
  obtain ⟨u5, HZ5⟩ : ∃ z, Hid (qv (n2x) (d2x) = z) := ⟨_, Lib.hid rfl⟩
  have su5 : sz u5 ≤ 4 := by rw [← HZ5.out]; exact sz_qv (n2x) (d2x) (by first | omega | exact Nat.le_trans (wl_small (by decide)) (by decide)) (by first | omega | exact Nat.le_trans (wl_small (by decide)) (by decide)) (by first | omega | exact Nat.le_trans (wl_small (by decide)) (by decide)) (by first | omega | exact Nat.le_trans (wl_small (by decide)) (by decide))
  obtain ⟨u6, HZ6⟩ : ∃ z, Hid (qv (n2y) (d2y) = z) := ⟨_, Lib.hid rfl⟩
  have su6 : sz u6 ≤ 4 := by rw [← HZ6.out]; exact sz_qv (n2y) (d2y) (by first | omega | exact Nat.le_trans (wl_small (by decide)) (by decide)) (by first | omega | exact Nat.le_trans (wl_small (by decide)) (by decide)) (by first | omega | exact Nat.le_trans (wl_small (by decide)) (by decide)) (by first | omega | exact Nat.le_trans (wl_small (by decide)) (by decide))
  obtain ⟨u7, HZ7⟩ : ∃ z, Hid (qv (n3x) (d3x) = z) := ⟨_, Lib.hid rfl⟩
  have su7 : sz u7 ≤ 4 := by rw [← HZ7.out]; exact sz_qv (n3x) (d3x) (by first | omega | exact Nat.le_trans (wl_small (by decide)) (by decide)) (by first | omega | exact Nat.le_trans (wl_small (by decide)) (by decide)) (by first | omega | exact Nat.le_trans (wl_small (by decide)) (by decide)) (by first | omega | exact Nat.le_trans (wl_small (by decide)) (by decide))
  obtain ⟨u8, HZ8⟩ : ∃ z, Hid (qv (n3y) (d3y) = z) := ⟨_, Lib.hid rfl⟩
  have su8 : sz u8 ≤ 4 := by rw [← HZ8.out]; exact sz_qv (n3y) (d3y) (by first | omega | exact Nat.le_trans (wl_small (by decide)) (by decide)) (by first | omega | exact Nat.le_trans (wl_small (by decide)) (by decide)) (by first | omega | exact Nat.le_trans (wl_small (by decide)) (by decide)) (by first | omega | exact Nat.le_trans (wl_small (by decide)) (by decide))
  have lx0 := bx0.cells
  have BX0 := Lib.hid bx0
  clear bx0
  refine wp_seq_k fun K hK => ?_
  replace hK := Lib.hid hK
  refine wp_region_plan 16 [12, 13, 14, 15] [] (fun i => if i = 12 then 3 else if i = 13 then 4 else if i = 14 then 5 else 6) (fun i => if i = 12 then .cells #[.int .u64 0, .string ⟨#[]⟩, .bool false, .int .u64 0, .string ⟨#[]⟩, .int .u64 0, .string ⟨#[]⟩, .bool false, .int .u64 0, .string ⟨#[]⟩] 38 else if i = 13 then .cells #[.int .u64 0, .string ⟨#[]⟩, .bool false, .int .u64 0, .string ⟨#[]⟩, .int .u64 0, .string ⟨#[]⟩, .bool false, .int .u64 0, .string ⟨#[]⟩] 38 else if i = 14 then .cells #[.int .u64 0, .string ⟨#[]⟩, .bool false, .int .u64 0, .string ⟨#[]⟩, .int .u64 0, .string ⟨#[]⟩, .bool false, .int .u64 0, .string ⟨#[]⟩] 38 else .cells #[.int .u64 0, .string ⟨#[]⟩, .bool false, .int .u64 0, .string ⟨#[]⟩, .int .u64 0, .string ⟨#[]⟩, .bool false, .int .u64 0, .string ⟨#[]⟩] 38) [(true, 0), (true, 1), (true, 3), (true, 4), (true, 6), (true, 7), (true, 9), (true, 10), (true, 2), (true, 5), (true, 8), (true, 11)] (by kernel_rfl) (by kernel_rfl) (by intro i hi; simp only [List.mem_cons, List.not_mem_nil, or_false] at hi; rcases hi with rfl | rfl | rfl | rfl <;> exact ⟨_, rfl, rfl, rfl, by simp, fun ρ w => by kernel_rfl⟩) (fun i hi => by cases hi) (fun _ _ _ _ _ h => h) (fun T hT => ?_)
  iterate 8
    refine wpPlan_takeL (v := ?_) rfl (by rfl) (fun w' hw => ?_) ?_
    rotate_left
    · go_simp
      with_reducible rfl
    simp only [Act.put, List.setIfInBounds_toArray, List.set_cons_zero, List.set_cons_succ]
  refine wpPlan_callL rfl (by rfl) Try.call7 (fun w' hw => pof_any (n0x) (d0x) (n0y) (d0y) (u1) (u2) _ HZ1.out HZ2.out (by first | omega | exact Nat.le_trans (wl_small (by decide)) (by decide)) (by first | omega | exact Nat.le_trans (wl_small (by decide)) (by decide)) (by first | omega | exact Nat.le_trans (wl_small (by decide)) (by decide)) (by first | omega | exact Nat.le_trans (wl_small (by decide)) (by decide)) (by first | omega | exact Nat.le_trans (wl_small (by decide)) (by decide)) (by first | omega | exact Nat.le_trans (wl_small (by decide)) (by decide)) (by first | omega | exact Nat.le_trans (wl_small (by decide)) (by decide)) (by first | omega | exact Nat.le_trans (wl_small (by decide)) (by decide))) (by rfl) ?_
  simp only [Act.put, List.setIfInBounds_toArray, List.set_cons_zero, List.set_cons_succ]
  refine wpPlan_callL rfl (by rfl) Try.call7 (fun w' hw => pof_any (n1x) (d1x) (n1y) (d1y) (u3) (u4) _ HZ3.out HZ4.out (by first | omega | exact Nat.le_trans (wl_small (by decide)) (by decide)) (by first | omega | exact Nat.le_trans (wl_small (by decide)) (by decide)) (by first | omega | exact Nat.le_trans (wl_small (by decide)) (by decide)) (by first | omega | exact Nat.le_trans (wl_small (by decide)) (by decide)) (by first | omega | exact Nat.le_trans (wl_small (by decide)) (by decide)) (by first | omega | exact Nat.le_trans (wl_small (by decide)) (by decide)) (by first | omega | exact Nat.le_trans (wl_small (by decide)) (by decide)) (by first | omega | exact Nat.le_trans (wl_small (by decide)) (by decide))) (by rfl) ?_
  simp only [Act.put, List.setIfInBounds_toArray, List.set_cons_zero, List.set_cons_succ]
  refine wpPlan_callL rfl (by rfl) Try.call7 (fun w' hw => pof_any (n2x) (d2x) (n2y) (d2y) (u5) (u6) _ HZ5.out HZ6.out (by first | omega | exact Nat.le_trans (wl_small (by decide)) (by decide)) (by first | omega | exact Nat.le_trans (wl_small (by decide)) (by decide)) (by first | omega | exact Nat.le_trans (wl_small (by decide)) (by decide)) (by first | omega | exact Nat.le_trans (wl_small (by decide)) (by decide)) (by first | omega | exact Nat.le_trans (wl_small (by decide)) (by decide)) (by first | omega | exact Nat.le_trans (wl_small (by decide)) (by decide)) (by first | omega | exact Nat.le_trans (wl_small (by decide)) (by decide)) (by first | omega | exact Nat.le_trans (wl_small (by decide)) (by decide))) (by rfl) ?_
  simp only [Act.put, List.setIfInBounds_toArray, List.set_cons_zero, List.set_cons_succ]
  refine wpPlan_callL rfl (by rfl) Try.call7 (fun w' hw => pof_any (n3x) (d3x) (n3y) (d3y) (u7) (u8) _ HZ7.out HZ8.out (by first | omega | exact Nat.le_trans (wl_small (by decide)) (by decide)) (by first | omega | exact Nat.le_trans (wl_small (by decide)) (by decide)) (by first | omega | exact Nat.le_trans (wl_small (by decide)) (by decide)) (by first | omega | exact Nat.le_trans (wl_small (by decide)) (by decide)) (by first | omega | exact Nat.le_trans (wl_small (by decide)) (by decide)) (by first | omega | exact Nat.le_trans (wl_small (by decide)) (by decide)) (by first | omega | exact Nat.le_trans (wl_small (by decide)) (by decide)) (by first | omega | exact Nat.le_trans (wl_small (by decide)) (by decide))) (by rfl) ?_
  simp only [Act.put, List.setIfInBounds_toArray, List.set_cons_zero, List.set_cons_succ]
  refine wpPlan_nil (hT.out _ _ ?_); clear hT T
  intro G vw1 hg hf
  simp only [puts, Act.put, List.setIfInBounds_toArray, List.set_cons_zero, List.set_cons_succ, List.drop_succ_cons, List.drop_zero, ↓reduceIte, Nat.reduceEqDiff]
  clear lx0
  have HG := Lib.hid (hg)
  clear hg
  have bx1 := Bx.of_fresh hf (i := 12) (by decide) rfl
  have yx1 := (hf.1 12 (by decide)).1
  have bx2 := Bx.of_fresh hf (i := 13) (by decide) rfl
  have yx2 := (hf.1 13 (by decide)).1
  have dx1_2 : G 12 ≠ G 13 := fun e => absurd (hf.2 12 (by decide) 13 (by decide) e) (by decide)
  have bx3 := Bx.of_fresh hf (i := 14) (by decide) rfl
  have yx3 := (hf.1 14 (by decide)).1
  have dx1_3 : G 12 ≠ G 14 := fun e => absurd (hf.2 12 (by decide) 14 (by decide) e) (by decide)
  have dx2_3 : G 13 ≠ G 14 := fun e => absurd (hf.2 13 (by decide) 14 (by decide) e) (by decide)
  have bx4 := Bx.of_fresh hf (i := 15) (by decide) rfl
  have yx4 := (hf.1 15 (by decide)).1
  have dx1_4 : G 12 ≠ G 15 := fun e => absurd (hf.2 12 (by decide) 15 (by decide) e) (by decide)
  have dx2_4 : G 13 ≠ G 15 := fun e => absurd (hf.2 13 (by decide) 15 (by decide) e) (by decide)
  have dx3_4 : G 14 ≠ G 15 := fun e => absurd (hf.2 14 (by decide) 15 (by decide) e) (by decide)
  clear hf
  generalize G 12 = gx1 at *
  generalize G 13 = gx2 at *
  generalize G 14 = gx3 at *
  generalize G 15 = gx4 at *
  have qx0_1 : w.heap.size < gx1 := Nat.lt_of_lt_of_le BX0.out.lt yx1
  have qx0_2 : w.heap.size < gx2 := Nat.lt_of_lt_of_le BX0.out.lt yx2
  have qx0_3 : w.heap.size < gx3 := Nat.lt_of_lt_of_le BX0.out.lt yx3
  have qx0_4 : w.heap.size < gx4 := Nat.lt_of_lt_of_le BX0.out.lt yx4
  replace yx1 : w.heap.size ≤ gx1 := Nat.le_trans HB.out.size yx1
  replace yx2 : w.heap.size ≤ gx2 := Nat.le_trans HB.out.size yx2
  replace yx3 : w.heap.size ≤ gx3 := Nat.le_trans HB.out.size yx3
  replace yx4 : w.heap.size ≤ gx4 := Nat.le_trans HB.out.size yx4
  have bx0 := BX0.out.gr HG.out; clear BX0
  have lx1 := bx1.cells; have fx1 := bx1.free
  have lx2 := bx2.cells; have fx2 := bx2.free
  have lx3 := bx3.cells; have fx3 := bx3.free
  have lx4 := bx4.cells; have fx4 := bx4.free
  have r0 := Gr.refl vw1
  have BX0 := Lib.hid bx0; clear bx0
  have BX1 := Lib.hid bx1; clear bx1
  have BX2 := Lib.hid bx2; clear bx2
  have BX3 := Lib.hid bx3; clear bx3
  have BX4 := Lib.hid bx4; clear bx4
  go_wp2
  refine hK.out _ _ ?_; clear hK K
  show Code.wp _ _ _ _ _
  clear lx1 fx1
  clear lx2 fx2
  clear lx3 fx3
  clear lx4 fx4
  clear r0
  refine forgetW (fun w2 => Bx w2 gx1 38 #[.int .u64 ((lo (Int.natAbs ((u1).num)) : Nat) : Int), .string (bg (Int.natAbs ((u1).num))), .bool (decide (((u1).num) < 0)), .int .u64 ((lo ((u1).den - 1) : Nat) : Int), .string (bg ((u1).den - 1)), .int .u64 ((lo (Int.natAbs ((u2).num)) : Nat) : Int), .string (bg (Int.natAbs ((u2).num))), .bool (decide (((u2).num) < 0)), .int .u64 ((lo ((u2).den - 1) : Nat) : Int), .string (bg ((u2).den - 1))] ∧ Bx w2 gx2 38 #[.int .u64 ((lo (Int.natAbs ((u3).num)) : Nat) : Int), .string (bg (Int.natAbs ((u3).num))), .bool (decide (((u3).num) < 0)), .int .u64 ((lo ((u3).den - 1) : Nat) : Int), .string (bg ((u3).den - 1)), .int .u64 ((lo (Int.natAbs ((u4).num)) : Nat) : Int), .string (bg (Int.natAbs ((u4).num))), .bool (decide (((u4).num) < 0)), .int .u64 ((lo ((u4).den - 1) : Nat) : Int), .string (bg ((u4).den - 1))] ∧ Bx w2 gx3 38 #[.int .u64 ((lo (Int.natAbs ((u5).num)) : Nat) : Int), .string (bg (Int.natAbs ((u5).num))), .bool (decide (((u5).num) < 0)), .int .u64 ((lo ((u5).den - 1) : Nat) : Int), .string (bg ((u5).den - 1)), .int .u64 ((lo (Int.natAbs ((u6).num)) : Nat) : Int), .string (bg (Int.natAbs ((u6).num))), .bool (decide (((u6).num) < 0)), .int .u64 ((lo ((u6).den - 1) : Nat) : Int), .string (bg ((u6).den - 1))] ∧ Bx w2 gx4 38 #[.int .u64 ((lo (Int.natAbs ((u7).num)) : Nat) : Int), .string (bg (Int.natAbs ((u7).num))), .bool (decide (((u7).num) < 0)), .int .u64 ((lo ((u7).den - 1) : Nat) : Int), .string (bg ((u7).den - 1)), .int .u64 ((lo (Int.natAbs ((u8).num)) : Nat) : Int), .string (bg (Int.natAbs ((u8).num))), .bool (decide (((u8).num) < 0)), .int .u64 ((lo ((u8).den - 1) : Nat) : Int), .string (bg ((u8).den - 1))] ∧ Below w.heap.size w w2) ⟨(((((((((((((((((((((((((((((((((((((((((BX1.out).set 0 _).set 1 _).set 2 _).set 3 _).set 4 _).set 5 _).set 6 _).set 7 _).set 8 _).set 9 _).setOther (by show gx1 ≠ gx2; omega) _).setOther (by show gx1 ≠ gx2; omega) _).setOther (by show gx1 ≠ gx2; omega) _).setOther (by show gx1 ≠ gx2; omega) _).setOther (by show gx1 ≠ gx2; omega) _).setOther (by show gx1 ≠ gx2; omega) _).setOther (by show gx1 ≠ gx2; omega) _).setOther (by show gx1 ≠ gx2; omega) _).setOther (by show gx1 ≠ gx2; omega) _).setOther (by show gx1 ≠ gx2; omega) _).setOther (by show gx1 ≠ gx3; omega) _).setOther (by show gx1 ≠ gx3; omega) _).setOther (by show gx1 ≠ gx3; omega) _).setOther (by show gx1 ≠ gx3; omega) _).setOther (by show gx1 ≠ gx3; omega) _).setOther (by show gx1 ≠ gx3; omega) _).setOther (by show gx1 ≠ gx3; omega) _).setOther (by show gx1 ≠ gx3; omega) _).setOther (by show gx1 ≠ gx3; omega) _).setOther (by show gx1 ≠ gx3; omega) _).setOther (by show gx1 ≠ gx4; omega) _).setOther (by show gx1 ≠ gx4; omega) _).setOther (by show gx1 ≠ gx4; omega) _).setOther (by show gx1 ≠ gx4; omega) _).setOther (by show gx1 ≠ gx4; omega) _).setOther (by show gx1 ≠ gx4; omega) _).setOther (by show gx1 ≠ gx4; omega) _).setOther (by show gx1 ≠ gx4; omega) _).setOther (by show gx1 ≠ gx4; omega) _).setOther (by show gx1 ≠ gx4; omega) _).eq (by simp only [List.setIfInBounds_toArray, List.set_cons_zero, List.set_cons_succ]), (((((((((((((((((((((((((((((((((((((((((BX2.out).setOther (by show gx2 ≠ gx1; omega) _).setOther (by show gx2 ≠ gx1; omega) _).setOther (by show gx2 ≠ gx1; omega) _).setOther (by show gx2 ≠ gx1; omega) _).setOther (by show gx2 ≠ gx1; omega) _).setOther (by show gx2 ≠ gx1; omega) _).setOther (by show gx2 ≠ gx1; omega) _).setOther (by show gx2 ≠ gx1; omega) _).setOther (by show gx2 ≠ gx1; omega) _).setOther (by show gx2 ≠ gx1; omega) _).set 0 _).set 1 _).set 2 _).set 3 _).set 4 _).set 5 _).set 6 _).set 7 _).set 8 _).set 9 _).setOther (by show gx2 ≠ gx3; omega) _).setOther (by show gx2 ≠ gx3; omega) _).setOther (by show gx2 ≠ gx3; omega) _).setOther (by show gx2 ≠ gx3; omega) _).setOther (by show gx2 ≠ gx3; omega) _).setOther (by show gx2 ≠ gx3; omega) _).setOther (by show gx2 ≠ gx3; omega) _).setOther (by show gx2 ≠ gx3; omega) _).setOther (by show gx2 ≠ gx3; omega) _).setOther (by show gx2 ≠ gx3; omega) _).setOther (by show gx2 ≠ gx4; omega) _).setOther (by show gx2 ≠ gx4; omega) _).setOther (by show gx2 ≠ gx4; omega) _).setOther (by show gx2 ≠ gx4; omega) _).setOther (by show gx2 ≠ gx4; omega) _).setOther (by show gx2 ≠ gx4; omega) _).setOther (by show gx2 ≠ gx4; omega) _).setOther (by show gx2 ≠ gx4; omega) _).setOther (by show gx2 ≠ gx4; omega) _).setOther (by show gx2 ≠ gx4; omega) _).eq (by simp only [List.setIfInBounds_toArray, List.set_cons_zero, List.set_cons_succ]), (((((((((((((((((((((((((((((((((((((((((BX3.out).setOther (by show gx3 ≠ gx1; omega) _).setOther (by show gx3 ≠ gx1; omega) _).setOther (by show gx3 ≠ gx1; omega) _).setOther (by show gx3 ≠ gx1; omega) _).setOther (by show gx3 ≠ gx1; omega) _).setOther (by show gx3 ≠ gx1; omega) _).setOther (by show gx3 ≠ gx1; omega) _).setOther (by show gx3 ≠ gx1; omega) _).setOther (by show gx3 ≠ gx1; omega) _).setOther (by show gx3 ≠ gx1; omega) _).setOther (by show gx3 ≠ gx2; omega) _).setOther (by show gx3 ≠ gx2; omega) _).setOther (by show gx3 ≠ gx2; omega) _).setOther (by show gx3 ≠ gx2; omega) _).setOther (by show gx3 ≠ gx2; omega) _).setOther (by show gx3 ≠ gx2; omega) _).setOther (by show gx3 ≠ gx2; omega) _).setOther (by show gx3 ≠ gx2; omega) _).setOther (by show gx3 ≠ gx2; omega) _).setOther (by show gx3 ≠ gx2; omega) _).set 0 _).set 1 _).set 2 _).set 3 _).set 4 _).set 5 _).set 6 _).set 7 _).set 8 _).set 9 _).setOther (by show gx3 ≠ gx4; omega) _).setOther (by show gx3 ≠ gx4; omega) _).setOther (by show gx3 ≠ gx4; omega) _).setOther (by show gx3 ≠ gx4; omega) _).setOther (by show gx3 ≠ gx4; omega) _).setOther (by show gx3 ≠ gx4; omega) _).setOther (by show gx3 ≠ gx4; omega) _).setOther (by show gx3 ≠ gx4; omega) _).setOther (by show gx3 ≠ gx4; omega) _).setOther (by show gx3 ≠ gx4; omega) _).eq (by simp only [List.setIfInBounds_toArray, List.set_cons_zero, List.set_cons_succ]), (((((((((((((((((((((((((((((((((((((((((BX4.out).setOther (by show gx4 ≠ gx1; omega) _).setOther (by show gx4 ≠ gx1; omega) _).setOther (by show gx4 ≠ gx1; omega) _).setOther (by show gx4 ≠ gx1; omega) _).setOther (by show gx4 ≠ gx1; omega) _).setOther (by show gx4 ≠ gx1; omega) _).setOther (by show gx4 ≠ gx1; omega) _).setOther (by show gx4 ≠ gx1; omega) _).setOther (by show gx4 ≠ gx1; omega) _).setOther (by show gx4 ≠ gx1; omega) _).setOther (by show gx4 ≠ gx2; omega) _).setOther (by show gx4 ≠ gx2; omega) _).setOther (by show gx4 ≠ gx2; omega) _).setOther (by show gx4 ≠ gx2; omega) _).setOther (by show gx4 ≠ gx2; omega) _).setOther (by show gx4 ≠ gx2; omega) _).setOther (by show gx4 ≠ gx2; omega) _).setOther (by show gx4 ≠ gx2; omega) _).setOther (by show gx4 ≠ gx2; omega) _).setOther (by show gx4 ≠ gx2; omega) _).setOther (by show gx4 ≠ gx3; omega) _).setOther (by show gx4 ≠ gx3; omega) _).setOther (by show gx4 ≠ gx3; omega) _).setOther (by show gx4 ≠ gx3; omega) _).setOther (by show gx4 ≠ gx3; omega) _).setOther (by show gx4 ≠ gx3; omega) _).setOther (by show gx4 ≠ gx3; omega) _).setOther (by show gx4 ≠ gx3; omega) _).setOther (by show gx4 ≠ gx3; omega) _).setOther (by show gx4 ≠ gx3; omega) _).set 0 _).set 1 _).set 2 _).set 3 _).set 4 _).set 5 _).set 6 _).set 7 _).set 8 _).set 9 _).eq (by simp only [List.setIfInBounds_toArray, List.set_cons_zero, List.set_cons_succ]), ((((((((((((((((((((((((((((((((((((((((HB.out.trans (HG.out.mono HB.out.size)).setCell (by show w.heap.size ≤ gx1; omega) _).setCell (by show w.heap.size ≤ gx1; omega) _).setCell (by show w.heap.size ≤ gx1; omega) _).setCell (by show w.heap.size ≤ gx1; omega) _).setCell (by show w.heap.size ≤ gx1; omega) _).setCell (by show w.heap.size ≤ gx1; omega) _).setCell (by show w.heap.size ≤ gx1; omega) _).setCell (by show w.heap.size ≤ gx1; omega) _).setCell (by show w.heap.size ≤ gx1; omega) _).setCell (by show w.heap.size ≤ gx1; omega) _).setCell (by show w.heap.size ≤ gx2; omega) _).setCell (by show w.heap.size ≤ gx2; omega) _).setCell (by show w.heap.size ≤ gx2; omega) _).setCell (by show w.heap.size ≤ gx2; omega) _).setCell (by show w.heap.size ≤ gx2; omega) _).setCell (by show w.heap.size ≤ gx2; omega) _).setCell (by show w.heap.size ≤ gx2; omega) _).setCell (by show w.heap.size ≤ gx2; omega) _).setCell (by show w.heap.size ≤ gx2; omega) _).setCell (by show w.heap.size ≤ gx2; omega) _).setCell (by show w.heap.size ≤ gx3; omega) _).setCell (by show w.heap.size ≤ gx3; omega) _).setCell (by show w.heap.size ≤ gx3; omega) _).setCell (by show w.heap.size ≤ gx3; omega) _).setCell (by show w.heap.size ≤ gx3; omega) _).setCell (by show w.heap.size ≤ gx3; omega) _).setCell (by show w.heap.size ≤ gx3; omega) _).setCell (by show w.heap.size ≤ gx3; omega) _).setCell (by show w.heap.size ≤ gx3; omega) _).setCell (by show w.heap.size ≤ gx3; omega) _).setCell (by show w.heap.size ≤ gx4; omega) _).setCell (by show w.heap.size ≤ gx4; omega) _).setCell (by show w.heap.size ≤ gx4; omega) _).setCell (by show w.heap.size ≤ gx4; omega) _).setCell (by show w.heap.size ≤ gx4; omega) _).setCell (by show w.heap.size ≤ gx4; omega) _).setCell (by show w.heap.size ≤ gx4; omega) _).setCell (by show w.heap.size ≤ gx4; omega) _).setCell (by show w.heap.size ≤ gx4; omega) _).setCell (by show w.heap.size ≤ gx4; omega) _⟩ ?_
  clear HB HG BX0 BX1 BX2 BX3 BX4
  rintro Wx1 ⟨bx1, bx2, bx3, bx4, HB⟩
  replace HB := Lib.hid HB
  -- region 2
  obtain ⟨s9, HS9⟩ : ∃ s, Hid (sgQ (incirc (u1) (u2) (u3) (u4) (u5) (u6) (u7) (u8)) = s) := ⟨_, Lib.hid rfl⟩
  obtain ⟨t9, HT9⟩ : ∃ t, Hid (turn (u1) (u2) (u3) (u4) (u5) (u6) = t) := ⟨_, Lib.hid rfl⟩
  obtain ⟨r9, HR9⟩ : ∃ r, Hid (IntKind.i64.wrap (s9 * t9) = r) := ⟨_, Lib.hid rfl⟩
  have lx1 := bx1.cells
  have lx2 := bx2.cells
  have lx3 := bx3.cells
  have lx4 := bx4.cells
  have BX1 := Lib.hid bx1
  have BX2 := Lib.hid bx2
  have BX3 := Lib.hid bx3
  have BX4 := Lib.hid bx4
  clear bx1 bx2 bx3 bx4
  refine wp_seq_k fun K hK => ?_
  replace hK := Lib.hid hK
  refine wp_region_seqplan 6 [(true, 0), (true, 1), (true, 2), (true, 3), (true, 4), (true, 5)] (by rfl) (by simp) (fun T hT => ?_)
  iterate 4
    refine wpPlan_takeL (v := ?_) rfl (by rfl) (fun w' hw => ?_) ?_
    rotate_left
    · go_simp
      with_reducible rfl
    simp only [Act.put, List.setIfInBounds_toArray, List.set_cons_zero, List.set_cons_succ]
  refine wpPlan_callL rfl (by rfl) Try.call17 (fun w' hw => pcircle_any (u1) (u2) (u3) (u4) (u5) (u6) (u7) (u8) (s9) (t9) (r9) _ (HS9.out) (HT9.out) (HR9.out) (by first | omega | exact Nat.le_trans (wl_small (by decide)) (by decide)) (by first | omega | exact Nat.le_trans (wl_small (by decide)) (by decide)) (by first | omega | exact Nat.le_trans (wl_small (by decide)) (by decide)) (by first | omega | exact Nat.le_trans (wl_small (by decide)) (by decide)) (by first | omega | exact Nat.le_trans (wl_small (by decide)) (by decide)) (by first | omega | exact Nat.le_trans (wl_small (by decide)) (by decide)) (by first | omega | exact Nat.le_trans (wl_small (by decide)) (by decide)) (by first | omega | exact Nat.le_trans (wl_small (by decide)) (by decide))) (by rfl) ?_
  simp only [Act.put, List.setIfInBounds_toArray, List.set_cons_zero, List.set_cons_succ]
  iterate 1
    refine wpPlan_takeL (v := ?_) rfl (by rfl) (fun w' hw => ?_) ?_
    rotate_left
    · go_simp
      with_reducible rfl
    simp only [Act.put, List.setIfInBounds_toArray, List.set_cons_zero, List.set_cons_succ]
  refine wpPlan_nil (hT.out _ _ ?_); clear hT T
  intro vw2 hg
  simp only [puts, Act.put, List.setIfInBounds_toArray, List.set_cons_zero, List.set_cons_succ, List.drop_succ_cons, List.drop_zero, ↓reduceIte, Nat.reduceEqDiff]
  clear lx1 lx2 lx3 lx4
  have HG := Lib.hid (hg)
  clear hg
  have bx1 := BX1.out.gr HG.out; clear BX1
  have bx2 := BX2.out.gr HG.out; clear BX2
  have bx3 := BX3.out.gr HG.out; clear BX3
  have bx4 := BX4.out.gr HG.out; clear BX4
  have r0 := Gr.refl vw2
  have BX1 := Lib.hid bx1; clear bx1
  have BX2 := Lib.hid bx2; clear bx2
  have BX3 := Lib.hid bx3; clear bx3
  have BX4 := Lib.hid bx4; clear bx4
  go_wp2
  refine hK.out _ _ ?_; clear hK K
  show Code.wp _ _ _ _ _
  clear r0
  refine forgetW (fun w2 => Bx w2 gx1 38 #[.int .u64 ((lo (Int.natAbs ((u1).num)) : Nat) : Int), .string (bg (Int.natAbs ((u1).num))), .bool (decide (((u1).num) < 0)), .int .u64 ((lo ((u1).den - 1) : Nat) : Int), .string (bg ((u1).den - 1)), .int .u64 ((lo (Int.natAbs ((u2).num)) : Nat) : Int), .string (bg (Int.natAbs ((u2).num))), .bool (decide (((u2).num) < 0)), .int .u64 ((lo ((u2).den - 1) : Nat) : Int), .string (bg ((u2).den - 1))] ∧ Bx w2 gx2 38 #[.int .u64 ((lo (Int.natAbs ((u3).num)) : Nat) : Int), .string (bg (Int.natAbs ((u3).num))), .bool (decide (((u3).num) < 0)), .int .u64 ((lo ((u3).den - 1) : Nat) : Int), .string (bg ((u3).den - 1)), .int .u64 ((lo (Int.natAbs ((u4).num)) : Nat) : Int), .string (bg (Int.natAbs ((u4).num))), .bool (decide (((u4).num) < 0)), .int .u64 ((lo ((u4).den - 1) : Nat) : Int), .string (bg ((u4).den - 1))] ∧ Bx w2 gx3 38 #[.int .u64 ((lo (Int.natAbs ((u5).num)) : Nat) : Int), .string (bg (Int.natAbs ((u5).num))), .bool (decide (((u5).num) < 0)), .int .u64 ((lo ((u5).den - 1) : Nat) : Int), .string (bg ((u5).den - 1)), .int .u64 ((lo (Int.natAbs ((u6).num)) : Nat) : Int), .string (bg (Int.natAbs ((u6).num))), .bool (decide (((u6).num) < 0)), .int .u64 ((lo ((u6).den - 1) : Nat) : Int), .string (bg ((u6).den - 1))] ∧ Bx w2 gx4 38 #[.int .u64 ((lo (Int.natAbs ((u7).num)) : Nat) : Int), .string (bg (Int.natAbs ((u7).num))), .bool (decide (((u7).num) < 0)), .int .u64 ((lo ((u7).den - 1) : Nat) : Int), .string (bg ((u7).den - 1)), .int .u64 ((lo (Int.natAbs ((u8).num)) : Nat) : Int), .string (bg (Int.natAbs ((u8).num))), .bool (decide (((u8).num) < 0)), .int .u64 ((lo ((u8).den - 1) : Nat) : Int), .string (bg ((u8).den - 1))] ∧ Below w.heap.size w w2) ⟨BX1.out, BX2.out, BX3.out, BX4.out, HB.out.trans (HG.out.mono HB.out.size)⟩ ?_
  clear HB HG BX1 BX2 BX3 BX4
  rintro Wx2 ⟨bx1, bx2, bx3, bx4, HB⟩
  replace HB := Lib.hid HB
  refine wp_seq ?_
  -- region 3
  have lx1 := bx1.cells
  have lx2 := bx2.cells
  have lx3 := bx3.cells
  have lx4 := bx4.cells
  have BX1 := Lib.hid bx1
  have BX2 := Lib.hid bx2
  have BX3 := Lib.hid bx3
  have BX4 := Lib.hid bx4
  clear bx1 bx2 bx3 bx4
  refine wp_seq_k fun K hK => ?_
  replace hK := Lib.hid hK
  refine wp_region_seqplan 40 [(true, 0), (true, 1), (true, 2), (true, 3), (true, 4), (true, 5), (true, 6), (true, 7), (true, 8), (true, 9), (true, 10), (true, 11), (true, 12), (true, 13), (true, 14), (true, 15), (true, 16), (true, 17), (true, 18), (true, 19), (true, 20), (true, 21), (true, 22), (true, 23), (true, 24), (true, 25), (true, 26), (true, 27), (true, 28), (true, 29), (true, 30), (true, 31), (true, 32), (true, 33), (true, 34), (true, 35), (true, 36), (true, 37), (true, 38), (true, 39)] (by rfl) (by simp) (fun T hT => ?_)
  iterate 4
    refine wpPlan_takeL (v := ?_) rfl (by rfl) (fun w' hw => ?_) ?_
    rotate_left
    · go_simp
      with_reducible rfl
    simp only [Act.put, List.setIfInBounds_toArray, List.set_cons_zero, List.set_cons_succ]
  refine wpPlan_callL rfl (by rfl) Try.call17 (fun w' hw => pcircle_any (u3) (u4) (u5) (u6) (u1) (u2) (u7) (u8) (s9) (t9) (r9) _ (by rw [← HS9.out]; exact congrArg sgQ (incirc_rot _ _ _ _ _ _ _ _)) (by rw [← HT9.out]; exact turn_rot _ _ _ _ _ _) (HR9.out) (by first | omega | exact Nat.le_trans (wl_small (by decide)) (by decide)) (by first | omega | exact Nat.le_trans (wl_small (by decide)) (by decide)) (by first | omega | exact Nat.le_trans (wl_small (by decide)) (by decide)) (by first | omega | exact Nat.le_trans (wl_small (by decide)) (by decide)) (by first | omega | exact Nat.le_trans (wl_small (by decide)) (by decide)) (by first | omega | exact Nat.le_trans (wl_small (by decide)) (by decide)) (by first | omega | exact Nat.le_trans (wl_small (by decide)) (by decide)) (by first | omega | exact Nat.le_trans (wl_small (by decide)) (by decide))) (by rfl) ?_
  simp only [Act.put, List.setIfInBounds_toArray, List.set_cons_zero, List.set_cons_succ]
  iterate 7
    refine wpPlan_takeL (v := ?_) rfl (by rfl) (fun w' hw => ?_) ?_
    rotate_left
    · go_simp
      with_reducible rfl
    simp only [Act.put, List.setIfInBounds_toArray, List.set_cons_zero, List.set_cons_succ]
  refine wpPlan_callL rfl (by rfl) Try.call17 (fun w' hw => pcircle_any (u3) (u4) (u1) (u2) (u5) (u6) (u7) (u8) (-s9) (-t9) (r9) _ (by rw [← HS9.out, incirc_swap]; exact sgQ_negate _) (by rw [← HT9.out]; exact turn_swap _ _ _ _ _ _) (by rw [Int.neg_mul_neg]; exact HR9.out) (by first | omega | exact Nat.le_trans (wl_small (by decide)) (by decide)) (by first | omega | exact Nat.le_trans (wl_small (by decide)) (by decide)) (by first | omega | exact Nat.le_trans (wl_small (by decide)) (by decide)) (by first | omega | exact Nat.le_trans (wl_small (by decide)) (by decide)) (by first | omega | exact Nat.le_trans (wl_small (by decide)) (by decide)) (by first | omega | exact Nat.le_trans (wl_small (by decide)) (by decide)) (by first | omega | exact Nat.le_trans (wl_small (by decide)) (by decide)) (by first | omega | exact Nat.le_trans (wl_small (by decide)) (by decide))) (by rfl) ?_
  simp only [Act.put, List.setIfInBounds_toArray, List.set_cons_zero, List.set_cons_succ]
  iterate 8
    refine wpPlan_takeL (v := ?_) rfl (by rfl) (fun w' hw => ?_) ?_
    rotate_left
    · go_simp
      with_reducible rfl
    simp only [Act.put, List.setIfInBounds_toArray, List.set_cons_zero, List.set_cons_succ]
  refine wpPlan_callL rfl (by rfl) Try.call17 (fun w' hw => pcircle_any (u1) (u2) (u3) (u4) (u5) (u6) (u1) (u2) (0) (t9) (0) _ (by rw [incirc_a]; rfl) (HT9.out) (by rw [Int.zero_mul]; rfl) (by first | omega | exact Nat.le_trans (wl_small (by decide)) (by decide)) (by first | omega | exact Nat.le_trans (wl_small (by decide)) (by decide)) (by first | omega | exact Nat.le_trans (wl_small (by decide)) (by decide)) (by first | omega | exact Nat.le_trans (wl_small (by decide)) (by decide)) (by first | omega | exact Nat.le_trans (wl_small (by decide)) (by decide)) (by first | omega | exact Nat.le_trans (wl_small (by decide)) (by decide)) (by first | omega | exact Nat.le_trans (wl_small (by decide)) (by decide)) (by first | omega | exact Nat.le_trans (wl_small (by decide)) (by decide))) (by rfl) ?_
  simp only [Act.put, List.setIfInBounds_toArray, List.set_cons_zero, List.set_cons_succ]
  iterate 7
    refine wpPlan_takeL (v := ?_) rfl (by rfl) (fun w' hw => ?_) ?_
    rotate_left
    · go_simp
      with_reducible rfl
    simp only [Act.put, List.setIfInBounds_toArray, List.set_cons_zero, List.set_cons_succ]
  refine wpPlan_callL rfl (by rfl) Try.call17 (fun w' hw => pcircle_any (u1) (u2) (u3) (u4) (u5) (u6) (u3) (u4) (0) (t9) (0) _ (by rw [incirc_b]; rfl) (HT9.out) (by rw [Int.zero_mul]; rfl) (by first | omega | exact Nat.le_trans (wl_small (by decide)) (by decide)) (by first | omega | exact Nat.le_trans (wl_small (by decide)) (by decide)) (by first | omega | exact Nat.le_trans (wl_small (by decide)) (by decide)) (by first | omega | exact Nat.le_trans (wl_small (by decide)) (by decide)) (by first | omega | exact Nat.le_trans (wl_small (by decide)) (by decide)) (by first | omega | exact Nat.le_trans (wl_small (by decide)) (by decide)) (by first | omega | exact Nat.le_trans (wl_small (by decide)) (by decide)) (by first | omega | exact Nat.le_trans (wl_small (by decide)) (by decide))) (by rfl) ?_
  simp only [Act.put, List.setIfInBounds_toArray, List.set_cons_zero, List.set_cons_succ]
  iterate 7
    refine wpPlan_takeL (v := ?_) rfl (by rfl) (fun w' hw => ?_) ?_
    rotate_left
    · go_simp
      with_reducible rfl
    simp only [Act.put, List.setIfInBounds_toArray, List.set_cons_zero, List.set_cons_succ]
  refine wpPlan_callL rfl (by rfl) Try.call17 (fun w' hw => pcircle_any (u1) (u2) (u3) (u4) (u5) (u6) (u5) (u6) (0) (t9) (0) _ (by rw [incirc_c]; rfl) (HT9.out) (by rw [Int.zero_mul]; rfl) (by first | omega | exact Nat.le_trans (wl_small (by decide)) (by decide)) (by first | omega | exact Nat.le_trans (wl_small (by decide)) (by decide)) (by first | omega | exact Nat.le_trans (wl_small (by decide)) (by decide)) (by first | omega | exact Nat.le_trans (wl_small (by decide)) (by decide)) (by first | omega | exact Nat.le_trans (wl_small (by decide)) (by decide)) (by first | omega | exact Nat.le_trans (wl_small (by decide)) (by decide)) (by first | omega | exact Nat.le_trans (wl_small (by decide)) (by decide)) (by first | omega | exact Nat.le_trans (wl_small (by decide)) (by decide))) (by rfl) ?_
  simp only [Act.put, List.setIfInBounds_toArray, List.set_cons_zero, List.set_cons_succ]
  iterate 2
    refine wpPlan_takeL (v := ?_) rfl (by rfl) (fun w' hw => ?_) ?_
    rotate_left
    · go_simp
      with_reducible rfl
    simp only [Act.put, List.setIfInBounds_toArray, List.set_cons_zero, List.set_cons_succ]
  refine wpPlan_nil (hT.out _ _ ?_); clear hT T
  intro vw3 hg
  simp only [puts, Act.put, List.setIfInBounds_toArray, List.set_cons_zero, List.set_cons_succ, List.drop_succ_cons, List.drop_zero, ↓reduceIte, Nat.reduceEqDiff]
  clear lx1 lx2 lx3 lx4
  have HG := Lib.hid (hg)
  clear hg
  have bx1 := BX1.out.gr HG.out; clear BX1
  have bx2 := BX2.out.gr HG.out; clear BX2
  have bx3 := BX3.out.gr HG.out; clear BX3
  have bx4 := BX4.out.gr HG.out; clear BX4
  have r0 := Gr.refl vw3
  have BX1 := Lib.hid bx1; clear bx1
  have BX2 := Lib.hid bx2; clear bx2
  have BX3 := Lib.hid bx3; clear bx3
  have BX4 := Lib.hid bx4; clear bx4
  go_wp2
  refine hK.out _ _ ?_; clear hK K
  show Code.wp _ _ _ _ _
  clear r0
  refine forgetW (fun w2 => Bx w2 gx1 38 #[.int .u64 ((lo (Int.natAbs ((u1).num)) : Nat) : Int), .string (bg (Int.natAbs ((u1).num))), .bool (decide (((u1).num) < 0)), .int .u64 ((lo ((u1).den - 1) : Nat) : Int), .string (bg ((u1).den - 1)), .int .u64 ((lo (Int.natAbs ((u2).num)) : Nat) : Int), .string (bg (Int.natAbs ((u2).num))), .bool (decide (((u2).num) < 0)), .int .u64 ((lo ((u2).den - 1) : Nat) : Int), .string (bg ((u2).den - 1))] ∧ Bx w2 gx2 38 #[.int .u64 ((lo (Int.natAbs ((u3).num)) : Nat) : Int), .string (bg (Int.natAbs ((u3).num))), .bool (decide (((u3).num) < 0)), .int .u64 ((lo ((u3).den - 1) : Nat) : Int), .string (bg ((u3).den - 1)), .int .u64 ((lo (Int.natAbs ((u4).num)) : Nat) : Int), .string (bg (Int.natAbs ((u4).num))), .bool (decide (((u4).num) < 0)), .int .u64 ((lo ((u4).den - 1) : Nat) : Int), .string (bg ((u4).den - 1))] ∧ Bx w2 gx3 38 #[.int .u64 ((lo (Int.natAbs ((u5).num)) : Nat) : Int), .string (bg (Int.natAbs ((u5).num))), .bool (decide (((u5).num) < 0)), .int .u64 ((lo ((u5).den - 1) : Nat) : Int), .string (bg ((u5).den - 1)), .int .u64 ((lo (Int.natAbs ((u6).num)) : Nat) : Int), .string (bg (Int.natAbs ((u6).num))), .bool (decide (((u6).num) < 0)), .int .u64 ((lo ((u6).den - 1) : Nat) : Int), .string (bg ((u6).den - 1))] ∧ Below w.heap.size w w2) ⟨BX1.out, BX2.out, BX3.out, HB.out.trans (HG.out.mono HB.out.size)⟩ ?_
  clear HB HG BX1 BX2 BX3 BX4
  rintro Wx3 ⟨bx1, bx2, bx3, HB⟩
  replace HB := Lib.hid HB
  refine wp_cond_false (by rfl) ?_
  refine wp_skip ?_
  show Code.wp _ _ _ _ _
  -- region 5
  obtain ⟨u10, HZ10⟩ : ∃ z, Hid ((u3) - (u1) = z) := ⟨_, Lib.hid rfl⟩
  have su10 : sz u10 ≤ 9 := by rw [← HZ10.out]; have := sz_sub (u3) (u1); omega
  obtain ⟨u11, HZ11⟩ : ∃ z, Hid ((u4) - (u2) = z) := ⟨_, Lib.hid rfl⟩
  have su11 : sz u11 ≤ 9 := by rw [← HZ11.out]; have := sz_sub (u4) (u2); omega
  have lx1 := bx1.cells
  have lx2 := bx2.cells
  have BX1 := Lib.hid bx1
  have BX2 := Lib.hid bx2
  have BX3 := Lib.hid bx3
  clear bx1 bx2 bx3
  refine wp_seq_k fun K hK => ?_
  replace hK := Lib.hid hK
  refine wp_region_seqplan 3 [(true, 0), (true, 1), (true, 2)] (by rfl) (by simp) (fun T hT => ?_)
  iterate 2
    refine wpPlan_takeL (v := ?_) rfl (by rfl) (fun w' hw => ?_) ?_
    rotate_left
    · go_simp
      with_reducible rfl
    simp only [Act.put, List.setIfInBounds_toArray, List.set_cons_zero, List.set_cons_succ]
  refine wpPlan_callL rfl (by rfl) Try.call8 (fun w' hw => psub_any (u3) (u4) (u1) (u2) (u10) (u11) _ HZ10.out HZ11.out (by first | omega | exact Nat.le_trans (wl_small (by decide)) (by decide)) (by first | omega | exact Nat.le_trans (wl_small (by decide)) (by decide)) (by first | omega | exact Nat.le_trans (wl_small (by decide)) (by decide)) (by first | omega | exact Nat.le_trans (wl_small (by decide)) (by decide))) (by rfl) ?_
  simp only [Act.put, List.setIfInBounds_toArray, List.set_cons_zero, List.set_cons_succ]
  refine wpPlan_nil (hT.out _ _ ?_); clear hT T
  intro vw4 hg
  simp only [puts, Act.put, List.setIfInBounds_toArray, List.set_cons_zero, List.set_cons_succ, List.drop_succ_cons, List.drop_zero, ↓reduceIte, Nat.reduceEqDiff]
  clear lx1 lx2
  have HG := Lib.hid (hg)
  clear hg
  have bx1 := BX1.out.gr HG.out; clear BX1
  have bx2 := BX2.out.gr HG.out; clear BX2
  have bx3 := BX3.out.gr HG.out; clear BX3
  have r0 := Gr.refl vw4
  have BX1 := Lib.hid bx1; clear bx1
  have BX2 := Lib.hid bx2; clear bx2
  have BX3 := Lib.hid bx3; clear bx3
  go_wp2
  refine hK.out _ _ ?_; clear hK K
  show Code.wp _ _ _ _ _
  clear r0
  have hsz : w.heap.size ≤ vw4.heap.size := Nat.le_trans HB.out.size HG.out.size
  have mx1 : gx1 < vw4.heap.size := BX1.out.lt
  have mx2 : gx2 < vw4.heap.size := BX2.out.lt
  have mx3 : gx3 < vw4.heap.size := BX3.out.lt
  refine forgetW (fun w2 => Bx w2 gx1 38 #[.int .u64 ((lo (Int.natAbs ((u1).num)) : Nat) : Int), .string (bg (Int.natAbs ((u1).num))), .bool (decide (((u1).num) < 0)), .int .u64 ((lo ((u1).den - 1) : Nat) : Int), .string (bg ((u1).den - 1)), .int .u64 ((lo (Int.natAbs ((u2).num)) : Nat) : Int), .string (bg (Int.natAbs ((u2).num))), .bool (decide (((u2).num) < 0)), .int .u64 ((lo ((u2).den - 1) : Nat) : Int), .string (bg ((u2).den - 1))] ∧ Bx w2 gx2 38 #[.int .u64 ((lo (Int.natAbs ((u3).num)) : Nat) : Int), .string (bg (Int.natAbs ((u3).num))), .bool (decide (((u3).num) < 0)), .int .u64 ((lo ((u3).den - 1) : Nat) : Int), .string (bg ((u3).den - 1)), .int .u64 ((lo (Int.natAbs ((u4).num)) : Nat) : Int), .string (bg (Int.natAbs ((u4).num))), .bool (decide (((u4).num) < 0)), .int .u64 ((lo ((u4).den - 1) : Nat) : Int), .string (bg ((u4).den - 1))] ∧ Bx w2 gx3 38 #[.int .u64 ((lo (Int.natAbs ((u5).num)) : Nat) : Int), .string (bg (Int.natAbs ((u5).num))), .bool (decide (((u5).num) < 0)), .int .u64 ((lo ((u5).den - 1) : Nat) : Int), .string (bg ((u5).den - 1)), .int .u64 ((lo (Int.natAbs ((u6).num)) : Nat) : Int), .string (bg (Int.natAbs ((u6).num))), .bool (decide (((u6).num) < 0)), .int .u64 ((lo ((u6).den - 1) : Nat) : Int), .string (bg ((u6).den - 1))] ∧ Bx w2 (vw4.heap.size) 38 #[.int .u64 ((lo (Int.natAbs ((u10).num)) : Nat) : Int), .string (bg (Int.natAbs ((u10).num))), .bool (decide (((u10).num) < 0)), .int .u64 ((lo ((u10).den - 1) : Nat) : Int), .string (bg ((u10).den - 1)), .int .u64 ((lo (Int.natAbs ((u11).num)) : Nat) : Int), .string (bg (Int.natAbs ((u11).num))), .bool (decide (((u11).num) < 0)), .int .u64 ((lo ((u11).den - 1) : Nat) : Int), .string (bg ((u11).den - 1))] ∧ Below w.heap.size w w2) ⟨(BX1.out).alloc _, (BX2.out).alloc _, (BX3.out).alloc _, (Bx.at (by simp) : Bx _ (vw4.heap.size) _ _), (HB.out.trans (HG.out.mono HB.out.size)).alloc (by first | omega | (simp; omega)) _⟩ ?_
  clear HB HG BX1 BX2 BX3
  rintro Wx5 ⟨bx1, bx2, bx3, bx5, HB⟩
  replace HB := Lib.hid HB
  have yx5 : w.heap.size ≤ vw4.heap.size := by omega
  have qx1_5 : gx1 < vw4.heap.size := by omega
  have qx2_5 : gx2 < vw4.heap.size := by omega
  have qx3_5 : gx3 < vw4.heap.size := by omega
  generalize hx5 : vw4.heap.size = gx5 at *
  clear hx5
  clear hsz mx1 mx2 mx3
  -- region 6
  obtain ⟨u12, HZ12⟩ : ∃ z, Hid (-(u11) = z) := ⟨_, Lib.hid rfl⟩
  have su12 : sz u12 ≤ 9 := by rw [← HZ12.out]; rw [sz_neg]; omega
  obtain ⟨u13, HZ13⟩ : ∃ z, Hid ((u12) * (u5) = z) := ⟨_, Lib.hid rfl⟩
  have su13 : sz u13 ≤ 13 := by rw [← HZ13.out]; have := sz_mul (u12) (u5); omega
  obtain ⟨u14, HZ14⟩ : ∃ z, Hid ((u10) * (u5) = z) := ⟨_, Lib.hid rfl⟩
  have su14 : sz u14 ≤ 13 := by rw [← HZ14.out]; have := sz_mul (u10) (u5); omega
  have lx3 := bx3.cells
  have lx5 := bx5.cells
  have BX1 := Lib.hid bx1
  have BX2 := Lib.hid bx2
  have BX3 := Lib.hid bx3
  have BX5 := Lib.hid bx5
  clear bx1 bx2 bx3 bx5
  refine wp_seq_k fun K hK => ?_
  replace hK := Lib.hid hK
  refine wp_region_plan 10 [9] [] (fun _ => 9) (fun _ => .cells #[.int .u64 0, .string ⟨#[]⟩, .bool false, .int .u64 0, .string ⟨#[]⟩, .int .u64 0, .string ⟨#[]⟩, .bool false, .int .u64 0, .string ⟨#[]⟩] 38) [(true, 0), (true, 1), (true, 3), (true, 4), (true, 6), (true, 7), (true, 2), (true, 5), (true, 8)] (by kernel_rfl) (by kernel_rfl) (by intro i hi; simp only [List.mem_cons, List.not_mem_nil, or_false] at hi; rcases hi with rfl <;> exact ⟨_, rfl, rfl, rfl, by simp, fun ρ w => by kernel_rfl⟩) (fun i hi => by cases hi) (fun _ _ _ _ _ h => h) (fun T hT => ?_)
  iterate 6
    refine wpPlan_takeL (v := ?_) rfl (by rfl) (fun w' hw => ?_) ?_
    rotate_left
    · go_simp
      with_reducible rfl
    simp only [Act.put, List.setIfInBounds_toArray, List.set_cons_zero, List.set_cons_succ]
  refine wpPlan_callL rfl (by rfl) Try.call19 (fun w' hw => fneg_any (u11) (u12) _ HZ12.out) (by rfl) ?_
  simp only [Act.put, List.setIfInBounds_toArray, List.set_cons_zero, List.set_cons_succ]
  iterate 1
    refine wpPlan_takeL (v := ?_) rfl (by rfl) (fun w' hw => ?_) ?_
    rotate_left
    · go_simp
      with_reducible rfl
    simp only [Act.put, List.setIfInBounds_toArray, List.set_cons_zero, List.set_cons_succ]
  refine wpPlan_callL rfl (by rfl) Try.call18 (fun w' hw => pscale_any (u12) (u10) (u5) (u13) (u14) _ HZ13.out HZ14.out (by first | omega | exact Nat.le_trans (wl_small (by decide)) (by decide)) (by first | omega | exact Nat.le_trans (wl_small (by decide)) (by decide)) (by first | omega | exact Nat.le_trans (wl_small (by decide)) (by decide))) (by rfl) ?_
  simp only [Act.put, List.setIfInBounds_toArray, List.set_cons_zero, List.set_cons_succ]
  refine wpPlan_nil (hT.out _ _ ?_); clear hT T
  intro G vw5 hg hf
  simp only [puts, Act.put, List.setIfInBounds_toArray, List.set_cons_zero, List.set_cons_succ, List.drop_succ_cons, List.drop_zero, ↓reduceIte, Nat.reduceEqDiff]
  clear lx3 lx5
  have HG := Lib.hid (hg)
  clear hg
  have bx6 := Bx.of_fresh hf (i := 9) (by decide) rfl
  have yx6 := (hf.1 9 (by decide)).1
  clear hf
  generalize G 9 = gx6 at *
  have qx1_6 : gx1 < gx6 := Nat.lt_of_lt_of_le BX1.out.lt yx6
  have qx2_6 : gx2 < gx6 := Nat.lt_of_lt_of_le BX2.out.lt yx6
  have qx3_6 : gx3 < gx6 := Nat.lt_of_lt_of_le BX3.out.lt yx6
  have qx5_6 : gx5 < gx6 := Nat.lt_of_lt_of_le BX5.out.lt yx6
  replace yx6 : w.heap.size ≤ gx6 := Nat.le_trans HB.out.size yx6
  have bx1 := BX1.out.gr HG.out; clear BX1
  have bx2 := BX2.out.gr HG.out; clear BX2
  have bx3 := BX3.out.gr HG.out; clear BX3
  have bx5 := BX5.out.gr HG.out; clear BX5
  have lx6 := bx6.cells; have fx6 := bx6.free
  have r0 := Gr.refl vw5
  have BX1 := Lib.hid bx1; clear bx1
  have BX2 := Lib.hid bx2; clear bx2
  have BX3 := Lib.hid bx3; clear bx3
  have BX5 := Lib.hid bx5; clear bx5
  have BX6 := Lib.hid bx6; clear bx6
  go_wp2
  refine hK.out _ _ ?_; clear hK K
  show Code.wp _ _ _ _ _
  clear lx6 fx6
  clear r0
  refine forgetW (fun w2 => Bx w2 gx1 38 #[.int .u64 ((lo (Int.natAbs ((u1).num)) : Nat) : Int), .string (bg (Int.natAbs ((u1).num))), .bool (decide (((u1).num) < 0)), .int .u64 ((lo ((u1).den - 1) : Nat) : Int), .string (bg ((u1).den - 1)), .int .u64 ((lo (Int.natAbs ((u2).num)) : Nat) : Int), .string (bg (Int.natAbs ((u2).num))), .bool (decide (((u2).num) < 0)), .int .u64 ((lo ((u2).den - 1) : Nat) : Int), .string (bg ((u2).den - 1))] ∧ Bx w2 gx2 38 #[.int .u64 ((lo (Int.natAbs ((u3).num)) : Nat) : Int), .string (bg (Int.natAbs ((u3).num))), .bool (decide (((u3).num) < 0)), .int .u64 ((lo ((u3).den - 1) : Nat) : Int), .string (bg ((u3).den - 1)), .int .u64 ((lo (Int.natAbs ((u4).num)) : Nat) : Int), .string (bg (Int.natAbs ((u4).num))), .bool (decide (((u4).num) < 0)), .int .u64 ((lo ((u4).den - 1) : Nat) : Int), .string (bg ((u4).den - 1))] ∧ Bx w2 gx6 38 #[.int .u64 ((lo (Int.natAbs ((u13).num)) : Nat) : Int), .string (bg (Int.natAbs ((u13).num))), .bool (decide (((u13).num) < 0)), .int .u64 ((lo ((u13).den - 1) : Nat) : Int), .string (bg ((u13).den - 1)), .int .u64 ((lo (Int.natAbs ((u14).num)) : Nat) : Int), .string (bg (Int.natAbs ((u14).num))), .bool (decide (((u14).num) < 0)), .int .u64 ((lo ((u14).den - 1) : Nat) : Int), .string (bg ((u14).den - 1))] ∧ Below w.heap.size w w2) ⟨((((((((((BX1.out).setOther (by show gx1 ≠ gx6; omega) _).setOther (by show gx1 ≠ gx6; omega) _).setOther (by show gx1 ≠ gx6; omega) _).setOther (by show gx1 ≠ gx6; omega) _).setOther (by show gx1 ≠ gx6; omega) _).setOther (by show gx1 ≠ gx6; omega) _).setOther (by show gx1 ≠ gx6; omega) _).setOther (by show gx1 ≠ gx6; omega) _).setOther (by show gx1 ≠ gx6; omega) _).setOther (by show gx1 ≠ gx6; omega) _, ((((((((((BX2.out).setOther (by show gx2 ≠ gx6; omega) _).setOther (by show gx2 ≠ gx6; omega) _).setOther (by show gx2 ≠ gx6; omega) _).setOther (by show gx2 ≠ gx6; omega) _).setOther (by show gx2 ≠ gx6; omega) _).setOther (by show gx2 ≠ gx6; omega) _).setOther (by show gx2 ≠ gx6; omega) _).setOther (by show gx2 ≠ gx6; omega) _).setOther (by show gx2 ≠ gx6; omega) _).setOther (by show gx2 ≠ gx6; omega) _, (((((((((((BX6.out).set 0 _).set 1 _).set 2 _).set 3 _).set 4 _).set 5 _).set 6 _).set 7 _).set 8 _).set 9 _).eq (by simp only [List.setIfInBounds_toArray, List.set_cons_zero, List.set_cons_succ]), ((((((((((HB.out.trans (HG.out.mono HB.out.size)).setCell (by show w.heap.size ≤ gx6; omega) _).setCell (by show w.heap.size ≤ gx6; omega) _).setCell (by show w.heap.size ≤ gx6; omega) _).setCell (by show w.heap.size ≤ gx6; omega) _).setCell (by show w.heap.size ≤ gx6; omega) _).setCell (by show w.heap.size ≤ gx6; omega) _).setCell (by show w.heap.size ≤ gx6; omega) _).setCell (by show w.heap.size ≤ gx6; omega) _).setCell (by show w.heap.size ≤ gx6; omega) _).setCell (by show w.heap.size ≤ gx6; omega) _⟩ ?_
  clear HB HG BX1 BX2 BX3 BX5 BX6
  rintro Wx6 ⟨bx1, bx2, bx6, HB⟩
  replace HB := Lib.hid HB
  refine wp_seq ?_
  -- region 7
  obtain ⟨u15, HZ15⟩ : ∃ z, Hid ((u3) + (u13) = z) := ⟨_, Lib.hid rfl⟩
  have su15 : sz u15 ≤ 18 := by rw [← HZ15.out]; have := sz_add (u3) (u13); omega
  obtain ⟨u16, HZ16⟩ : ∃ z, Hid ((u4) + (u14) = z) := ⟨_, Lib.hid rfl⟩
  have su16 : sz u16 ≤ 18 := by rw [← HZ16.out]; have := sz_add (u4) (u14); omega
  obtain ⟨u17, HZ17⟩ : ∃ z, Hid ((u1) + (u13) = z) := ⟨_, Lib.hid rfl⟩
  have su17 : sz u17 ≤ 18 := by rw [← HZ17.out]; have := sz_add (u1) (u13); omega
  obtain ⟨u18, HZ18⟩ : ∃ z, Hid ((u2) + (u14) = z) := ⟨_, Lib.hid rfl⟩
  have su18 : sz u18 ≤ 18 := by rw [← HZ18.out]; have := sz_add (u2) (u14); omega
  obtain ⟨u19, HZ19⟩ : ∃ z, Hid ((u3) + (u13) = z) := ⟨_, Lib.hid rfl⟩
  have su19 : sz u19 ≤ 18 := by rw [← HZ19.out]; have := sz_add (u3) (u13); omega
  obtain ⟨u20, HZ20⟩ : ∃ z, Hid ((u4) + (u14) = z) := ⟨_, Lib.hid rfl⟩
  have su20 : sz u20 ≤ 18 := by rw [← HZ20.out]; have := sz_add (u4) (u14); omega
  obtain ⟨u21, HZ21⟩ : ∃ z, Hid ((u1) + (u13) = z) := ⟨_, Lib.hid rfl⟩
  have su21 : sz u21 ≤ 18 := by rw [← HZ21.out]; have := sz_add (u1) (u13); omega
  obtain ⟨u22, HZ22⟩ : ∃ z, Hid ((u2) + (u14) = z) := ⟨_, Lib.hid rfl⟩
  have su22 : sz u22 ≤ 18 := by rw [← HZ22.out]; have := sz_add (u2) (u14); omega
  have lx1 := bx1.cells
  have lx2 := bx2.cells
  have lx6 := bx6.cells
  have BX1 := Lib.hid bx1
  have BX2 := Lib.hid bx2
  have BX6 := Lib.hid bx6
  clear bx1 bx2 bx6
  refine wp_seq_k fun K hK => ?_
  replace hK := Lib.hid hK
  refine wp_region_plan 21 [] [] (fun _ => 0) (fun _ => .cells #[] 0) [(true, 0), (true, 1), (true, 2), (true, 3), (true, 5), (true, 6), (true, 4), (true, 7), (true, 8), (true, 9), (true, 10), (true, 11), (true, 12), (true, 13), (true, 15), (true, 16), (true, 18), (true, 14), (true, 17), (true, 19), (true, 20)] (by kernel_rfl) (by kernel_rfl) (fun i hi => by cases hi) (fun i hi => by cases hi) (fun _ _ _ _ _ h => h) (fun T hT => ?_)
  iterate 6
    refine wpPlan_takeL (v := ?_) rfl (by rfl) (fun w' hw => ?_) ?_
    rotate_left
    · go_simp
      with_reducible rfl
    simp only [Act.put, List.setIfInBounds_toArray, List.set_cons_zero, List.set_cons_succ]
  refine wpPlan_callL rfl (by rfl) Try.call14 (fun w' hw => padd_any (u3) (u4) (u13) (u14) (u15) (u16) _ HZ15.out HZ16.out (by first | omega | exact Nat.le_trans (wl_small (by decide)) (by decide)) (by first | omega | exact Nat.le_trans (wl_small (by decide)) (by decide)) (by first | omega | exact Nat.le_trans (wl_small (by decide)) (by decide)) (by first | omega | exact Nat.le_trans (wl_small (by decide)) (by decide))) (by rfl) ?_
  simp only [Act.put, List.setIfInBounds_toArray, List.set_cons_zero, List.set_cons_succ]
  refine wpPlan_callL rfl (by rfl) Try.call14 (fun w' hw => padd_any (u1) (u2) (u13) (u14) (u17) (u18) _ HZ17.out HZ18.out (by first | omega | exact Nat.le_trans (wl_small (by decide)) (by decide)) (by first | omega | exact Nat.le_trans (wl_small (by decide)) (by decide)) (by first | omega | exact Nat.le_trans (wl_small (by decide)) (by decide)) (by first | omega | exact Nat.le_trans (wl_small (by decide)) (by decide))) (by rfl) ?_
  simp only [Act.put, List.setIfInBounds_toArray, List.set_cons_zero, List.set_cons_succ]
  refine wpPlan_callL rfl (by rfl) Try.call17 (fun w' hw => pcircle_any (u1) (u2) (u3) (u4) (u15) (u16) (u17) (u18) (0) (turn (u1) (u2) (u3) (u4) (u15) (u16)) (0) _ (by simp only [← HZ18.out, ← HZ17.out, ← HZ16.out, ← HZ15.out, ← HZ14.out, ← HZ13.out, ← HZ12.out, ← HZ11.out, ← HZ10.out]; rw [rect_1]; rfl) (rfl) (by rw [Int.zero_mul]; rfl) (by first | omega | exact Nat.le_trans (wl_small (by decide)) (by decide)) (by first | omega | exact Nat.le_trans (wl_small (by decide)) (by decide)) (by first | omega | exact Nat.le_trans (wl_small (by decide)) (by decide)) (by first | omega | exact Nat.le_trans (wl_small (by decide)) (by decide)) (by first | omega | exact Nat.le_trans (wl_small (by decide)) (by decide)) (by first | omega | exact Nat.le_trans (wl_small (by decide)) (by decide)) (by first | omega | exact Nat.le_trans (wl_small (by decide)) (by decide)) (by first | omega | exact Nat.le_trans (wl_small (by decide)) (by decide))) (by rfl) ?_
  simp only [Act.put, List.setIfInBounds_toArray, List.set_cons_zero, List.set_cons_succ]
  iterate 8
    refine wpPlan_takeL (v := ?_) rfl (by rfl) (fun w' hw => ?_) ?_
    rotate_left
    · go_simp
      with_reducible rfl
    simp only [Act.put, List.setIfInBounds_toArray, List.set_cons_zero, List.set_cons_succ]
  refine wpPlan_callL rfl (by rfl) Try.call14 (fun w' hw => padd_any (u3) (u4) (u13) (u14) (u19) (u20) _ HZ19.out HZ20.out (by first | omega | exact Nat.le_trans (wl_small (by decide)) (by decide)) (by first | omega | exact Nat.le_trans (wl_small (by decide)) (by decide)) (by first | omega | exact Nat.le_trans (wl_small (by decide)) (by decide)) (by first | omega | exact Nat.le_trans (wl_small (by decide)) (by decide))) (by rfl) ?_
  simp only [Act.put, List.setIfInBounds_toArray, List.set_cons_zero, List.set_cons_succ]
  refine wpPlan_callL rfl (by rfl) Try.call14 (fun w' hw => padd_any (u1) (u2) (u13) (u14) (u21) (u22) _ HZ21.out HZ22.out (by first | omega | exact Nat.le_trans (wl_small (by decide)) (by decide)) (by first | omega | exact Nat.le_trans (wl_small (by decide)) (by decide)) (by first | omega | exact Nat.le_trans (wl_small (by decide)) (by decide)) (by first | omega | exact Nat.le_trans (wl_small (by decide)) (by decide))) (by rfl) ?_
  simp only [Act.put, List.setIfInBounds_toArray, List.set_cons_zero, List.set_cons_succ]
  refine wpPlan_callL rfl (by rfl) Try.call17 (fun w' hw => pcircle_any (u3) (u4) (u19) (u20) (u21) (u22) (u1) (u2) (0) (turn (u3) (u4) (u19) (u20) (u21) (u22)) (0) _ (by simp only [← HZ22.out, ← HZ21.out, ← HZ20.out, ← HZ19.out, ← HZ18.out, ← HZ17.out, ← HZ16.out, ← HZ15.out, ← HZ14.out, ← HZ13.out, ← HZ12.out, ← HZ11.out, ← HZ10.out]; rw [rect_2]; rfl) (rfl) (by rw [Int.zero_mul]; rfl) (by first | omega | exact Nat.le_trans (wl_small (by decide)) (by decide)) (by first | omega | exact Nat.le_trans (wl_small (by decide)) (by decide)) (by first | omega | exact Nat.le_trans (wl_small (by decide)) (by decide)) (by first | omega | exact Nat.le_trans (wl_small (by decide)) (by decide)) (by first | omega | exact Nat.le_trans (wl_small (by decide)) (by decide)) (by first | omega | exact Nat.le_trans (wl_small (by decide)) (by decide)) (by first | omega | exact Nat.le_trans (wl_small (by decide)) (by decide)) (by first | omega | exact Nat.le_trans (wl_small (by decide)) (by decide))) (by rfl) ?_
  simp only [Act.put, List.setIfInBounds_toArray, List.set_cons_zero, List.set_cons_succ]
  iterate 1
    refine wpPlan_takeL (v := ?_) rfl (by rfl) (fun w' hw => ?_) ?_
    rotate_left
    · go_simp
      with_reducible rfl
    simp only [Act.put, List.setIfInBounds_toArray, List.set_cons_zero, List.set_cons_succ]
  refine wpPlan_nil (hT.out _ _ ?_); clear hT T
  intro G vw6 hg hf
  simp only [puts, Act.put, List.setIfInBounds_toArray, List.set_cons_zero, List.set_cons_succ, List.drop_succ_cons, List.drop_zero, ↓reduceIte, Nat.reduceEqDiff]
  clear lx1 lx2 lx6
  have HG := Lib.hid (hg)
  clear hg
  have bx1 := BX1.out.gr HG.out; clear BX1
  have bx2 := BX2.out.gr HG.out; clear BX2
  have bx6 := BX6.out.gr HG.out; clear BX6
  have r0 := Gr.refl vw6
  have BX1 := Lib.hid bx1; clear bx1
  have BX2 := Lib.hid bx2; clear bx2
  have BX6 := Lib.hid bx6; clear bx6
  go_wp2
  refine hK.out _ _ ?_; clear hK K
  show Code.wp _ _ _ _ _
  clear r0
  refine forgetW (fun w2 => Bx w2 gx1 38 #[.int .u64 ((lo (Int.natAbs ((u1).num)) : Nat) : Int), .string (bg (Int.natAbs ((u1).num))), .bool (decide (((u1).num) < 0)), .int .u64 ((lo ((u1).den - 1) : Nat) : Int), .string (bg ((u1).den - 1)), .int .u64 ((lo (Int.natAbs ((u2).num)) : Nat) : Int), .string (bg (Int.natAbs ((u2).num))), .bool (decide (((u2).num) < 0)), .int .u64 ((lo ((u2).den - 1) : Nat) : Int), .string (bg ((u2).den - 1))] ∧ Bx w2 gx2 38 #[.int .u64 ((lo (Int.natAbs ((u3).num)) : Nat) : Int), .string (bg (Int.natAbs ((u3).num))), .bool (decide (((u3).num) < 0)), .int .u64 ((lo ((u3).den - 1) : Nat) : Int), .string (bg ((u3).den - 1)), .int .u64 ((lo (Int.natAbs ((u4).num)) : Nat) : Int), .string (bg (Int.natAbs ((u4).num))), .bool (decide (((u4).num) < 0)), .int .u64 ((lo ((u4).den - 1) : Nat) : Int), .string (bg ((u4).den - 1))] ∧ Bx w2 gx6 38 #[.int .u64 ((lo (Int.natAbs ((u13).num)) : Nat) : Int), .string (bg (Int.natAbs ((u13).num))), .bool (decide (((u13).num) < 0)), .int .u64 ((lo ((u13).den - 1) : Nat) : Int), .string (bg ((u13).den - 1)), .int .u64 ((lo (Int.natAbs ((u14).num)) : Nat) : Int), .string (bg (Int.natAbs ((u14).num))), .bool (decide (((u14).num) < 0)), .int .u64 ((lo ((u14).den - 1) : Nat) : Int), .string (bg ((u14).den - 1))] ∧ Below w.heap.size w w2) ⟨BX1.out, BX2.out, BX6.out, HB.out.trans (HG.out.mono HB.out.size)⟩ ?_
  clear HB HG BX1 BX2 BX6
  rintro Wx7 ⟨bx1, bx2, bx6, HB⟩
  replace HB := Lib.hid HB
  refine wp_cond_false (by rfl) ?_
  refine wp_skip ?_
  show Code.wp _ _ _ _ _
  refine wp_seq ?_
  -- region 9
  obtain ⟨u23, HZ23⟩ : ∃ z, Hid ((u3) + (u13) = z) := ⟨_, Lib.hid rfl⟩
  have su23 : sz u23 ≤ 18 := by rw [← HZ23.out]; have := sz_add (u3) (u13); omega
  obtain ⟨u24, HZ24⟩ : ∃ z, Hid ((u4) + (u14) = z) := ⟨_, Lib.hid rfl⟩
  have su24 : sz u24 ≤ 18 := by rw [← HZ24.out]; have := sz_add (u4) (u14); omega
  obtain ⟨u25, HZ25⟩ : ∃ z, Hid ((u3) + (u13) = z) := ⟨_, Lib.hid rfl⟩
  have su25 : sz u25 ≤ 18 := by rw [← HZ25.out]; have := sz_add (u3) (u13); omega
  obtain ⟨u26, HZ26⟩ : ∃ z, Hid ((u4) + (u14) = z) := ⟨_, Lib.hid rfl⟩
  have su26 : sz u26 ≤ 18 := by rw [← HZ26.out]; have := sz_add (u4) (u14); omega
  obtain ⟨u27, HZ27⟩ : ∃ z, Hid ((u3) + (u13) = z) := ⟨_, Lib.hid rfl⟩
  have su27 : sz u27 ≤ 18 := by rw [← HZ27.out]; have := sz_add (u3) (u13); omega
  obtain ⟨u28, HZ28⟩ : ∃ z, Hid ((u4) + (u14) = z) := ⟨_, Lib.hid rfl⟩
  have su28 : sz u28 ≤ 18 := by rw [← HZ28.out]; have := sz_add (u4) (u14); omega
  obtain ⟨u29, HZ29⟩ : ∃ z, Hid (((u1) + (u27)) * half = z) := ⟨_, Lib.hid rfl⟩
  have su29 : sz u29 ≤ 27 := by rw [← HZ29.out]; have h1 := sz_add (u1) (u27); have h2 := sz_mul ((u1) + (u27)) half; have h3 := sz_half; omega
  obtain ⟨u30, HZ30⟩ : ∃ z, Hid (((u2) + (u28)) * half = z) := ⟨_, Lib.hid rfl⟩
  have su30 : sz u30 ≤ 27 := by rw [← HZ30.out]; have h1 := sz_add (u2) (u28); have h2 := sz_mul ((u2) + (u28)) half; have h3 := sz_half; omega
  have lx1 := bx1.cells
  have lx2 := bx2.cells
  have lx6 := bx6.cells
  have BX1 := Lib.hid bx1
  have BX2 := Lib.hid bx2
  have BX6 := Lib.hid bx6
  clear bx1 bx2 bx6
  refine wp_seq_k fun K hK => ?_
  replace hK := Lib.hid hK
  refine wp_region_plan 20 [] [] (fun _ => 0) (fun _ => .cells #[] 0) [(true, 0), (true, 1), (true, 2), (true, 3), (true, 4), (true, 5), (true, 6), (true, 7), (true, 8), (true, 9), (true, 10), (true, 11), (true, 13), (true, 14), (true, 15), (true, 12), (true, 16), (true, 17), (true, 18), (true, 19)] (by kernel_rfl) (by kernel_rfl) (fun i hi => by cases hi) (fun i hi => by cases hi) (fun _ _ _ _ _ h => h) (fun T hT => ?_)
  iterate 4
    refine wpPlan_takeL (v := ?_) rfl (by rfl) (fun w' hw => ?_) ?_
    rotate_left
    · go_simp
      with_reducible rfl
    simp only [Act.put, List.setIfInBounds_toArray, List.set_cons_zero, List.set_cons_succ]
  refine wpPlan_callL rfl (by rfl) Try.call14 (fun w' hw => padd_any (u3) (u4) (u13) (u14) (u23) (u24) _ HZ23.out HZ24.out (by first | omega | exact Nat.le_trans (wl_small (by decide)) (by decide)) (by first | omega | exact Nat.le_trans (wl_small (by decide)) (by decide)) (by first | omega | exact Nat.le_trans (wl_small (by decide)) (by decide)) (by first | omega | exact Nat.le_trans (wl_small (by decide)) (by decide))) (by rfl) ?_
  simp only [Act.put, List.setIfInBounds_toArray, List.set_cons_zero, List.set_cons_succ]
  refine wpPlan_callL rfl (by rfl) Try.call13 (fun w' hw => pturn_any (u1) (u2) (u3) (u4) (u23) (u24) (tq) _ (by simp only [← HZ24.out, ← HZ23.out, ← HZ22.out, ← HZ21.out, ← HZ20.out, ← HZ19.out, ← HZ18.out, ← HZ17.out, ← HZ16.out, ← HZ15.out, ← HZ14.out, ← HZ13.out, ← HZ12.out, ← HZ11.out, ← HZ10.out, ← HZ8.out, ← HZ7.out, ← HZ6.out, ← HZ5.out, ← HZ4.out, ← HZ3.out, ← HZ2.out, ← HZ1.out]; exact htq.out) (by first | omega | exact Nat.le_trans (wl_small (by decide)) (by decide)) (by first | omega | exact Nat.le_trans (wl_small (by decide)) (by decide)) (by first | omega | exact Nat.le_trans (wl_small (by decide)) (by decide)) (by first | omega | exact Nat.le_trans (wl_small (by decide)) (by decide)) (by first | omega | exact Nat.le_trans (wl_small (by decide)) (by decide)) (by first | omega | exact Nat.le_trans (wl_small (by decide)) (by decide))) (by rfl) ?_
  simp only [Act.put, List.setIfInBounds_toArray, List.set_cons_zero, List.set_cons_succ]
  iterate 9
    refine wpPlan_takeL (v := ?_) rfl (by rfl) (fun w' hw => ?_) ?_
    rotate_left
    · go_simp
      with_reducible rfl
    simp only [Act.put, List.setIfInBounds_toArray, List.set_cons_zero, List.set_cons_succ]
  refine wpPlan_callL rfl (by rfl) Try.call14 (fun w' hw => padd_any (u3) (u4) (u13) (u14) (u25) (u26) _ HZ25.out HZ26.out (by first | omega | exact Nat.le_trans (wl_small (by decide)) (by decide)) (by first | omega | exact Nat.le_trans (wl_small (by decide)) (by decide)) (by first | omega | exact Nat.le_trans (wl_small (by decide)) (by decide)) (by first | omega | exact Nat.le_trans (wl_small (by decide)) (by decide))) (by rfl) ?_
  simp only [Act.put, List.setIfInBounds_toArray, List.set_cons_zero, List.set_cons_succ]
  refine wpPlan_callL rfl (by rfl) Try.call14 (fun w' hw => padd_any (u3) (u4) (u13) (u14) (u27) (u28) _ HZ27.out HZ28.out (by first | omega | exact Nat.le_trans (wl_small (by decide)) (by decide)) (by first | omega | exact Nat.le_trans (wl_small (by decide)) (by decide)) (by first | omega | exact Nat.le_trans (wl_small (by decide)) (by decide)) (by first | omega | exact Nat.le_trans (wl_small (by decide)) (by decide))) (by rfl) ?_
  simp only [Act.put, List.setIfInBounds_toArray, List.set_cons_zero, List.set_cons_succ]
  refine wpPlan_callL rfl (by rfl) Try.call20 (fun w' hw => pmid_any (u1) (u2) (u27) (u28) (u29) (u30) _ HZ29.out HZ30.out (by first | omega | exact Nat.le_trans (wl_small (by decide)) (by decide)) (by first | omega | exact Nat.le_trans (wl_small (by decide)) (by decide)) (by first | omega | exact Nat.le_trans (wl_small (by decide)) (by decide)) (by first | omega | exact Nat.le_trans (wl_small (by decide)) (by decide))) (by rfl) ?_
  simp only [Act.put, List.setIfInBounds_toArray, List.set_cons_zero, List.set_cons_succ]
  refine wpPlan_callL rfl (by rfl) Try.call17 (fun w' hw => pcircle_any (u1) (u2) (u3) (u4) (u25) (u26) (u29) (u30) (tq) (tq) (1) _ (by rw [← htq.out]; simp only [← HZ30.out, ← HZ29.out, ← HZ28.out, ← HZ27.out, ← HZ26.out, ← HZ25.out, ← HZ24.out, ← HZ23.out, ← HZ22.out, ← HZ21.out, ← HZ20.out, ← HZ19.out, ← HZ18.out, ← HZ17.out, ← HZ16.out, ← HZ15.out, ← HZ14.out, ← HZ13.out, ← HZ12.out, ← HZ11.out, ← HZ10.out, ← HZ8.out, ← HZ7.out, ← HZ6.out, ← HZ5.out, ← HZ4.out, ← HZ3.out, ← HZ2.out, ← HZ1.out]; exact thales_in _ _ _ _ _ (by have e := htq.out; unfold tt at e; rw [e]; simpa using hq9)) (by simp only [← HZ30.out, ← HZ29.out, ← HZ28.out, ← HZ27.out, ← HZ26.out, ← HZ25.out, ← HZ24.out, ← HZ23.out, ← HZ22.out, ← HZ21.out, ← HZ20.out, ← HZ19.out, ← HZ18.out, ← HZ17.out, ← HZ16.out, ← HZ15.out, ← HZ14.out, ← HZ13.out, ← HZ12.out, ← HZ11.out, ← HZ10.out, ← HZ8.out, ← HZ7.out, ← HZ6.out, ← HZ5.out, ← HZ4.out, ← HZ3.out, ← HZ2.out, ← HZ1.out]; exact htq.out) (by have e := htq.out; unfold tt turn at e; have e2 : tq * tq = 1 := (by rw [← e]; exact sgQ_sq (by rw [e]; simpa using hq9)); rw [e2]; rfl) (by first | omega | exact Nat.le_trans (wl_small (by decide)) (by decide)) (by first | omega | exact Nat.le_trans (wl_small (by decide)) (by decide)) (by first | omega | exact Nat.le_trans (wl_small (by decide)) (by decide)) (by first | omega | exact Nat.le_trans (wl_small (by decide)) (by decide)) (by first | omega | exact Nat.le_trans (wl_small (by decide)) (by decide)) (by first | omega | exact Nat.le_trans (wl_small (by decide)) (by decide)) (by first | omega | exact Nat.le_trans (wl_small (by decide)) (by decide)) (by first | omega | exact Nat.le_trans (wl_small (by decide)) (by decide))) (by rfl) ?_
  simp only [Act.put, List.setIfInBounds_toArray, List.set_cons_zero, List.set_cons_succ]
  iterate 1
    refine wpPlan_takeL (v := ?_) rfl (by rfl) (fun w' hw => ?_) ?_
    rotate_left
    · go_simp
      with_reducible rfl
    simp only [Act.put, List.setIfInBounds_toArray, List.set_cons_zero, List.set_cons_succ]
  refine wpPlan_nil (hT.out _ _ ?_); clear hT T
  intro G vw7 hg hf
  simp only [puts, Act.put, List.setIfInBounds_toArray, List.set_cons_zero, List.set_cons_succ, List.drop_succ_cons, List.drop_zero, ↓reduceIte, Nat.reduceEqDiff]
  clear lx1 lx2 lx6
  have HG := Lib.hid (hg)
  clear hg
  have bx1 := BX1.out.gr HG.out; clear BX1
  have bx2 := BX2.out.gr HG.out; clear BX2
  have bx6 := BX6.out.gr HG.out; clear BX6
  have r0 := Gr.refl vw7
  have BX1 := Lib.hid bx1; clear bx1
  have BX2 := Lib.hid bx2; clear bx2
  have BX6 := Lib.hid bx6; clear bx6
  go_wp2
  refine hK.out _ _ ?_; clear hK K
  show Code.wp _ _ _ _ _
  clear r0
  refine forgetW (fun w2 => Below w.heap.size w w2) (HB.out.trans (HG.out.mono HB.out.size)) ?_
  clear HB HG BX1 BX2 BX6
  rintro Wx9 HB
  replace HB := Lib.hid HB
  refine wp_cond_false (by rfl) ?_
  refine wp_skip ?_
  show Code.wp _ _ _ _ _
  -- region 11
  refine wp_seq_k fun K hK => ?_
  replace hK := Lib.hid hK
  refine wp_region_seqplan 2 [(true, 0), (true, 1)] (by rfl) (by simp) (fun T hT => ?_)
  refine wpPlan_callL rfl (by rfl) Try.call16 (fun w' hw => lives_any _) (by rfl) ?_
  simp only [Act.put, List.setIfInBounds_toArray, List.set_cons_zero, List.set_cons_succ]
  iterate 1
    refine wpPlan_takeL (v := ?_) rfl (by rfl) (fun w' hw => ?_) ?_
    rotate_left
    · go_simp
      with_reducible rfl
    simp only [Act.put, List.setIfInBounds_toArray, List.set_cons_zero, List.set_cons_succ]
  refine wpPlan_nil (hT.out _ _ ?_); clear hT T
  intro vw8 hg
  simp only [puts, Act.put, List.setIfInBounds_toArray, List.set_cons_zero, List.set_cons_succ, List.drop_succ_cons, List.drop_zero, ↓reduceIte, Nat.reduceEqDiff]
  have HG := Lib.hid (hg)
  clear hg
  have r0 := Gr.refl vw8
  go_wp2
  refine hK.out _ _ ?_; clear hK K
  show Code.wp _ _ _ _ _
  clear r0
  refine forgetW (fun w2 => Below w.heap.size w w2) (HB.out.trans (HG.out.mono HB.out.size)) ?_
  clear HB HG
  rintro Wx11 HB
  replace HB := Lib.hid HB
  refine wp_ret ?_
  try simp only [Exit.then, Exit.inBlock]
  have r0 := Gr.refl Wx11
  exact bodyPost_ret (v := .bool true) (by simp [results, Try.results4, go_sem]) rfl ⟨rfl, HB.out⟩

theorem round_law (n0x d0x n0y d0y n1x d1x n1y d1y n2x d2x n2y d2y n3x d3x n3y d3y : Int) (w : World) (h1_0x : -9223372036854775808 ≤ n0x) (h2_0x : n0x ≤ 9223372036854775807) (h3_0x : 0 ≤ d0x) (h4_0x : d0x ≤ 4294967295) (h1_0y : -9223372036854775808 ≤ n0y) (h2_0y : n0y ≤ 9223372036854775807) (h3_0y : 0 ≤ d0y) (h4_0y : d0y ≤ 4294967295) (h1_1x : -9223372036854775808 ≤ n1x) (h2_1x : n1x ≤ 9223372036854775807) (h3_1x : 0 ≤ d1x) (h4_1x : d1x ≤ 4294967295) (h1_1y : -9223372036854775808 ≤ n1y) (h2_1y : n1y ≤ 9223372036854775807) (h3_1y : 0 ≤ d1y) (h4_1y : d1y ≤ 4294967295) (h1_2x : -9223372036854775808 ≤ n2x) (h2_2x : n2x ≤ 9223372036854775807) (h3_2x : 0 ≤ d2x) (h4_2x : d2x ≤ 4294967295) (h1_2y : -9223372036854775808 ≤ n2y) (h2_2y : n2y ≤ 9223372036854775807) (h3_2y : 0 ≤ d2y) (h4_2y : d2y ≤ 4294967295) (h1_3x : -9223372036854775808 ≤ n3x) (h2_3x : n3x ≤ 9223372036854775807) (h3_3x : 0 ≤ d3x) (h4_3x : d3x ≤ 4294967295) (h1_3y : -9223372036854775808 ≤ n3y) (h2_3y : n3y ≤ 9223372036854775807) (h3_3y : 0 ≤ d3y) (h4_3y : d3y ≤ 4294967295) :
    Calls Try.prog 4 #[(Value.agg #[.int .i64 (n0x), .int .u32 (d0x), .int .i64 (n0y), .int .u32 (d0y), .int .i64 (n1x), .int .u32 (d1x), .int .i64 (n1y), .int .u32 (d1y), .int .i64 (n2x), .int .u32 (d2x), .int .i64 (n2y), .int .u32 (d2y), .int .i64 (n3x), .int .u32 (d3x), .int .i64 (n3y), .int .u32 (d3y)])] w fun e w' => e = .returned (.bool true) ∧ Below w.heap.size w w' := by
  obtain ⟨tq, htq⟩ : ∃ t, tt (qv n0x d0x) (qv n0y d0y) (qv n1x d1x) (qv n1y d1y) (qv n2x d2x) = t := ⟨_, rfl⟩
  by_cases h : tq = 0
  · subst h
    exact round_flat n0x d0x n0y d0y n1x d1x n1y d1y n2x d2x n2y d2y n3x d3x n3y d3y w h1_0x h2_0x h3_0x h4_0x h1_0y h2_0y h3_0y h4_0y h1_1x h2_1x h3_1x h4_1x h1_1y h2_1y h3_1y h4_1y h1_2x h2_2x h3_2x h4_2x h1_2y h2_2y h3_2y h4_2y h1_3x h2_3x h3_3x h4_3x h1_3y h2_3y h3_3y h4_3y (Lib.hid htq)
  · exact round_long n0x d0x n0y d0y n1x d1x n1y d1y n2x d2x n2y d2y n3x d3x n3y d3y tq w h1_0x h2_0x h3_0x h4_0x h1_0y h2_0y h3_0y h4_0y h1_1x h2_1x h3_1x h4_1x h1_1y h2_1y h3_1y h4_1y h1_2x h2_2x h3_2x h4_2x h1_2y h2_2y h3_2y h4_2y h1_3x h2_3x h3_3x h4_3x h1_3y h2_3y h3_3y h4_3y (Lib.hid htq) (by simpa using h) (by simpa using h)

end Go.Proofs.Ytenpbnmmadbkdaa
