/- PointsMeet: the law's walk. -/
import Derived.Test.YtenpbnmmadbkdaaMeetP
import Derived.Test.YtenpbnmmadbkdaaCut3
namespace Go.Proofs.Ytenpbnmmadbkdaa
open Go.RowKit
-- short cells
set_option linter.unusedSimpArgs false
set_option linter.unusedVariables false
attribute [local go_sem ↓] Go.wp_at_zero Go.wp_at_succ
attribute [local go_sem ↓] eq_nat eq_nat_zero eq_int eq_frac eq_pt
set_option maxRecDepth 100000 in
set_option maxHeartbeats 16000000 in
theorem meet_walk (n0x d0x n0y d0y n1x d1x n1y d1y n2x d2x n2y d2y n3x d3x n3y d3y : Int) (a1 a2 b1 b2 c1 c2 d1 d2 m1 m2 r1 r2 g1 g2 : Rat) (n k t1 t2 t3 t4 p q : Int) (w : World) (h1_0x : -9223372036854775808 ≤ n0x) (h2_0x : n0x ≤ 9223372036854775807) (h3_0x : 0 ≤ d0x) (h4_0x : d0x ≤ 4294967295) (h1_0y : -9223372036854775808 ≤ n0y) (h2_0y : n0y ≤ 9223372036854775807) (h3_0y : 0 ≤ d0y) (h4_0y : d0y ≤ 4294967295) (h1_1x : -9223372036854775808 ≤ n1x) (h2_1x : n1x ≤ 9223372036854775807) (h3_1x : 0 ≤ d1x) (h4_1x : d1x ≤ 4294967295) (h1_1y : -9223372036854775808 ≤ n1y) (h2_1y : n1y ≤ 9223372036854775807) (h3_1y : 0 ≤ d1y) (h4_1y : d1y ≤ 4294967295) (h1_2x : -9223372036854775808 ≤ n2x) (h2_2x : n2x ≤ 9223372036854775807) (h3_2x : 0 ≤ d2x) (h4_2x : d2x ≤ 4294967295) (h1_2y : -9223372036854775808 ≤ n2y) (h2_2y : n2y ≤ 9223372036854775807) (h3_2y : 0 ≤ d2y) (h4_2y : d2y ≤ 4294967295) (h1_3x : -9223372036854775808 ≤ n3x) (h2_3x : n3x ≤ 9223372036854775807) (h3_3x : 0 ≤ d3x) (h4_3x : d3x ≤ 4294967295) (h1_3y : -9223372036854775808 ≤ n3y) (h2_3y : n3y ≤ 9223372036854775807) (h3_3y : 0 ≤ d3y) (h4_3y : d3y ≤ 4294967295) (hz_a1 : Hid ((qv n0x d0x) = a1)) (hz_a2 : Hid ((qv n0y d0y) = a2)) (hz_b1 : Hid ((qv n1x d1x) = b1)) (hz_b2 : Hid ((qv n1y d1y) = b2)) (hz_c1 : Hid ((qv n2x d2x) = c1)) (hz_c2 : Hid ((qv n2y d2y) = c2)) (hz_d1 : Hid ((qv n3x d3x) = d1)) (hz_d2 : Hid ((qv n3y d3y) = d2)) (hs_a1 : sz a1 ≤ 4) (hs_a2 : sz a2 ≤ 4) (hs_b1 : sz b1 ≤ 4) (hs_b2 : sz b2 ≤ 4) (hs_c1 : sz c1 ≤ 4) (hs_c2 : sz c2 ≤ 4) (hs_d1 : sz d1 ≤ 4) (hs_d2 : sz d2 ≤ 4) (hc1 : Hid (cutV (a1, a2) (b1, b2) (c1, c2) (d1, d2) = (n, (m1, m2)))) (hc2 : Hid (cutV (d1, d2) (c1, c2) (b1, b2) (a1, a2) = (n, (m1, m2)))) (hc3 : Hid (cutV (a1, a2) (b1, b2) (g1, g2) (c1, c2) = (k, (r1, r2)))) (hg1 : Hid ((a1 + b1) * half = g1)) (hg2 : Hid ((a2 + b2) * half = g2)) (hs_g1 : sz g1 ≤ 13) (hs_g2 : sz g2 ≤ 13) (hs_m1 : sz m1 ≤ 1000) (hs_m2 : sz m2 ≤ 1000) (hs_r1 : sz r1 ≤ 1000) (hs_r2 : sz r2 ≤ 1000) (hn0 : decide (n < 0) = false) (hn2 : decide (2 < n) = false) (hk0 : (k == 0) = false) (on3 : Hid (onB a1 a2 b1 b2 g1 g2 = true)) (on4 : Hid (onB a1 a2 b1 b2 a1 a2 = true)) (on5 : Hid (onB a1 a2 b1 b2 r1 r2 = true)) (ht1 : Hid (turn a1 a2 b1 b2 c1 c2 = t1)) (ht2 : Hid (turn a1 a2 b1 b2 d1 d2 = t2)) (ht3 : Hid (turn c1 c2 d1 d2 a1 a2 = t3)) (ht4 : Hid (turn c1 c2 d1 d2 b1 b2 = t4)) (hp : IntKind.i64.wrap (t1 * t2) = p) (hq : IntKind.i64.wrap (t3 * t4) = q) (way : (decide (0 < n) = true ∧ Hid (onB a1 a2 b1 b2 m1 m2 = true) ∧ Hid (onB c1 c2 d1 d2 m1 m2 = true) ∧ Hid ((decide (0 ≤ p) = true ∧ decide (p ≤ 0) = true) ∨ (decide (0 ≤ p) = false ∧ decide (0 ≤ q) = true ∧ decide (p ≤ 0) = true) ∨ (decide (0 ≤ p) = false ∧ decide (0 ≤ q) = false ∧ (n == 1) = true ∧ decide (p ≤ 0) = true))) ∨ (decide (0 < n) = false ∧ Hid ((decide (0 ≤ p) = true ∧ decide (p ≤ 0) = true) ∨ (decide (0 ≤ p) = true ∧ decide (p ≤ 0) = false ∧ (n == 0) = true) ∨ (decide (0 ≤ p) = false ∧ decide (0 ≤ q) = true ∧ decide (p ≤ 0) = true)))) :
    Calls Try.prog 5 #[(Value.agg #[.int .i64 (n0x), .int .u32 (d0x), .int .i64 (n0y), .int .u32 (d0y), .int .i64 (n1x), .int .u32 (d1x), .int .i64 (n1y), .int .u32 (d1y), .int .i64 (n2x), .int .u32 (d2x), .int .i64 (n2y), .int .u32 (d2y), .int .i64 (n3x), .int .u32 (d3x), .int .i64 (n3y), .int .u32 (d3y)])] w fun e w' => e = .returned (.bool true) ∧ Below w.heap.size w w' := by
  replace way := Lib.hid way
  go_enter Try.func5, Try.ntmps5
  -- region 0
  refine wp_seq_k fun K hK => ?_
  replace hK := Lib.hid hK
  refine wp_region_lit ?_
  go_wp2
  refine hK.out _ _ ?_; clear hK K
  show Code.wp _ _ _ _ _
  refine forgetW (fun w2 => Bx w2 (w.heap.size) 47 #[.int .i64 (n0x), .int .u32 (d0x), .int .i64 (n0y), .int .u32 (d0y), .int .i64 (n1x), .int .u32 (d1x), .int .i64 (n1y), .int .u32 (d1y), .int .i64 (n2x), .int .u32 (d2x), .int .i64 (n2y), .int .u32 (d2y), .int .i64 (n3x), .int .u32 (d3x), .int .i64 (n3y), .int .u32 (d3y)] ∧ Below w.heap.size w w2) ⟨Bx.at rfl, (Below.refl _ _).alloc (Nat.le_refl _) _⟩ ?_
  rintro Wx ⟨bx0, HB⟩
  replace HB := Lib.hid HB
  -- region 1
  have HZ1 : Hid (qv (n0x) (d0x) = a1) := Lib.hid (hz_a1.out)
  have HZ2 : Hid (qv (n0y) (d0y) = a2) := Lib.hid (hz_a2.out)
  have HZ3 : Hid (qv (n1x) (d1x) = b1) := Lib.hid (hz_b1.out)
  have HZ4 : Hid (qv (n1y) (d1y) = b2) := Lib.hid (hz_b2.out)
  have HZ5 : Hid (qv (n2x) (d2x) = c1) := Lib.hid (hz_c1.out)
  have HZ6 : Hid (qv (n2y) (d2y) = c2) := Lib.hid (hz_c2.out)
  have HZ7 : Hid (qv (n3x) (d3x) = d1) := Lib.hid (hz_d1.out)
  have HZ8 : Hid (qv (n3y) (d3y) = d2) := Lib.hid (hz_d2.out)
  have lx0 := bx0.cells
  have BX0 := Lib.hid bx0
  clear bx0
  refine wp_seq_k fun K hK => ?_
  replace hK := Lib.hid hK
  refine wp_region_plan 16 [12, 13, 14, 15] [] (fun i => if i = 12 then 3 else if i = 13 then 4 else if i = 14 then 5 else 6) (fun i => if i = 12 then .cells #[.int .u64 0, .string ⟨#[]⟩, .bool false, .int .u64 0, .string ⟨#[]⟩, .int .u64 0, .string ⟨#[]⟩, .bool false, .int .u64 0, .string ⟨#[]⟩] 38 else if i = 13 then .cells #[.int .u64 0, .string ⟨#[]⟩, .bool false, .int .u64 0, .string ⟨#[]⟩, .int .u64 0, .string ⟨#[]⟩, .bool false, .int .u64 0, .string ⟨#[]⟩] 38 else if i = 14 then .cells #[.int .u64 0, .string ⟨#[]⟩, .bool false, .int .u64 0, .string ⟨#[]⟩, .int .u64 0, .string ⟨#[]⟩, .bool false, .int .u64 0, .string ⟨#[]⟩] 38 else .cells #[.int .u64 0, .string ⟨#[]⟩, .bool false, .int .u64 0, .string ⟨#[]⟩, .int .u64 0, .string ⟨#[]⟩, .bool false, .int .u64 0, .string ⟨#[]⟩] 38) [(true, 0), (true, 1), (true, 3), (true, 4), (true, 6), (true, 7), (true, 9), (true, 10), (true, 2), (true, 5), (true, 8), (true, 11)] (by kernel_rfl) (by kernel_rfl) (by intro i hi; simp only [List.mem_cons, List.not_mem_nil, or_false] at hi; rcases hi with rfl | rfl | rfl | rfl <;> exact ⟨_, rfl, rfl, rfl, by simp, fun ρ w => by kernel_rfl⟩) (fun i hi => by cases hi) (fun _ _ _ _ _ h => h) (fun T hT => ?_)
  iterate 8
    refine wpPlan_takeL (v := ?_) rfl (by rfl) (fun w' hw => ?_) ?_
    rotate_left
    · go_simp
      with_reducible rfl
    simp only [Act.put, qA, qB, qC]
  refine wpPlan_callL rfl (by rfl) Try.call7 (fun w' hw => pof_any (n0x) (d0x) (n0y) (d0y) (a1) (a2) _ HZ1.out HZ2.out (by omega) (by omega) (by omega) (by omega) (by omega) (by omega) (by omega) (by omega)) (by rfl) ?_
  simp only [Act.put, qA, qB, qC]
  refine wpPlan_callL rfl (by rfl) Try.call7 (fun w' hw => pof_any (n1x) (d1x) (n1y) (d1y) (b1) (b2) _ HZ3.out HZ4.out (by omega) (by omega) (by omega) (by omega) (by omega) (by omega) (by omega) (by omega)) (by rfl) ?_
  simp only [Act.put, qA, qB, qC]
  refine wpPlan_callL rfl (by rfl) Try.call7 (fun w' hw => pof_any (n2x) (d2x) (n2y) (d2y) (c1) (c2) _ HZ5.out HZ6.out (by omega) (by omega) (by omega) (by omega) (by omega) (by omega) (by omega) (by omega)) (by rfl) ?_
  simp only [Act.put, qA, qB, qC]
  refine wpPlan_callL rfl (by rfl) Try.call7 (fun w' hw => pof_any (n3x) (d3x) (n3y) (d3y) (d1) (d2) _ HZ7.out HZ8.out (by omega) (by omega) (by omega) (by omega) (by omega) (by omega) (by omega) (by omega)) (by rfl) ?_
  simp only [Act.put, qA, qB, qC]
  refine wpPlan_nil (hT.out _ _ ?_); clear hT T
  intro G vw1 hg hf
  simp only [puts, Act.put, qA, qB, qC, qD, qE, ↓reduceIte, Nat.reduceEqDiff]
  clear lx0
  have HG := Lib.hid (hg)
  clear hg
  have bx1 := Bx.of_fresh hf (i := 12) (by decide) rfl
  have yx1 := (hf.1 12 (by decide)).1
  have bx2 := Bx.of_fresh hf (i := 13) (by decide) rfl
  have yx2 := (hf.1 13 (by decide)).1
  have dx1_2 : G 12 ≠ G 13 := fun e => absurd (hf.2 12 (by decide) 13 (by decide) e) (by decide)
  have bx3 := Bx.of_fresh hf (i := 14) (by decide) rfl
  have yx3 := (hf.1 14 (by decide)).1
  have dx1_3 : G 12 ≠ G 14 := fun e => absurd (hf.2 12 (by decide) 14 (by decide) e) (by decide)
  have dx2_3 : G 13 ≠ G 14 := fun e => absurd (hf.2 13 (by decide) 14 (by decide) e) (by decide)
  have bx4 := Bx.of_fresh hf (i := 15) (by decide) rfl
  have yx4 := (hf.1 15 (by decide)).1
  have dx1_4 : G 12 ≠ G 15 := fun e => absurd (hf.2 12 (by decide) 15 (by decide) e) (by decide)
  have dx2_4 : G 13 ≠ G 15 := fun e => absurd (hf.2 13 (by decide) 15 (by decide) e) (by decide)
  have dx3_4 : G 14 ≠ G 15 := fun e => absurd (hf.2 14 (by decide) 15 (by decide) e) (by decide)
  clear hf
  generalize G 12 = gx1 at *
  generalize G 13 = gx2 at *
  generalize G 14 = gx3 at *
  generalize G 15 = gx4 at *
  have qx0_1 : w.heap.size < gx1 := Nat.lt_of_lt_of_le BX0.out.lt yx1
  have qx0_2 : w.heap.size < gx2 := Nat.lt_of_lt_of_le BX0.out.lt yx2
  have qx0_3 : w.heap.size < gx3 := Nat.lt_of_lt_of_le BX0.out.lt yx3
  have qx0_4 : w.heap.size < gx4 := Nat.lt_of_lt_of_le BX0.out.lt yx4
  replace yx1 : w.heap.size ≤ gx1 := Nat.le_trans HB.out.size yx1
  replace yx2 : w.heap.size ≤ gx2 := Nat.le_trans HB.out.size yx2
  replace yx3 : w.heap.size ≤ gx3 := Nat.le_trans HB.out.size yx3
  replace yx4 : w.heap.size ≤ gx4 := Nat.le_trans HB.out.size yx4
  have bx0 := BX0.out.gr HG.out; clear BX0
  have lx1 := bx1.cells; have fx1 := bx1.free
  have lx2 := bx2.cells; have fx2 := bx2.free
  have lx3 := bx3.cells; have fx3 := bx3.free
  have lx4 := bx4.cells; have fx4 := bx4.free
  have r0 := Gr.refl vw1
  have BX0 := Lib.hid bx0; clear bx0
  have BX1 := Lib.hid bx1; clear bx1
  have BX2 := Lib.hid bx2; clear bx2
  have BX3 := Lib.hid bx3; clear bx3
  have BX4 := Lib.hid bx4; clear bx4
  go_wp2
  refine hK.out _ _ ?_; clear hK K
  show Code.wp _ _ _ _ _
  clear lx1 fx1
  clear lx2 fx2
  clear lx3 fx3
  clear lx4 fx4
  clear r0
  refine forgetW (fun w2 => Bx w2 gx1 38 #[.int .u64 (lo a1.num.natAbs), .string (bg a1.num.natAbs), .bool (decide (a1.num < 0)), .int .u64 (lo (a1.den - 1)), .string (bg (a1.den - 1)), .int .u64 (lo a2.num.natAbs), .string (bg a2.num.natAbs), .bool (decide (a2.num < 0)), .int .u64 (lo (a2.den - 1)), .string (bg (a2.den - 1))] ∧ Bx w2 gx2 38 #[.int .u64 (lo b1.num.natAbs), .string (bg b1.num.natAbs), .bool (decide (b1.num < 0)), .int .u64 (lo (b1.den - 1)), .string (bg (b1.den - 1)), .int .u64 (lo b2.num.natAbs), .string (bg b2.num.natAbs), .bool (decide (b2.num < 0)), .int .u64 (lo (b2.den - 1)), .string (bg (b2.den - 1))] ∧ Bx w2 gx3 38 #[.int .u64 (lo c1.num.natAbs), .string (bg c1.num.natAbs), .bool (decide (c1.num < 0)), .int .u64 (lo (c1.den - 1)), .string (bg (c1.den - 1)), .int .u64 (lo c2.num.natAbs), .string (bg c2.num.natAbs), .bool (decide (c2.num < 0)), .int .u64 (lo (c2.den - 1)), .string (bg (c2.den - 1))] ∧ Bx w2 gx4 38 #[.int .u64 (lo d1.num.natAbs), .string (bg d1.num.natAbs), .bool (decide (d1.num < 0)), .int .u64 (lo (d1.den - 1)), .string (bg (d1.den - 1)), .int .u64 (lo d2.num.natAbs), .string (bg d2.num.natAbs), .bool (decide (d2.num < 0)), .int .u64 (lo (d2.den - 1)), .string (bg (d2.den - 1))] ∧ Below w.heap.size w w2) ⟨(((((((((((((((((((((((((((((((((((((((((BX1.out).set 0 _).set 1 _).set 2 _).set 3 _).set 4 _).set 5 _).set 6 _).set 7 _).set 8 _).set 9 _).setOther (by show gx1 ≠ gx2; omega) _).setOther (by show gx1 ≠ gx2; omega) _).setOther (by show gx1 ≠ gx2; omega) _).setOther (by show gx1 ≠ gx2; omega) _).setOther (by show gx1 ≠ gx2; omega) _).setOther (by show gx1 ≠ gx2; omega) _).setOther (by show gx1 ≠ gx2; omega) _).setOther (by show gx1 ≠ gx2; omega) _).setOther (by show gx1 ≠ gx2; omega) _).setOther (by show gx1 ≠ gx2; omega) _).setOther (by show gx1 ≠ gx3; omega) _).setOther (by show gx1 ≠ gx3; omega) _).setOther (by show gx1 ≠ gx3; omega) _).setOther (by show gx1 ≠ gx3; omega) _).setOther (by show gx1 ≠ gx3; omega) _).setOther (by show gx1 ≠ gx3; omega) _).setOther (by show gx1 ≠ gx3; omega) _).setOther (by show gx1 ≠ gx3; omega) _).setOther (by show gx1 ≠ gx3; omega) _).setOther (by show gx1 ≠ gx3; omega) _).setOther (by show gx1 ≠ gx4; omega) _).setOther (by show gx1 ≠ gx4; omega) _).setOther (by show gx1 ≠ gx4; omega) _).setOther (by show gx1 ≠ gx4; omega) _).setOther (by show gx1 ≠ gx4; omega) _).setOther (by show gx1 ≠ gx4; omega) _).setOther (by show gx1 ≠ gx4; omega) _).setOther (by show gx1 ≠ gx4; omega) _).setOther (by show gx1 ≠ gx4; omega) _).setOther (by show gx1 ≠ gx4; omega) _).eq (by simp only [List.setIfInBounds_toArray, List.set_cons_zero, List.set_cons_succ]), (((((((((((((((((((((((((((((((((((((((((BX2.out).setOther (by show gx2 ≠ gx1; omega) _).setOther (by show gx2 ≠ gx1; omega) _).setOther (by show gx2 ≠ gx1; omega) _).setOther (by show gx2 ≠ gx1; omega) _).setOther (by show gx2 ≠ gx1; omega) _).setOther (by show gx2 ≠ gx1; omega) _).setOther (by show gx2 ≠ gx1; omega) _).setOther (by show gx2 ≠ gx1; omega) _).setOther (by show gx2 ≠ gx1; omega) _).setOther (by show gx2 ≠ gx1; omega) _).set 0 _).set 1 _).set 2 _).set 3 _).set 4 _).set 5 _).set 6 _).set 7 _).set 8 _).set 9 _).setOther (by show gx2 ≠ gx3; omega) _).setOther (by show gx2 ≠ gx3; omega) _).setOther (by show gx2 ≠ gx3; omega) _).setOther (by show gx2 ≠ gx3; omega) _).setOther (by show gx2 ≠ gx3; omega) _).setOther (by show gx2 ≠ gx3; omega) _).setOther (by show gx2 ≠ gx3; omega) _).setOther (by show gx2 ≠ gx3; omega) _).setOther (by show gx2 ≠ gx3; omega) _).setOther (by show gx2 ≠ gx3; omega) _).setOther (by show gx2 ≠ gx4; omega) _).setOther (by show gx2 ≠ gx4; omega) _).setOther (by show gx2 ≠ gx4; omega) _).setOther (by show gx2 ≠ gx4; omega) _).setOther (by show gx2 ≠ gx4; omega) _).setOther (by show gx2 ≠ gx4; omega) _).setOther (by show gx2 ≠ gx4; omega) _).setOther (by show gx2 ≠ gx4; omega) _).setOther (by show gx2 ≠ gx4; omega) _).setOther (by show gx2 ≠ gx4; omega) _).eq (by simp only [List.setIfInBounds_toArray, List.set_cons_zero, List.set_cons_succ]), (((((((((((((((((((((((((((((((((((((((((BX3.out).setOther (by show gx3 ≠ gx1; omega) _).setOther (by show gx3 ≠ gx1; omega) _).setOther (by show gx3 ≠ gx1; omega) _).setOther (by show gx3 ≠ gx1; omega) _).setOther (by show gx3 ≠ gx1; omega) _).setOther (by show gx3 ≠ gx1; omega) _).setOther (by show gx3 ≠ gx1; omega) _).setOther (by show gx3 ≠ gx1; omega) _).setOther (by show gx3 ≠ gx1; omega) _).setOther (by show gx3 ≠ gx1; omega) _).setOther (by show gx3 ≠ gx2; omega) _).setOther (by show gx3 ≠ gx2; omega) _).setOther (by show gx3 ≠ gx2; omega) _).setOther (by show gx3 ≠ gx2; omega) _).setOther (by show gx3 ≠ gx2; omega) _).setOther (by show gx3 ≠ gx2; omega) _).setOther (by show gx3 ≠ gx2; omega) _).setOther (by show gx3 ≠ gx2; omega) _).setOther (by show gx3 ≠ gx2; omega) _).setOther (by show gx3 ≠ gx2; omega) _).set 0 _).set 1 _).set 2 _).set 3 _).set 4 _).set 5 _).set 6 _).set 7 _).set 8 _).set 9 _).setOther (by show gx3 ≠ gx4; omega) _).setOther (by show gx3 ≠ gx4; omega) _).setOther (by show gx3 ≠ gx4; omega) _).setOther (by show gx3 ≠ gx4; omega) _).setOther (by show gx3 ≠ gx4; omega) _).setOther (by show gx3 ≠ gx4; omega) _).setOther (by show gx3 ≠ gx4; omega) _).setOther (by show gx3 ≠ gx4; omega) _).setOther (by show gx3 ≠ gx4; omega) _).setOther (by show gx3 ≠ gx4; omega) _).eq (by simp only [List.setIfInBounds_toArray, List.set_cons_zero, List.set_cons_succ]), (((((((((((((((((((((((((((((((((((((((((BX4.out).setOther (by show gx4 ≠ gx1; omega) _).setOther (by show gx4 ≠ gx1; omega) _).setOther (by show gx4 ≠ gx1; omega) _).setOther (by show gx4 ≠ gx1; omega) _).setOther (by show gx4 ≠ gx1; omega) _).setOther (by show gx4 ≠ gx1; omega) _).setOther (by show gx4 ≠ gx1; omega) _).setOther (by show gx4 ≠ gx1; omega) _).setOther (by show gx4 ≠ gx1; omega) _).setOther (by show gx4 ≠ gx1; omega) _).setOther (by show gx4 ≠ gx2; omega) _).setOther (by show gx4 ≠ gx2; omega) _).setOther (by show gx4 ≠ gx2; omega) _).setOther (by show gx4 ≠ gx2; omega) _).setOther (by show gx4 ≠ gx2; omega) _).setOther (by show gx4 ≠ gx2; omega) _).setOther (by show gx4 ≠ gx2; omega) _).setOther (by show gx4 ≠ gx2; omega) _).setOther (by show gx4 ≠ gx2; omega) _).setOther (by show gx4 ≠ gx2; omega) _).setOther (by show gx4 ≠ gx3; omega) _).setOther (by show gx4 ≠ gx3; omega) _).setOther (by show gx4 ≠ gx3; omega) _).setOther (by show gx4 ≠ gx3; omega) _).setOther (by show gx4 ≠ gx3; omega) _).setOther (by show gx4 ≠ gx3; omega) _).setOther (by show gx4 ≠ gx3; omega) _).setOther (by show gx4 ≠ gx3; omega) _).setOther (by show gx4 ≠ gx3; omega) _).setOther (by show gx4 ≠ gx3; omega) _).set 0 _).set 1 _).set 2 _).set 3 _).set 4 _).set 5 _).set 6 _).set 7 _).set 8 _).set 9 _).eq (by simp only [List.setIfInBounds_toArray, List.set_cons_zero, List.set_cons_succ]), ((((((((((((((((((((((((((((((((((((((((HB.out.trans (HG.out.mono HB.out.size)).setCell (by show w.heap.size ≤ gx1; omega) _).setCell (by show w.heap.size ≤ gx1; omega) _).setCell (by show w.heap.size ≤ gx1; omega) _).setCell (by show w.heap.size ≤ gx1; omega) _).setCell (by show w.heap.size ≤ gx1; omega) _).setCell (by show w.heap.size ≤ gx1; omega) _).setCell (by show w.heap.size ≤ gx1; omega) _).setCell (by show w.heap.size ≤ gx1; omega) _).setCell (by show w.heap.size ≤ gx1; omega) _).setCell (by show w.heap.size ≤ gx1; omega) _).setCell (by show w.heap.size ≤ gx2; omega) _).setCell (by show w.heap.size ≤ gx2; omega) _).setCell (by show w.heap.size ≤ gx2; omega) _).setCell (by show w.heap.size ≤ gx2; omega) _).setCell (by show w.heap.size ≤ gx2; omega) _).setCell (by show w.heap.size ≤ gx2; omega) _).setCell (by show w.heap.size ≤ gx2; omega) _).setCell (by show w.heap.size ≤ gx2; omega) _).setCell (by show w.heap.size ≤ gx2; omega) _).setCell (by show w.heap.size ≤ gx2; omega) _).setCell (by show w.heap.size ≤ gx3; omega) _).setCell (by show w.heap.size ≤ gx3; omega) _).setCell (by show w.heap.size ≤ gx3; omega) _).setCell (by show w.heap.size ≤ gx3; omega) _).setCell (by show w.heap.size ≤ gx3; omega) _).setCell (by show w.heap.size ≤ gx3; omega) _).setCell (by show w.heap.size ≤ gx3; omega) _).setCell (by show w.heap.size ≤ gx3; omega) _).setCell (by show w.heap.size ≤ gx3; omega) _).setCell (by show w.heap.size ≤ gx3; omega) _).setCell (by show w.heap.size ≤ gx4; omega) _).setCell (by show w.heap.size ≤ gx4; omega) _).setCell (by show w.heap.size ≤ gx4; omega) _).setCell (by show w.heap.size ≤ gx4; omega) _).setCell (by show w.heap.size ≤ gx4; omega) _).setCell (by show w.heap.size ≤ gx4; omega) _).setCell (by show w.heap.size ≤ gx4; omega) _).setCell (by show w.heap.size ≤ gx4; omega) _).setCell (by show w.heap.size ≤ gx4; omega) _).setCell (by show w.heap.size ≤ gx4; omega) _⟩ ?_
  clear HB HG BX0 BX1 BX2 BX3 BX4
  rintro Wx1 ⟨bx1, bx2, bx3, bx4, HB⟩
  replace HB := Lib.hid HB
  -- region 2
  have lx1 := bx1.cells
  have lx2 := bx2.cells
  have lx3 := bx3.cells
  have lx4 := bx4.cells
  have BX1 := Lib.hid bx1
  have BX2 := Lib.hid bx2
  have BX3 := Lib.hid bx3
  have BX4 := Lib.hid bx4
  clear bx1 bx2 bx3 bx4
  refine wp_seq_k fun K hK => ?_
  replace hK := Lib.hid hK
  refine wp_region_seqplan 8 [(true, 0), (true, 1), (true, 2), (true, 3), (true, 4), (true, 5), (true, 6), (true, 7)] (by rfl) (by simp) (fun T hT => ?_)
  iterate 4
    refine wpPlan_takeL (v := ?_) rfl (by rfl) (fun w' hw => ?_) ?_
    rotate_left
    · go_simp
      with_reducible rfl
    simp only [Act.put, qA, qB, qC]
  refine wpPlan_callL rfl (by rfl) Try.call21 (fun w' hw => pcut_any (a1, a2) (b1, b2) (c1, c2) (d1, d2) (n) (m1, m2) _ (hc1.out) ⟨by show sz (a1) ≤ 10000000; omega, by show sz (a2) ≤ 10000000; omega⟩ ⟨by show sz (b1) ≤ 10000000; omega, by show sz (b2) ≤ 10000000; omega⟩ ⟨by show sz (c1) ≤ 10000000; omega, by show sz (c2) ≤ 10000000; omega⟩ ⟨by show sz (d1) ≤ 10000000; omega, by show sz (d2) ≤ 10000000; omega⟩) (by rfl) ?_
  simp only [Act.put, qA, qB, qC]
  iterate 3
    refine wpPlan_takeL (v := ?_) rfl (by rfl) (fun w' hw => ?_) ?_
    rotate_left
    · go_simp
      with_reducible rfl
    simp only [Act.put, qA, qB, qC]
  refine wpPlan_nil (hT.out _ _ ?_); clear hT T
  intro vw2 hg
  simp only [puts, Act.put, qA, qB, qC, qD, qE, ↓reduceIte, Nat.reduceEqDiff]
  clear lx1 lx2 lx3 lx4
  have HG := Lib.hid (hg)
  clear hg
  have bx1 := BX1.out.gr HG.out; clear BX1
  have bx2 := BX2.out.gr HG.out; clear BX2
  have bx3 := BX3.out.gr HG.out; clear BX3
  have bx4 := BX4.out.gr HG.out; clear BX4
  have r0 := Gr.refl vw2
  have BX1 := Lib.hid bx1; clear bx1
  have BX2 := Lib.hid bx2; clear bx2
  have BX3 := Lib.hid bx3; clear bx3
  have BX4 := Lib.hid bx4; clear bx4
  go_wp2
  refine hK.out _ _ ?_; clear hK K
  show Code.wp _ _ _ _ _
  clear r0
  have hsz : w.heap.size ≤ vw2.heap.size := Nat.le_trans HB.out.size HG.out.size
  have mx1 : gx1 < vw2.heap.size := BX1.out.lt
  have mx2 : gx2 < vw2.heap.size := BX2.out.lt
  have mx3 : gx3 < vw2.heap.size := BX3.out.lt
  have mx4 : gx4 < vw2.heap.size := BX4.out.lt
  refine forgetW (fun w2 => Bx w2 gx1 38 #[.int .u64 (lo a1.num.natAbs), .string (bg a1.num.natAbs), .bool (decide (a1.num < 0)), .int .u64 (lo (a1.den - 1)), .string (bg (a1.den - 1)), .int .u64 (lo a2.num.natAbs), .string (bg a2.num.natAbs), .bool (decide (a2.num < 0)), .int .u64 (lo (a2.den - 1)), .string (bg (a2.den - 1))] ∧ Bx w2 gx2 38 #[.int .u64 (lo b1.num.natAbs), .string (bg b1.num.natAbs), .bool (decide (b1.num < 0)), .int .u64 (lo (b1.den - 1)), .string (bg (b1.den - 1)), .int .u64 (lo b2.num.natAbs), .string (bg b2.num.natAbs), .bool (decide (b2.num < 0)), .int .u64 (lo (b2.den - 1)), .string (bg (b2.den - 1))] ∧ Bx w2 gx3 38 #[.int .u64 (lo c1.num.natAbs), .string (bg c1.num.natAbs), .bool (decide (c1.num < 0)), .int .u64 (lo (c1.den - 1)), .string (bg (c1.den - 1)), .int .u64 (lo c2.num.natAbs), .string (bg c2.num.natAbs), .bool (decide (c2.num < 0)), .int .u64 (lo (c2.den - 1)), .string (bg (c2.den - 1))] ∧ Bx w2 gx4 38 #[.int .u64 (lo d1.num.natAbs), .string (bg d1.num.natAbs), .bool (decide (d1.num < 0)), .int .u64 (lo (d1.den - 1)), .string (bg (d1.den - 1)), .int .u64 (lo d2.num.natAbs), .string (bg d2.num.natAbs), .bool (decide (d2.num < 0)), .int .u64 (lo (d2.den - 1)), .string (bg (d2.den - 1))] ∧ Bx w2 (vw2.heap.size) 38 #[.int .u64 (lo m1.num.natAbs), .string (bg m1.num.natAbs), .bool (decide (m1.num < 0)), .int .u64 (lo (m1.den - 1)), .string (bg (m1.den - 1)), .int .u64 (lo m2.num.natAbs), .string (bg m2.num.natAbs), .bool (decide (m2.num < 0)), .int .u64 (lo (m2.den - 1)), .string (bg (m2.den - 1))] ∧ Below w.heap.size w w2) ⟨(BX1.out).alloc _, (BX2.out).alloc _, (BX3.out).alloc _, (BX4.out).alloc _, (Bx.at (by simp) : Bx _ (vw2.heap.size) _ _), (HB.out.trans (HG.out.mono HB.out.size)).alloc (by first | omega | (simp; omega)) _⟩ ?_
  clear HB HG BX1 BX2 BX3 BX4
  rintro Wx2 ⟨bx1, bx2, bx3, bx4, bx5, HB⟩
  replace HB := Lib.hid HB
  have yx5 : w.heap.size ≤ vw2.heap.size := by omega
  have qx1_5 : gx1 < vw2.heap.size := by omega
  have qx2_5 : gx2 < vw2.heap.size := by omega
  have qx3_5 : gx3 < vw2.heap.size := by omega
  have qx4_5 : gx4 < vw2.heap.size := by omega
  generalize hx5 : vw2.heap.size = gx5 at *
  clear hx5
  clear hsz mx1 mx2 mx3 mx4
  -- region 3
  have lx1 := bx1.cells
  have lx2 := bx2.cells
  have lx3 := bx3.cells
  have lx4 := bx4.cells
  have BX1 := Lib.hid bx1
  have BX2 := Lib.hid bx2
  have BX3 := Lib.hid bx3
  have BX4 := Lib.hid bx4
  have BX5 := Lib.hid bx5
  clear bx1 bx2 bx3 bx4 bx5
  refine wp_seq_k fun K hK => ?_
  replace hK := Lib.hid hK
  refine wp_region_seqplan 8 [(true, 0), (true, 1), (true, 2), (true, 3), (true, 4), (true, 5), (true, 6), (true, 7)] (by rfl) (by simp) (fun T hT => ?_)
  iterate 4
    refine wpPlan_takeL (v := ?_) rfl (by rfl) (fun w' hw => ?_) ?_
    rotate_left
    · go_simp
      with_reducible rfl
    simp only [Act.put, qA, qB, qC]
  refine wpPlan_callL rfl (by rfl) Try.call21 (fun w' hw => pcut_any (d1, d2) (c1, c2) (b1, b2) (a1, a2) (n) (m1, m2) _ (hc2.out) ⟨by show sz (d1) ≤ 10000000; omega, by show sz (d2) ≤ 10000000; omega⟩ ⟨by show sz (c1) ≤ 10000000; omega, by show sz (c2) ≤ 10000000; omega⟩ ⟨by show sz (b1) ≤ 10000000; omega, by show sz (b2) ≤ 10000000; omega⟩ ⟨by show sz (a1) ≤ 10000000; omega, by show sz (a2) ≤ 10000000; omega⟩) (by rfl) ?_
  simp only [Act.put, qA, qB, qC]
  iterate 3
    refine wpPlan_takeL (v := ?_) rfl (by rfl) (fun w' hw => ?_) ?_
    rotate_left
    · go_simp
      with_reducible rfl
    simp only [Act.put, qA, qB, qC]
  refine wpPlan_nil (hT.out _ _ ?_); clear hT T
  intro vw3 hg
  simp only [puts, Act.put, qA, qB, qC, qD, qE, ↓reduceIte, Nat.reduceEqDiff]
  clear lx1 lx2 lx3 lx4
  have HG := Lib.hid (hg)
  clear hg
  have bx1 := BX1.out.gr HG.out; clear BX1
  have bx2 := BX2.out.gr HG.out; clear BX2
  have bx3 := BX3.out.gr HG.out; clear BX3
  have bx4 := BX4.out.gr HG.out; clear BX4
  have bx5 := BX5.out.gr HG.out; clear BX5
  have r0 := Gr.refl vw3
  have BX1 := Lib.hid bx1; clear bx1
  have BX2 := Lib.hid bx2; clear bx2
  have BX3 := Lib.hid bx3; clear bx3
  have BX4 := Lib.hid bx4; clear bx4
  have BX5 := Lib.hid bx5; clear bx5
  go_wp2
  refine hK.out _ _ ?_; clear hK K
  show Code.wp _ _ _ _ _
  clear r0
  have hsz : w.heap.size ≤ vw3.heap.size := Nat.le_trans HB.out.size HG.out.size
  have mx1 : gx1 < vw3.heap.size := BX1.out.lt
  have mx2 : gx2 < vw3.heap.size := BX2.out.lt
  have mx3 : gx3 < vw3.heap.size := BX3.out.lt
  have mx4 : gx4 < vw3.heap.size := BX4.out.lt
  have mx5 : gx5 < vw3.heap.size := BX5.out.lt
  refine forgetW (fun w2 => Bx w2 gx1 38 #[.int .u64 (lo a1.num.natAbs), .string (bg a1.num.natAbs), .bool (decide (a1.num < 0)), .int .u64 (lo (a1.den - 1)), .string (bg (a1.den - 1)), .int .u64 (lo a2.num.natAbs), .string (bg a2.num.natAbs), .bool (decide (a2.num < 0)), .int .u64 (lo (a2.den - 1)), .string (bg (a2.den - 1))] ∧ Bx w2 gx2 38 #[.int .u64 (lo b1.num.natAbs), .string (bg b1.num.natAbs), .bool (decide (b1.num < 0)), .int .u64 (lo (b1.den - 1)), .string (bg (b1.den - 1)), .int .u64 (lo b2.num.natAbs), .string (bg b2.num.natAbs), .bool (decide (b2.num < 0)), .int .u64 (lo (b2.den - 1)), .string (bg (b2.den - 1))] ∧ Bx w2 gx3 38 #[.int .u64 (lo c1.num.natAbs), .string (bg c1.num.natAbs), .bool (decide (c1.num < 0)), .int .u64 (lo (c1.den - 1)), .string (bg (c1.den - 1)), .int .u64 (lo c2.num.natAbs), .string (bg c2.num.natAbs), .bool (decide (c2.num < 0)), .int .u64 (lo (c2.den - 1)), .string (bg (c2.den - 1))] ∧ Bx w2 gx4 38 #[.int .u64 (lo d1.num.natAbs), .string (bg d1.num.natAbs), .bool (decide (d1.num < 0)), .int .u64 (lo (d1.den - 1)), .string (bg (d1.den - 1)), .int .u64 (lo d2.num.natAbs), .string (bg d2.num.natAbs), .bool (decide (d2.num < 0)), .int .u64 (lo (d2.den - 1)), .string (bg (d2.den - 1))] ∧ Bx w2 gx5 38 #[.int .u64 (lo m1.num.natAbs), .string (bg m1.num.natAbs), .bool (decide (m1.num < 0)), .int .u64 (lo (m1.den - 1)), .string (bg (m1.den - 1)), .int .u64 (lo m2.num.natAbs), .string (bg m2.num.natAbs), .bool (decide (m2.num < 0)), .int .u64 (lo (m2.den - 1)), .string (bg (m2.den - 1))] ∧ Bx w2 (vw3.heap.size) 38 #[.int .u64 (lo m1.num.natAbs), .string (bg m1.num.natAbs), .bool (decide (m1.num < 0)), .int .u64 (lo (m1.den - 1)), .string (bg (m1.den - 1)), .int .u64 (lo m2.num.natAbs), .string (bg m2.num.natAbs), .bool (decide (m2.num < 0)), .int .u64 (lo (m2.den - 1)), .string (bg (m2.den - 1))] ∧ Below w.heap.size w w2) ⟨(BX1.out).alloc _, (BX2.out).alloc _, (BX3.out).alloc _, (BX4.out).alloc _, (BX5.out).alloc _, (Bx.at (by simp) : Bx _ (vw3.heap.size) _ _), (HB.out.trans (HG.out.mono HB.out.size)).alloc (by first | omega | (simp; omega)) _⟩ ?_
  clear HB HG BX1 BX2 BX3 BX4 BX5
  rintro Wx3 ⟨bx1, bx2, bx3, bx4, bx5, bx6, HB⟩
  replace HB := Lib.hid HB
  have yx6 : w.heap.size ≤ vw3.heap.size := by omega
  have qx1_6 : gx1 < vw3.heap.size := by omega
  have qx2_6 : gx2 < vw3.heap.size := by omega
  have qx3_6 : gx3 < vw3.heap.size := by omega
  have qx4_6 : gx4 < vw3.heap.size := by omega
  have qx5_6 : gx5 < vw3.heap.size := by omega
  generalize hx6 : vw3.heap.size = gx6 at *
  clear hx6
  clear hsz mx1 mx2 mx3 mx4 mx5
  refine wp_seq ?_
  -- region 4
  have lx5 := bx5.cells
  have lx6 := bx6.cells
  have BX1 := Lib.hid bx1
  have BX2 := Lib.hid bx2
  have BX3 := Lib.hid bx3
  have BX4 := Lib.hid bx4
  have BX5 := Lib.hid bx5
  have BX6 := Lib.hid bx6
  clear bx1 bx2 bx3 bx4 bx5 bx6
  refine wp_seq_k fun K hK => ?_
  replace hK := Lib.hid hK
  refine wp_region_seqplan 16 [(true, 0), (true, 1), (true, 2), (true, 3), (true, 4), (true, 5), (true, 6), (true, 7), (true, 8), (true, 9), (true, 10), (true, 11), (true, 12), (true, 13), (true, 14), (true, 15)] (by rfl) (by simp) (fun T hT => ?_)
  iterate 16
    refine wpPlan_takeL (v := ?_) rfl (by rfl) (fun w' hw => ?_) ?_
    rotate_left
    · go_simp
      with_reducible rfl
    simp only [Act.put, qA, qB, qC]
  refine wpPlan_nil (hT.out _ _ ?_); clear hT T
  intro vw4 hg
  simp only [puts, Act.put, qA, qB, qC, qD, qE, ↓reduceIte, Nat.reduceEqDiff]
  clear lx5 lx6
  have HG := Lib.hid (hg)
  clear hg
  have bx1 := BX1.out.gr HG.out; clear BX1
  have bx2 := BX2.out.gr HG.out; clear BX2
  have bx3 := BX3.out.gr HG.out; clear BX3
  have bx4 := BX4.out.gr HG.out; clear BX4
  have bx5 := BX5.out.gr HG.out; clear BX5
  have bx6 := BX6.out.gr HG.out; clear BX6
  have r0 := Gr.refl vw4
  have BX1 := Lib.hid bx1; clear bx1
  have BX2 := Lib.hid bx2; clear bx2
  have BX3 := Lib.hid bx3; clear bx3
  have BX4 := Lib.hid bx4; clear bx4
  have BX5 := Lib.hid bx5; clear bx5
  have BX6 := Lib.hid bx6; clear bx6
  go_wp2
  refine hK.out _ _ ?_; clear hK K
  show Code.wp _ _ _ _ _
  clear r0
  refine forgetW (fun w2 => Bx w2 gx1 38 #[.int .u64 (lo a1.num.natAbs), .string (bg a1.num.natAbs), .bool (decide (a1.num < 0)), .int .u64 (lo (a1.den - 1)), .string (bg (a1.den - 1)), .int .u64 (lo a2.num.natAbs), .string (bg a2.num.natAbs), .bool (decide (a2.num < 0)), .int .u64 (lo (a2.den - 1)), .string (bg (a2.den - 1))] ∧ Bx w2 gx2 38 #[.int .u64 (lo b1.num.natAbs), .string (bg b1.num.natAbs), .bool (decide (b1.num < 0)), .int .u64 (lo (b1.den - 1)), .string (bg (b1.den - 1)), .int .u64 (lo b2.num.natAbs), .string (bg b2.num.natAbs), .bool (decide (b2.num < 0)), .int .u64 (lo (b2.den - 1)), .string (bg (b2.den - 1))] ∧ Bx w2 gx3 38 #[.int .u64 (lo c1.num.natAbs), .string (bg c1.num.natAbs), .bool (decide (c1.num < 0)), .int .u64 (lo (c1.den - 1)), .string (bg (c1.den - 1)), .int .u64 (lo c2.num.natAbs), .string (bg c2.num.natAbs), .bool (decide (c2.num < 0)), .int .u64 (lo (c2.den - 1)), .string (bg (c2.den - 1))] ∧ Bx w2 gx4 38 #[.int .u64 (lo d1.num.natAbs), .string (bg d1.num.natAbs), .bool (decide (d1.num < 0)), .int .u64 (lo (d1.den - 1)), .string (bg (d1.den - 1)), .int .u64 (lo d2.num.natAbs), .string (bg d2.num.natAbs), .bool (decide (d2.num < 0)), .int .u64 (lo (d2.den - 1)), .string (bg (d2.den - 1))] ∧ Bx w2 gx5 38 #[.int .u64 (lo m1.num.natAbs), .string (bg m1.num.natAbs), .bool (decide (m1.num < 0)), .int .u64 (lo (m1.den - 1)), .string (bg (m1.den - 1)), .int .u64 (lo m2.num.natAbs), .string (bg m2.num.natAbs), .bool (decide (m2.num < 0)), .int .u64 (lo (m2.den - 1)), .string (bg (m2.den - 1))] ∧ Below w.heap.size w w2) ⟨BX1.out, BX2.out, BX3.out, BX4.out, BX5.out, HB.out.trans (HG.out.mono HB.out.size)⟩ ?_
  clear HB HG BX1 BX2 BX3 BX4 BX5 BX6
  rintro Wx4 ⟨bx1, bx2, bx3, bx4, bx5, HB⟩
  replace HB := Lib.hid HB
  refine wp_cond_false (by rfl) ?_
  refine wp_skip ?_
  show Code.wp _ _ _ _ _
  refine wp_seq ?_
  have way2 := way.out; clear way; rcases way2 with ⟨hp0, on1, on2, way⟩ | ⟨hp0, way⟩
  · -- region 6
    have lx1 := bx1.cells
    have lx2 := bx2.cells
    have lx3 := bx3.cells
    have lx4 := bx4.cells
    have lx5 := bx5.cells
    have BX1 := Lib.hid bx1
    have BX2 := Lib.hid bx2
    have BX3 := Lib.hid bx3
    have BX4 := Lib.hid bx4
    have BX5 := Lib.hid bx5
    clear bx1 bx2 bx3 bx4 bx5
    refine wp_seq_k fun K hK => ?_
    replace hK := Lib.hid hK
    refine wp_region_seqplan 16 [(true, 0), (true, 1), (true, 2), (true, 3), (true, 4), (true, 5), (true, 6), (true, 7), (true, 8), (true, 9), (true, 10), (true, 11), (true, 12), (true, 13), (true, 14), (true, 15)] (by rfl) (by simp) (fun T hT => ?_)
    iterate 6
      refine wpPlan_takeL (v := ?_) rfl (by rfl) (fun w' hw => ?_) ?_
      rotate_left
      · go_simp
        with_reducible rfl
      simp only [Act.put, qA, qB, qC]
    refine wpPlan_callL rfl (by rfl) Try.call22 (fun w' hw => pon_any (a1) (a2) (b1) (b2) (m1) (m2) true _ (on1.out) (by omega) (by omega) (by omega) (by omega) (by omega) (by omega)) (by rfl) ?_
    simp only [Act.put, qA, qB, qC]
    iterate 5
      refine wpPlan_takeL (v := ?_) rfl (by rfl) (fun w' hw => ?_) ?_
      rotate_left
      · go_simp
        with_reducible rfl
      simp only [Act.put, qA, qB, qC]
    refine wpPlan_callL rfl (by rfl) Try.call22 (fun w' hw => pon_any (c1) (c2) (d1) (d2) (m1) (m2) true _ (on2.out) (by omega) (by omega) (by omega) (by omega) (by omega) (by omega)) (by rfl) ?_
    simp only [Act.put, qA, qB, qC]
    iterate 3
      refine wpPlan_takeL (v := ?_) rfl (by rfl) (fun w' hw => ?_) ?_
      rotate_left
      · go_simp
        with_reducible rfl
      simp only [Act.put, qA, qB, qC]
    refine wpPlan_nil (hT.out _ _ ?_); clear hT T
    intro vw5 hg
    simp only [puts, Act.put, qA, qB, qC, qD, qE, ↓reduceIte, Nat.reduceEqDiff]
    clear lx1 lx2 lx3 lx4 lx5
    have HG := Lib.hid (hg)
    clear hg
    have bx1 := BX1.out.gr HG.out; clear BX1
    have bx2 := BX2.out.gr HG.out; clear BX2
    have bx3 := BX3.out.gr HG.out; clear BX3
    have bx4 := BX4.out.gr HG.out; clear BX4
    have bx5 := BX5.out.gr HG.out; clear BX5
    have r0 := Gr.refl vw5
    have BX1 := Lib.hid bx1; clear bx1
    have BX2 := Lib.hid bx2; clear bx2
    have BX3 := Lib.hid bx3; clear bx3
    have BX4 := Lib.hid bx4; clear bx4
    have BX5 := Lib.hid bx5; clear bx5
    go_wp2
    refine hK.out _ _ ?_; clear hK K
    show Code.wp _ _ _ _ _
    clear r0
    refine forgetW (fun w2 => Bx w2 gx1 38 #[.int .u64 (lo a1.num.natAbs), .string (bg a1.num.natAbs), .bool (decide (a1.num < 0)), .int .u64 (lo (a1.den - 1)), .string (bg (a1.den - 1)), .int .u64 (lo a2.num.natAbs), .string (bg a2.num.natAbs), .bool (decide (a2.num < 0)), .int .u64 (lo (a2.den - 1)), .string (bg (a2.den - 1))] ∧ Bx w2 gx2 38 #[.int .u64 (lo b1.num.natAbs), .string (bg b1.num.natAbs), .bool (decide (b1.num < 0)), .int .u64 (lo (b1.den - 1)), .string (bg (b1.den - 1)), .int .u64 (lo b2.num.natAbs), .string (bg b2.num.natAbs), .bool (decide (b2.num < 0)), .int .u64 (lo (b2.den - 1)), .string (bg (b2.den - 1))] ∧ Bx w2 gx3 38 #[.int .u64 (lo c1.num.natAbs), .string (bg c1.num.natAbs), .bool (decide (c1.num < 0)), .int .u64 (lo (c1.den - 1)), .string (bg (c1.den - 1)), .int .u64 (lo c2.num.natAbs), .string (bg c2.num.natAbs), .bool (decide (c2.num < 0)), .int .u64 (lo (c2.den - 1)), .string (bg (c2.den - 1))] ∧ Bx w2 gx4 38 #[.int .u64 (lo d1.num.natAbs), .string (bg d1.num.natAbs), .bool (decide (d1.num < 0)), .int .u64 (lo (d1.den - 1)), .string (bg (d1.den - 1)), .int .u64 (lo d2.num.natAbs), .string (bg d2.num.natAbs), .bool (decide (d2.num < 0)), .int .u64 (lo (d2.den - 1)), .string (bg (d2.den - 1))] ∧ Below w.heap.size w w2) ⟨BX1.out, BX2.out, BX3.out, BX4.out, HB.out.trans (HG.out.mono HB.out.size)⟩ ?_
    clear HB HG BX1 BX2 BX3 BX4 BX5
    rintro Wx6 ⟨bx1, bx2, bx3, bx4, HB⟩
    replace HB := Lib.hid HB
    refine wp_cond_false (by rfl) ?_
    refine wp_skip ?_
    show Code.wp _ _ _ _ _
    -- region 8
    have HZ9 : Hid (((a1) + (b1)) * half = g1) := Lib.hid (hg1.out)
    have HZ10 : Hid (((a2) + (b2)) * half = g2) := Lib.hid (hg2.out)
    have lx1 := bx1.cells
    have lx2 := bx2.cells
    have BX1 := Lib.hid bx1
    have BX2 := Lib.hid bx2
    have BX3 := Lib.hid bx3
    have BX4 := Lib.hid bx4
    clear bx1 bx2 bx3 bx4
    refine wp_seq_k fun K hK => ?_
    replace hK := Lib.hid hK
    refine wp_region_seqplan 3 [(true, 0), (true, 1), (true, 2)] (by rfl) (by simp) (fun T hT => ?_)
    iterate 2
      refine wpPlan_takeL (v := ?_) rfl (by rfl) (fun w' hw => ?_) ?_
      rotate_left
      · go_simp
        with_reducible rfl
      simp only [Act.put, qA, qB, qC]
    refine wpPlan_callL rfl (by rfl) Try.call20 (fun w' hw => pmid_any (a1) (a2) (b1) (b2) (g1) (g2) _ HZ9.out HZ10.out (by omega) (by omega) (by omega) (by omega)) (by rfl) ?_
    simp only [Act.put, qA, qB, qC]
    refine wpPlan_nil (hT.out _ _ ?_); clear hT T
    intro vw6 hg
    simp only [puts, Act.put, qA, qB, qC, qD, qE, ↓reduceIte, Nat.reduceEqDiff]
    clear lx1 lx2
    have HG := Lib.hid (hg)
    clear hg
    have bx1 := BX1.out.gr HG.out; clear BX1
    have bx2 := BX2.out.gr HG.out; clear BX2
    have bx3 := BX3.out.gr HG.out; clear BX3
    have bx4 := BX4.out.gr HG.out; clear BX4
    have r0 := Gr.refl vw6
    have BX1 := Lib.hid bx1; clear bx1
    have BX2 := Lib.hid bx2; clear bx2
    have BX3 := Lib.hid bx3; clear bx3
    have BX4 := Lib.hid bx4; clear bx4
    go_wp2
    refine hK.out _ _ ?_; clear hK K
    show Code.wp _ _ _ _ _
    clear r0
    have hsz : w.heap.size ≤ vw6.heap.size := Nat.le_trans HB.out.size HG.out.size
    have mx1 : gx1 < vw6.heap.size := BX1.out.lt
    have mx2 : gx2 < vw6.heap.size := BX2.out.lt
    have mx3 : gx3 < vw6.heap.size := BX3.out.lt
    have mx4 : gx4 < vw6.heap.size := BX4.out.lt
    refine forgetW (fun w2 => Bx w2 gx1 38 #[.int .u64 (lo a1.num.natAbs), .string (bg a1.num.natAbs), .bool (decide (a1.num < 0)), .int .u64 (lo (a1.den - 1)), .string (bg (a1.den - 1)), .int .u64 (lo a2.num.natAbs), .string (bg a2.num.natAbs), .bool (decide (a2.num < 0)), .int .u64 (lo (a2.den - 1)), .string (bg (a2.den - 1))] ∧ Bx w2 gx2 38 #[.int .u64 (lo b1.num.natAbs), .string (bg b1.num.natAbs), .bool (decide (b1.num < 0)), .int .u64 (lo (b1.den - 1)), .string (bg (b1.den - 1)), .int .u64 (lo b2.num.natAbs), .string (bg b2.num.natAbs), .bool (decide (b2.num < 0)), .int .u64 (lo (b2.den - 1)), .string (bg (b2.den - 1))] ∧ Bx w2 gx3 38 #[.int .u64 (lo c1.num.natAbs), .string (bg c1.num.natAbs), .bool (decide (c1.num < 0)), .int .u64 (lo (c1.den - 1)), .string (bg (c1.den - 1)), .int .u64 (lo c2.num.natAbs), .string (bg c2.num.natAbs), .bool (decide (c2.num < 0)), .int .u64 (lo (c2.den - 1)), .string (bg (c2.den - 1))] ∧ Bx w2 gx4 38 #[.int .u64 (lo d1.num.natAbs), .string (bg d1.num.natAbs), .bool (decide (d1.num < 0)), .int .u64 (lo (d1.den - 1)), .string (bg (d1.den - 1)), .int .u64 (lo d2.num.natAbs), .string (bg d2.num.natAbs), .bool (decide (d2.num < 0)), .int .u64 (lo (d2.den - 1)), .string (bg (d2.den - 1))] ∧ Bx w2 (vw6.heap.size) 38 #[.int .u64 (lo g1.num.natAbs), .string (bg g1.num.natAbs), .bool (decide (g1.num < 0)), .int .u64 (lo (g1.den - 1)), .string (bg (g1.den - 1)), .int .u64 (lo g2.num.natAbs), .string (bg g2.num.natAbs), .bool (decide (g2.num < 0)), .int .u64 (lo (g2.den - 1)), .string (bg (g2.den - 1))] ∧ Below w.heap.size w w2) ⟨(BX1.out).alloc _, (BX2.out).alloc _, (BX3.out).alloc _, (BX4.out).alloc _, (Bx.at (by simp) : Bx _ (vw6.heap.size) _ _), (HB.out.trans (HG.out.mono HB.out.size)).alloc (by first | omega | (simp; omega)) _⟩ ?_
    clear HB HG BX1 BX2 BX3 BX4
    rintro Wx8 ⟨bx1, bx2, bx3, bx4, bx7, HB⟩
    replace HB := Lib.hid HB
    have yx7 : w.heap.size ≤ vw6.heap.size := by omega
    have qx1_7 : gx1 < vw6.heap.size := by omega
    have qx2_7 : gx2 < vw6.heap.size := by omega
    have qx3_7 : gx3 < vw6.heap.size := by omega
    have qx4_7 : gx4 < vw6.heap.size := by omega
    generalize hx7 : vw6.heap.size = gx7 at *
    clear hx7
    clear hsz mx1 mx2 mx3 mx4
    -- region 9
    have lx1 := bx1.cells
    have lx2 := bx2.cells
    have lx3 := bx3.cells
    have lx7 := bx7.cells
    have BX1 := Lib.hid bx1
    have BX2 := Lib.hid bx2
    have BX3 := Lib.hid bx3
    have BX4 := Lib.hid bx4
    have BX7 := Lib.hid bx7
    clear bx1 bx2 bx3 bx4 bx7
    refine wp_seq_k fun K hK => ?_
    replace hK := Lib.hid hK
    refine wp_region_seqplan 8 [(true, 0), (true, 1), (true, 2), (true, 3), (true, 4), (true, 5), (true, 6), (true, 7)] (by rfl) (by simp) (fun T hT => ?_)
    iterate 4
      refine wpPlan_takeL (v := ?_) rfl (by rfl) (fun w' hw => ?_) ?_
      rotate_left
      · go_simp
        with_reducible rfl
      simp only [Act.put, qA, qB, qC]
    refine wpPlan_callL rfl (by rfl) Try.call21 (fun w' hw => pcut_any (a1, a2) (b1, b2) (g1, g2) (c1, c2) (k) (r1, r2) _ (hc3.out) ⟨by show sz (a1) ≤ 10000000; omega, by show sz (a2) ≤ 10000000; omega⟩ ⟨by show sz (b1) ≤ 10000000; omega, by show sz (b2) ≤ 10000000; omega⟩ ⟨by show sz (g1) ≤ 10000000; omega, by show sz (g2) ≤ 10000000; omega⟩ ⟨by show sz (c1) ≤ 10000000; omega, by show sz (c2) ≤ 10000000; omega⟩) (by rfl) ?_
    simp only [Act.put, qA, qB, qC]
    iterate 3
      refine wpPlan_takeL (v := ?_) rfl (by rfl) (fun w' hw => ?_) ?_
      rotate_left
      · go_simp
        with_reducible rfl
      simp only [Act.put, qA, qB, qC]
    refine wpPlan_nil (hT.out _ _ ?_); clear hT T
    intro vw7 hg
    simp only [puts, Act.put, qA, qB, qC, qD, qE, ↓reduceIte, Nat.reduceEqDiff]
    clear lx1 lx2 lx3 lx7
    have HG := Lib.hid (hg)
    clear hg
    have bx1 := BX1.out.gr HG.out; clear BX1
    have bx2 := BX2.out.gr HG.out; clear BX2
    have bx3 := BX3.out.gr HG.out; clear BX3
    have bx4 := BX4.out.gr HG.out; clear BX4
    have bx7 := BX7.out.gr HG.out; clear BX7
    have r0 := Gr.refl vw7
    have BX1 := Lib.hid bx1; clear bx1
    have BX2 := Lib.hid bx2; clear bx2
    have BX3 := Lib.hid bx3; clear bx3
    have BX4 := Lib.hid bx4; clear bx4
    have BX7 := Lib.hid bx7; clear bx7
    go_wp2
    refine hK.out _ _ ?_; clear hK K
    show Code.wp _ _ _ _ _
    clear r0
    have hsz : w.heap.size ≤ vw7.heap.size := Nat.le_trans HB.out.size HG.out.size
    have mx1 : gx1 < vw7.heap.size := BX1.out.lt
    have mx2 : gx2 < vw7.heap.size := BX2.out.lt
    have mx3 : gx3 < vw7.heap.size := BX3.out.lt
    have mx4 : gx4 < vw7.heap.size := BX4.out.lt
    have mx7 : gx7 < vw7.heap.size := BX7.out.lt
    refine forgetW (fun w2 => Bx w2 gx1 38 #[.int .u64 (lo a1.num.natAbs), .string (bg a1.num.natAbs), .bool (decide (a1.num < 0)), .int .u64 (lo (a1.den - 1)), .string (bg (a1.den - 1)), .int .u64 (lo a2.num.natAbs), .string (bg a2.num.natAbs), .bool (decide (a2.num < 0)), .int .u64 (lo (a2.den - 1)), .string (bg (a2.den - 1))] ∧ Bx w2 gx2 38 #[.int .u64 (lo b1.num.natAbs), .string (bg b1.num.natAbs), .bool (decide (b1.num < 0)), .int .u64 (lo (b1.den - 1)), .string (bg (b1.den - 1)), .int .u64 (lo b2.num.natAbs), .string (bg b2.num.natAbs), .bool (decide (b2.num < 0)), .int .u64 (lo (b2.den - 1)), .string (bg (b2.den - 1))] ∧ Bx w2 gx3 38 #[.int .u64 (lo c1.num.natAbs), .string (bg c1.num.natAbs), .bool (decide (c1.num < 0)), .int .u64 (lo (c1.den - 1)), .string (bg (c1.den - 1)), .int .u64 (lo c2.num.natAbs), .string (bg c2.num.natAbs), .bool (decide (c2.num < 0)), .int .u64 (lo (c2.den - 1)), .string (bg (c2.den - 1))] ∧ Bx w2 gx4 38 #[.int .u64 (lo d1.num.natAbs), .string (bg d1.num.natAbs), .bool (decide (d1.num < 0)), .int .u64 (lo (d1.den - 1)), .string (bg (d1.den - 1)), .int .u64 (lo d2.num.natAbs), .string (bg d2.num.natAbs), .bool (decide (d2.num < 0)), .int .u64 (lo (d2.den - 1)), .string (bg (d2.den - 1))] ∧ Bx w2 gx7 38 #[.int .u64 (lo g1.num.natAbs), .string (bg g1.num.natAbs), .bool (decide (g1.num < 0)), .int .u64 (lo (g1.den - 1)), .string (bg (g1.den - 1)), .int .u64 (lo g2.num.natAbs), .string (bg g2.num.natAbs), .bool (decide (g2.num < 0)), .int .u64 (lo (g2.den - 1)), .string (bg (g2.den - 1))] ∧ Bx w2 (vw7.heap.size) 38 #[.int .u64 (lo r1.num.natAbs), .string (bg r1.num.natAbs), .bool (decide (r1.num < 0)), .int .u64 (lo (r1.den - 1)), .string (bg (r1.den - 1)), .int .u64 (lo r2.num.natAbs), .string (bg r2.num.natAbs), .bool (decide (r2.num < 0)), .int .u64 (lo (r2.den - 1)), .string (bg (r2.den - 1))] ∧ Below w.heap.size w w2) ⟨(BX1.out).alloc _, (BX2.out).alloc _, (BX3.out).alloc _, (BX4.out).alloc _, (BX7.out).alloc _, (Bx.at (by simp) : Bx _ (vw7.heap.size) _ _), (HB.out.trans (HG.out.mono HB.out.size)).alloc (by first | omega | (simp; omega)) _⟩ ?_
    clear HB HG BX1 BX2 BX3 BX4 BX7
    rintro Wx9 ⟨bx1, bx2, bx3, bx4, bx7, bx8, HB⟩
    replace HB := Lib.hid HB
    have yx8 : w.heap.size ≤ vw7.heap.size := by omega
    have qx1_8 : gx1 < vw7.heap.size := by omega
    have qx2_8 : gx2 < vw7.heap.size := by omega
    have qx3_8 : gx3 < vw7.heap.size := by omega
    have qx4_8 : gx4 < vw7.heap.size := by omega
    have qx7_8 : gx7 < vw7.heap.size := by omega
    generalize hx8 : vw7.heap.size = gx8 at *
    clear hx8
    clear hsz mx1 mx2 mx3 mx4 mx7
    refine wp_seq ?_
    -- region 10
    have lx1 := bx1.cells
    have lx2 := bx2.cells
    have lx7 := bx7.cells
    have lx8 := bx8.cells
    have BX1 := Lib.hid bx1
    have BX2 := Lib.hid bx2
    have BX3 := Lib.hid bx3
    have BX4 := Lib.hid bx4
    have BX7 := Lib.hid bx7
    have BX8 := Lib.hid bx8
    clear bx1 bx2 bx3 bx4 bx7 bx8
    refine wp_seq_k fun K hK => ?_
    replace hK := Lib.hid hK
    refine wp_region_seqplan 23 [(true, 0), (true, 1), (true, 2), (true, 3), (true, 4), (true, 5), (true, 6), (true, 7), (true, 8), (true, 9), (true, 10), (true, 11), (true, 12), (true, 13), (true, 14), (true, 15), (true, 16), (true, 17), (true, 18), (true, 19), (true, 20), (true, 21), (true, 22)] (by rfl) (by simp) (fun T hT => ?_)
    iterate 3
      refine wpPlan_takeL (v := ?_) rfl (by rfl) (fun w' hw => ?_) ?_
      rotate_left
      · go_simp
        with_reducible rfl
      simp only [Act.put, qA, qB, qC]
    refine wpPlan_callL rfl (by rfl) Try.call22 (fun w' hw => pon_any (a1) (a2) (b1) (b2) (g1) (g2) true _ (on3.out) (by omega) (by omega) (by omega) (by omega) (by omega) (by omega)) (by rfl) ?_
    simp only [Act.put, qA, qB, qC]
    iterate 5
      refine wpPlan_takeL (v := ?_) rfl (by rfl) (fun w' hw => ?_) ?_
      rotate_left
      · go_simp
        with_reducible rfl
      simp only [Act.put, qA, qB, qC]
    refine wpPlan_callL rfl (by rfl) Try.call22 (fun w' hw => pon_any (a1) (a2) (b1) (b2) (a1) (a2) true _ (on4.out) (by omega) (by omega) (by omega) (by omega) (by omega) (by omega)) (by rfl) ?_
    simp only [Act.put, qA, qB, qC]
    iterate 10
      refine wpPlan_takeL (v := ?_) rfl (by rfl) (fun w' hw => ?_) ?_
      rotate_left
      · go_simp
        with_reducible rfl
      simp only [Act.put, qA, qB, qC]
    refine wpPlan_callL rfl (by rfl) Try.call22 (fun w' hw => pon_any (a1) (a2) (b1) (b2) (r1) (r2) true _ (on5.out) (by omega) (by omega) (by omega) (by omega) (by omega) (by omega)) (by rfl) ?_
    simp only [Act.put, qA, qB, qC]
    iterate 2
      refine wpPlan_takeL (v := ?_) rfl (by rfl) (fun w' hw => ?_) ?_
      rotate_left
      · go_simp
        with_reducible rfl
      simp only [Act.put, qA, qB, qC]
    refine wpPlan_nil (hT.out _ _ ?_); clear hT T
    intro vw8 hg
    simp only [puts, Act.put, qA, qB, qC, qD, qE, ↓reduceIte, Nat.reduceEqDiff]
    clear lx1 lx2 lx7 lx8
    have HG := Lib.hid (hg)
    clear hg
    have bx1 := BX1.out.gr HG.out; clear BX1
    have bx2 := BX2.out.gr HG.out; clear BX2
    have bx3 := BX3.out.gr HG.out; clear BX3
    have bx4 := BX4.out.gr HG.out; clear BX4
    have bx7 := BX7.out.gr HG.out; clear BX7
    have bx8 := BX8.out.gr HG.out; clear BX8
    have r0 := Gr.refl vw8
    have BX1 := Lib.hid bx1; clear bx1
    have BX2 := Lib.hid bx2; clear bx2
    have BX3 := Lib.hid bx3; clear bx3
    have BX4 := Lib.hid bx4; clear bx4
    have BX7 := Lib.hid bx7; clear bx7
    have BX8 := Lib.hid bx8; clear bx8
    go_wp2
    refine hK.out _ _ ?_; clear hK K
    show Code.wp _ _ _ _ _
    clear r0
    refine forgetW (fun w2 => Bx w2 gx1 38 #[.int .u64 (lo a1.num.natAbs), .string (bg a1.num.natAbs), .bool (decide (a1.num < 0)), .int .u64 (lo (a1.den - 1)), .string (bg (a1.den - 1)), .int .u64 (lo a2.num.natAbs), .string (bg a2.num.natAbs), .bool (decide (a2.num < 0)), .int .u64 (lo (a2.den - 1)), .string (bg (a2.den - 1))] ∧ Bx w2 gx2 38 #[.int .u64 (lo b1.num.natAbs), .string (bg b1.num.natAbs), .bool (decide (b1.num < 0)), .int .u64 (lo (b1.den - 1)), .string (bg (b1.den - 1)), .int .u64 (lo b2.num.natAbs), .string (bg b2.num.natAbs), .bool (decide (b2.num < 0)), .int .u64 (lo (b2.den - 1)), .string (bg (b2.den - 1))] ∧ Bx w2 gx3 38 #[.int .u64 (lo c1.num.natAbs), .string (bg c1.num.natAbs), .bool (decide (c1.num < 0)), .int .u64 (lo (c1.den - 1)), .string (bg (c1.den - 1)), .int .u64 (lo c2.num.natAbs), .string (bg c2.num.natAbs), .bool (decide (c2.num < 0)), .int .u64 (lo (c2.den - 1)), .string (bg (c2.den - 1))] ∧ Bx w2 gx4 38 #[.int .u64 (lo d1.num.natAbs), .string (bg d1.num.natAbs), .bool (decide (d1.num < 0)), .int .u64 (lo (d1.den - 1)), .string (bg (d1.den - 1)), .int .u64 (lo d2.num.natAbs), .string (bg d2.num.natAbs), .bool (decide (d2.num < 0)), .int .u64 (lo (d2.den - 1)), .string (bg (d2.den - 1))] ∧ Below w.heap.size w w2) ⟨BX1.out, BX2.out, BX3.out, BX4.out, HB.out.trans (HG.out.mono HB.out.size)⟩ ?_
    clear HB HG BX1 BX2 BX3 BX4 BX7 BX8
    rintro Wx10 ⟨bx1, bx2, bx3, bx4, HB⟩
    replace HB := Lib.hid HB
    refine wp_cond_false (by rfl) ?_
    refine wp_skip ?_
    show Code.wp _ _ _ _ _
    -- region 12
    have lx1 := bx1.cells
    have lx2 := bx2.cells
    have lx3 := bx3.cells
    have lx4 := bx4.cells
    have BX1 := Lib.hid bx1
    have BX2 := Lib.hid bx2
    have BX3 := Lib.hid bx3
    have BX4 := Lib.hid bx4
    clear bx1 bx2 bx3 bx4
    refine wp_seq_k fun K hK => ?_
    replace hK := Lib.hid hK
    refine wp_region_plan 9 [] [] (fun _ => 0) (fun _ => .cells #[] 0) [(true, 0), (true, 1), (true, 2), (true, 4), (true, 5), (true, 6), (true, 3), (true, 7), (true, 8)] (by kernel_rfl) (by kernel_rfl) (fun i hi => by cases hi) (fun i hi => by cases hi) (fun _ _ _ _ _ h => h) (fun T hT => ?_)
    iterate 6
      refine wpPlan_takeL (v := ?_) rfl (by rfl) (fun w' hw => ?_) ?_
      rotate_left
      · go_simp
        with_reducible rfl
      simp only [Act.put, qA, qB, qC]
    refine wpPlan_callL rfl (by rfl) Try.call13 (fun w' hw => pturn_any (a1) (a2) (b1) (b2) (c1) (c2) (t1) _ (ht1.out) (by omega) (by omega) (by omega) (by omega) (by omega) (by omega)) (by rfl) ?_
    simp only [Act.put, qA, qB, qC]
    refine wpPlan_callL rfl (by rfl) Try.call13 (fun w' hw => pturn_any (a1) (a2) (b1) (b2) (d1) (d2) (t2) _ (ht2.out) (by omega) (by omega) (by omega) (by omega) (by omega) (by omega)) (by rfl) ?_
    simp only [Act.put, qA, qB, qC]
    iterate 1
      refine wpPlan_takeL (v := ?_) rfl (by rfl) (fun w' hw => ?_) ?_
      rotate_left
      · go_simp
        with_reducible rfl
      simp only [Act.put, qA, qB, qC]
    refine wpPlan_nil (hT.out _ _ ?_); clear hT T
    intro G vw9 hg hf
    simp only [puts, Act.put, qA, qB, qC, qD, qE, ↓reduceIte, Nat.reduceEqDiff]
    clear lx1 lx2 lx3 lx4
    have HG := Lib.hid (hg)
    clear hg
    have bx1 := BX1.out.gr HG.out; clear BX1
    have bx2 := BX2.out.gr HG.out; clear BX2
    have bx3 := BX3.out.gr HG.out; clear BX3
    have bx4 := BX4.out.gr HG.out; clear BX4
    have r0 := Gr.refl vw9
    have BX1 := Lib.hid bx1; clear bx1
    have BX2 := Lib.hid bx2; clear bx2
    have BX3 := Lib.hid bx3; clear bx3
    have BX4 := Lib.hid bx4; clear bx4
    go_wp2
    refine hK.out _ _ ?_; clear hK K
    show Code.wp _ _ _ _ _
    clear r0
    refine forgetW (fun w2 => Bx w2 gx1 38 #[.int .u64 (lo a1.num.natAbs), .string (bg a1.num.natAbs), .bool (decide (a1.num < 0)), .int .u64 (lo (a1.den - 1)), .string (bg (a1.den - 1)), .int .u64 (lo a2.num.natAbs), .string (bg a2.num.natAbs), .bool (decide (a2.num < 0)), .int .u64 (lo (a2.den - 1)), .string (bg (a2.den - 1))] ∧ Bx w2 gx2 38 #[.int .u64 (lo b1.num.natAbs), .string (bg b1.num.natAbs), .bool (decide (b1.num < 0)), .int .u64 (lo (b1.den - 1)), .string (bg (b1.den - 1)), .int .u64 (lo b2.num.natAbs), .string (bg b2.num.natAbs), .bool (decide (b2.num < 0)), .int .u64 (lo (b2.den - 1)), .string (bg (b2.den - 1))] ∧ Bx w2 gx3 38 #[.int .u64 (lo c1.num.natAbs), .string (bg c1.num.natAbs), .bool (decide (c1.num < 0)), .int .u64 (lo (c1.den - 1)), .string (bg (c1.den - 1)), .int .u64 (lo c2.num.natAbs), .string (bg c2.num.natAbs), .bool (decide (c2.num < 0)), .int .u64 (lo (c2.den - 1)), .string (bg (c2.den - 1))] ∧ Bx w2 gx4 38 #[.int .u64 (lo d1.num.natAbs), .string (bg d1.num.natAbs), .bool (decide (d1.num < 0)), .int .u64 (lo (d1.den - 1)), .string (bg (d1.den - 1)), .int .u64 (lo d2.num.natAbs), .string (bg d2.num.natAbs), .bool (decide (d2.num < 0)), .int .u64 (lo (d2.den - 1)), .string (bg (d2.den - 1))] ∧ Below w.heap.size w w2) ⟨BX1.out, BX2.out, BX3.out, BX4.out, HB.out.trans (HG.out.mono HB.out.size)⟩ ?_
    clear HB HG BX1 BX2 BX3 BX4
    rintro Wx12 ⟨bx1, bx2, bx3, bx4, HB⟩
    replace HB := Lib.hid HB
    -- region 13
    have lx1 := bx1.cells
    have lx2 := bx2.cells
    have lx3 := bx3.cells
    have lx4 := bx4.cells
    have BX1 := Lib.hid bx1
    have BX2 := Lib.hid bx2
    have BX3 := Lib.hid bx3
    have BX4 := Lib.hid bx4
    clear bx1 bx2 bx3 bx4
    refine wp_seq_k fun K hK => ?_
    replace hK := Lib.hid hK
    refine wp_region_plan 9 [] [] (fun _ => 0) (fun _ => .cells #[] 0) [(true, 0), (true, 1), (true, 2), (true, 4), (true, 5), (true, 6), (true, 3), (true, 7), (true, 8)] (by kernel_rfl) (by kernel_rfl) (fun i hi => by cases hi) (fun i hi => by cases hi) (fun _ _ _ _ _ h => h) (fun T hT => ?_)
    iterate 6
      refine wpPlan_takeL (v := ?_) rfl (by rfl) (fun w' hw => ?_) ?_
      rotate_left
      · go_simp
        with_reducible rfl
      simp only [Act.put, qA, qB, qC]
    refine wpPlan_callL rfl (by rfl) Try.call13 (fun w' hw => pturn_any (c1) (c2) (d1) (d2) (a1) (a2) (t3) _ (ht3.out) (by omega) (by omega) (by omega) (by omega) (by omega) (by omega)) (by rfl) ?_
    simp only [Act.put, qA, qB, qC]
    refine wpPlan_callL rfl (by rfl) Try.call13 (fun w' hw => pturn_any (c1) (c2) (d1) (d2) (b1) (b2) (t4) _ (ht4.out) (by omega) (by omega) (by omega) (by omega) (by omega) (by omega)) (by rfl) ?_
    simp only [Act.put, qA, qB, qC]
    iterate 1
      refine wpPlan_takeL (v := ?_) rfl (by rfl) (fun w' hw => ?_) ?_
      rotate_left
      · go_simp
        with_reducible rfl
      simp only [Act.put, qA, qB, qC]
    refine wpPlan_nil (hT.out _ _ ?_); clear hT T
    intro G vw10 hg hf
    simp only [puts, Act.put, qA, qB, qC, qD, qE, ↓reduceIte, Nat.reduceEqDiff]
    clear lx1 lx2 lx3 lx4
    have HG := Lib.hid (hg)
    clear hg
    have bx1 := BX1.out.gr HG.out; clear BX1
    have bx2 := BX2.out.gr HG.out; clear BX2
    have bx3 := BX3.out.gr HG.out; clear BX3
    have bx4 := BX4.out.gr HG.out; clear BX4
    have r0 := Gr.refl vw10
    have BX1 := Lib.hid bx1; clear bx1
    have BX2 := Lib.hid bx2; clear bx2
    have BX3 := Lib.hid bx3; clear bx3
    have BX4 := Lib.hid bx4; clear bx4
    go_wp2
    refine hK.out _ _ ?_; clear hK K
    show Code.wp _ _ _ _ _
    clear r0
    refine forgetW (fun w2 => Below w.heap.size w w2) (HB.out.trans (HG.out.mono HB.out.size)) ?_
    clear HB HG BX1 BX2 BX3 BX4
    rintro Wx13 HB
    replace HB := Lib.hid HB
    have way2 := way.out; clear way; rcases way2 with ⟨e1, e2⟩ | ⟨e1, e2, e3⟩ | ⟨e1, e2, e3, e4⟩
    · -- region 14
      refine wp_seq_k fun K hK => ?_
      replace hK := Lib.hid hK
      refine wp_region_seqplan 22 [(true, 0), (true, 1), (true, 2), (true, 3), (true, 4), (true, 5), (true, 6), (true, 7), (true, 8), (true, 9), (true, 10), (true, 11), (true, 12), (true, 13), (true, 14), (true, 15), (true, 16), (true, 17), (true, 18), (true, 19), (true, 20), (true, 21)] (by rfl) (by simp) (fun T hT => ?_)
      iterate 3
        refine wpPlan_takeL (v := ?_) rfl (by rfl) (fun w' hw => ?_) ?_
        rotate_left
        · go_simp
          with_reducible rfl
        simp only [Act.put, qA, qB, qC]
      refine wpPlan_skipL rfl (by rfl) ?_
      simp only [Act.put, qA, qB, qC]
      refine wpPlan_skipL rfl (by rfl) ?_
      simp only [Act.put, qA, qB, qC]
      iterate 2
        refine wpPlan_takeL (v := ?_) rfl (by rfl) (fun w' hw => ?_) ?_
        rotate_left
        · go_simp
          with_reducible rfl
        simp only [Act.put, qA, qB, qC]
      refine wpPlan_skipL rfl (by rfl) ?_
      simp only [Act.put, qA, qB, qC]
      refine wpPlan_skipL rfl (by rfl) ?_
      simp only [Act.put, qA, qB, qC]
      iterate 5
        refine wpPlan_takeL (v := ?_) rfl (by rfl) (fun w' hw => ?_) ?_
        rotate_left
        · go_simp
          with_reducible rfl
        simp only [Act.put, qA, qB, qC]
      refine wpPlan_skipL rfl (by rfl) ?_
      simp only [Act.put, qA, qB, qC]
      refine wpPlan_skipL rfl (by rfl) ?_
      simp only [Act.put, qA, qB, qC]
      iterate 3
        refine wpPlan_takeL (v := ?_) rfl (by rfl) (fun w' hw => ?_) ?_
        rotate_left
        · go_simp
          with_reducible rfl
        simp only [Act.put, qA, qB, qC]
      refine wpPlan_callL rfl (by rfl) Try.call16 (fun w' hw => lives_any _) (by rfl) ?_
      simp only [Act.put, qA, qB, qC]
      iterate 2
        refine wpPlan_takeL (v := ?_) rfl (by rfl) (fun w' hw => ?_) ?_
        rotate_left
        · go_simp
          with_reducible rfl
        simp only [Act.put, qA, qB, qC]
      refine wpPlan_nil (hT.out _ _ ?_); clear hT T
      intro vw11 hg
      simp only [puts, Act.put, qA, qB, qC, qD, qE, ↓reduceIte, Nat.reduceEqDiff]
      have HG := Lib.hid (hg)
      clear hg
      have r0 := Gr.refl vw11
      go_wp2
      refine hK.out _ _ ?_; clear hK K
      show Code.wp _ _ _ _ _
      clear r0
      refine forgetW (fun w2 => Below w.heap.size w w2) (HB.out.trans (HG.out.mono HB.out.size)) ?_
      clear HB HG
      rintro Wx14 HB
      replace HB := Lib.hid HB
      refine wp_ret ?_
      try simp only [Exit.then, Exit.inBlock]
      have r0 := Gr.refl Wx14
      exact bodyPost_ret (v := .bool true) (by simp [results, Try.results5, go_sem]) rfl ⟨rfl, HB.out⟩
    · -- region 14
      refine wp_seq_k fun K hK => ?_
      replace hK := Lib.hid hK
      refine wp_region_seqplan 22 [(true, 0), (true, 1), (true, 2), (true, 3), (true, 4), (true, 5), (true, 6), (true, 7), (true, 8), (true, 9), (true, 10), (true, 11), (true, 12), (true, 13), (true, 14), (true, 15), (true, 16), (true, 17), (true, 18), (true, 19), (true, 20), (true, 21)] (by rfl) (by simp) (fun T hT => ?_)
      iterate 7
        refine wpPlan_takeL (v := ?_) rfl (by rfl) (fun w' hw => ?_) ?_
        rotate_left
        · go_simp
          with_reducible rfl
        simp only [Act.put, qA, qB, qC]
      refine wpPlan_skipL rfl (by rfl) ?_
      simp only [Act.put, qA, qB, qC]
      refine wpPlan_skipL rfl (by rfl) ?_
      simp only [Act.put, qA, qB, qC]
      iterate 5
        refine wpPlan_takeL (v := ?_) rfl (by rfl) (fun w' hw => ?_) ?_
        rotate_left
        · go_simp
          with_reducible rfl
        simp only [Act.put, qA, qB, qC]
      refine wpPlan_skipL rfl (by rfl) ?_
      simp only [Act.put, qA, qB, qC]
      refine wpPlan_skipL rfl (by rfl) ?_
      simp only [Act.put, qA, qB, qC]
      iterate 3
        refine wpPlan_takeL (v := ?_) rfl (by rfl) (fun w' hw => ?_) ?_
        rotate_left
        · go_simp
          with_reducible rfl
        simp only [Act.put, qA, qB, qC]
      refine wpPlan_callL rfl (by rfl) Try.call16 (fun w' hw => lives_any _) (by rfl) ?_
      simp only [Act.put, qA, qB, qC]
      iterate 2
        refine wpPlan_takeL (v := ?_) rfl (by rfl) (fun w' hw => ?_) ?_
        rotate_left
        · go_simp
          with_reducible rfl
        simp only [Act.put, qA, qB, qC]
      refine wpPlan_nil (hT.out _ _ ?_); clear hT T
      intro vw11 hg
      simp only [puts, Act.put, qA, qB, qC, qD, qE, ↓reduceIte, Nat.reduceEqDiff]
      have HG := Lib.hid (hg)
      clear hg
      have r0 := Gr.refl vw11
      go_wp2
      refine hK.out _ _ ?_; clear hK K
      show Code.wp _ _ _ _ _
      clear r0
      refine forgetW (fun w2 => Below w.heap.size w w2) (HB.out.trans (HG.out.mono HB.out.size)) ?_
      clear HB HG
      rintro Wx14 HB
      replace HB := Lib.hid HB
      refine wp_ret ?_
      try simp only [Exit.then, Exit.inBlock]
      have r0 := Gr.refl Wx14
      exact bodyPost_ret (v := .bool true) (by simp [results, Try.results5, go_sem]) rfl ⟨rfl, HB.out⟩
    · -- region 14
      refine wp_seq_k fun K hK => ?_
      replace hK := Lib.hid hK
      refine wp_region_seqplan 22 [(true, 0), (true, 1), (true, 2), (true, 3), (true, 4), (true, 5), (true, 6), (true, 7), (true, 8), (true, 9), (true, 10), (true, 11), (true, 12), (true, 13), (true, 14), (true, 15), (true, 16), (true, 17), (true, 18), (true, 19), (true, 20), (true, 21)] (by rfl) (by simp) (fun T hT => ?_)
      iterate 14
        refine wpPlan_takeL (v := ?_) rfl (by rfl) (fun w' hw => ?_) ?_
        rotate_left
        · go_simp
          with_reducible rfl
        simp only [Act.put, qA, qB, qC]
      refine wpPlan_skipL rfl (by rfl) ?_
      simp only [Act.put, qA, qB, qC]
      refine wpPlan_skipL rfl (by rfl) ?_
      simp only [Act.put, qA, qB, qC]
      iterate 3
        refine wpPlan_takeL (v := ?_) rfl (by rfl) (fun w' hw => ?_) ?_
        rotate_left
        · go_simp
          with_reducible rfl
        simp only [Act.put, qA, qB, qC]
      refine wpPlan_callL rfl (by rfl) Try.call16 (fun w' hw => lives_any _) (by rfl) ?_
      simp only [Act.put, qA, qB, qC]
      iterate 2
        refine wpPlan_takeL (v := ?_) rfl (by rfl) (fun w' hw => ?_) ?_
        rotate_left
        · go_simp
          with_reducible rfl
        simp only [Act.put, qA, qB, qC]
      refine wpPlan_nil (hT.out _ _ ?_); clear hT T
      intro vw11 hg
      simp only [puts, Act.put, qA, qB, qC, qD, qE, ↓reduceIte, Nat.reduceEqDiff]
      have HG := Lib.hid (hg)
      clear hg
      have r0 := Gr.refl vw11
      go_wp2
      refine hK.out _ _ ?_; clear hK K
      show Code.wp _ _ _ _ _
      clear r0
      refine forgetW (fun w2 => Below w.heap.size w w2) (HB.out.trans (HG.out.mono HB.out.size)) ?_
      clear HB HG
      rintro Wx14 HB
      replace HB := Lib.hid HB
      refine wp_ret ?_
      try simp only [Exit.then, Exit.inBlock]
      have r0 := Gr.refl Wx14
      exact bodyPost_ret (v := .bool true) (by simp [results, Try.results5, go_sem]) rfl ⟨rfl, HB.out⟩
  · -- region 6
    have lx1 := bx1.cells
    have lx2 := bx2.cells
    have lx3 := bx3.cells
    have lx4 := bx4.cells
    have lx5 := bx5.cells
    have BX1 := Lib.hid bx1
    have BX2 := Lib.hid bx2
    have BX3 := Lib.hid bx3
    have BX4 := Lib.hid bx4
    have BX5 := Lib.hid bx5
    clear bx1 bx2 bx3 bx4 bx5
    refine wp_seq_k fun K hK => ?_
    replace hK := Lib.hid hK
    refine wp_region_seqplan 16 [(true, 0), (true, 1), (true, 2), (true, 3), (true, 4), (true, 5), (true, 6), (true, 7), (true, 8), (true, 9), (true, 10), (true, 11), (true, 12), (true, 13), (true, 14), (true, 15)] (by rfl) (by simp) (fun T hT => ?_)
    iterate 3
      refine wpPlan_takeL (v := ?_) rfl (by rfl) (fun w' hw => ?_) ?_
      rotate_left
      · go_simp
        with_reducible rfl
      simp only [Act.put, qA, qB, qC]
    refine wpPlan_skipL rfl (by rfl) ?_
    simp only [Act.put, qA, qB, qC]
    refine wpPlan_skipL rfl (by rfl) ?_
    simp only [Act.put, qA, qB, qC]
    refine wpPlan_skipL rfl (by rfl) ?_
    simp only [Act.put, qA, qB, qC]
    refine wpPlan_skipL rfl (by rfl) ?_
    simp only [Act.put, qA, qB, qC]
    refine wpPlan_skipL rfl (by rfl) ?_
    simp only [Act.put, qA, qB, qC]
    refine wpPlan_skipL rfl (by rfl) ?_
    simp only [Act.put, qA, qB, qC]
    refine wpPlan_skipL rfl (by rfl) ?_
    simp only [Act.put, qA, qB, qC]
    refine wpPlan_skipL rfl (by rfl) ?_
    simp only [Act.put, qA, qB, qC]
    refine wpPlan_skipL rfl (by rfl) ?_
    simp only [Act.put, qA, qB, qC]
    refine wpPlan_skipL rfl (by rfl) ?_
    simp only [Act.put, qA, qB, qC]
    refine wpPlan_skipL rfl (by rfl) ?_
    simp only [Act.put, qA, qB, qC]
    refine wpPlan_skipL rfl (by rfl) ?_
    simp only [Act.put, qA, qB, qC]
    iterate 1
      refine wpPlan_takeL (v := ?_) rfl (by rfl) (fun w' hw => ?_) ?_
      rotate_left
      · go_simp
        with_reducible rfl
      simp only [Act.put, qA, qB, qC]
    refine wpPlan_nil (hT.out _ _ ?_); clear hT T
    intro vw5 hg
    simp only [puts, Act.put, qA, qB, qC, qD, qE, ↓reduceIte, Nat.reduceEqDiff]
    clear lx1 lx2 lx3 lx4 lx5
    have HG := Lib.hid (hg)
    clear hg
    have bx1 := BX1.out.gr HG.out; clear BX1
    have bx2 := BX2.out.gr HG.out; clear BX2
    have bx3 := BX3.out.gr HG.out; clear BX3
    have bx4 := BX4.out.gr HG.out; clear BX4
    have bx5 := BX5.out.gr HG.out; clear BX5
    have r0 := Gr.refl vw5
    have BX1 := Lib.hid bx1; clear bx1
    have BX2 := Lib.hid bx2; clear bx2
    have BX3 := Lib.hid bx3; clear bx3
    have BX4 := Lib.hid bx4; clear bx4
    have BX5 := Lib.hid bx5; clear bx5
    go_wp2
    refine hK.out _ _ ?_; clear hK K
    show Code.wp _ _ _ _ _
    clear r0
    refine forgetW (fun w2 => Bx w2 gx1 38 #[.int .u64 (lo a1.num.natAbs), .string (bg a1.num.natAbs), .bool (decide (a1.num < 0)), .int .u64 (lo (a1.den - 1)), .string (bg (a1.den - 1)), .int .u64 (lo a2.num.natAbs), .string (bg a2.num.natAbs), .bool (decide (a2.num < 0)), .int .u64 (lo (a2.den - 1)), .string (bg (a2.den - 1))] ∧ Bx w2 gx2 38 #[.int .u64 (lo b1.num.natAbs), .string (bg b1.num.natAbs), .bool (decide (b1.num < 0)), .int .u64 (lo (b1.den - 1)), .string (bg (b1.den - 1)), .int .u64 (lo b2.num.natAbs), .string (bg b2.num.natAbs), .bool (decide (b2.num < 0)), .int .u64 (lo (b2.den - 1)), .string (bg (b2.den - 1))] ∧ Bx w2 gx3 38 #[.int .u64 (lo c1.num.natAbs), .string (bg c1.num.natAbs), .bool (decide (c1.num < 0)), .int .u64 (lo (c1.den - 1)), .string (bg (c1.den - 1)), .int .u64 (lo c2.num.natAbs), .string (bg c2.num.natAbs), .bool (decide (c2.num < 0)), .int .u64 (lo (c2.den - 1)), .string (bg (c2.den - 1))] ∧ Bx w2 gx4 38 #[.int .u64 (lo d1.num.natAbs), .string (bg d1.num.natAbs), .bool (decide (d1.num < 0)), .int .u64 (lo (d1.den - 1)), .string (bg (d1.den - 1)), .int .u64 (lo d2.num.natAbs), .string (bg d2.num.natAbs), .bool (decide (d2.num < 0)), .int .u64 (lo (d2.den - 1)), .string (bg (d2.den - 1))] ∧ Below w.heap.size w w2) ⟨BX1.out, BX2.out, BX3.out, BX4.out, HB.out.trans (HG.out.mono HB.out.size)⟩ ?_
    clear HB HG BX1 BX2 BX3 BX4 BX5
    rintro Wx6 ⟨bx1, bx2, bx3, bx4, HB⟩
    replace HB := Lib.hid HB
    refine wp_cond_false (by rfl) ?_
    refine wp_skip ?_
    show Code.wp _ _ _ _ _
    -- region 8
    have HZ9 : Hid (((a1) + (b1)) * half = g1) := Lib.hid (hg1.out)
    have HZ10 : Hid (((a2) + (b2)) * half = g2) := Lib.hid (hg2.out)
    have lx1 := bx1.cells
    have lx2 := bx2.cells
    have BX1 := Lib.hid bx1
    have BX2 := Lib.hid bx2
    have BX3 := Lib.hid bx3
    have BX4 := Lib.hid bx4
    clear bx1 bx2 bx3 bx4
    refine wp_seq_k fun K hK => ?_
    replace hK := Lib.hid hK
    refine wp_region_seqplan 3 [(true, 0), (true, 1), (true, 2)] (by rfl) (by simp) (fun T hT => ?_)
    iterate 2
      refine wpPlan_takeL (v := ?_) rfl (by rfl) (fun w' hw => ?_) ?_
      rotate_left
      · go_simp
        with_reducible rfl
      simp only [Act.put, qA, qB, qC]
    refine wpPlan_callL rfl (by rfl) Try.call20 (fun w' hw => pmid_any (a1) (a2) (b1) (b2) (g1) (g2) _ HZ9.out HZ10.out (by omega) (by omega) (by omega) (by omega)) (by rfl) ?_
    simp only [Act.put, qA, qB, qC]
    refine wpPlan_nil (hT.out _ _ ?_); clear hT T
    intro vw6 hg
    simp only [puts, Act.put, qA, qB, qC, qD, qE, ↓reduceIte, Nat.reduceEqDiff]
    clear lx1 lx2
    have HG := Lib.hid (hg)
    clear hg
    have bx1 := BX1.out.gr HG.out; clear BX1
    have bx2 := BX2.out.gr HG.out; clear BX2
    have bx3 := BX3.out.gr HG.out; clear BX3
    have bx4 := BX4.out.gr HG.out; clear BX4
    have r0 := Gr.refl vw6
    have BX1 := Lib.hid bx1; clear bx1
    have BX2 := Lib.hid bx2; clear bx2
    have BX3 := Lib.hid bx3; clear bx3
    have BX4 := Lib.hid bx4; clear bx4
    go_wp2
    refine hK.out _ _ ?_; clear hK K
    show Code.wp _ _ _ _ _
    clear r0
    have hsz : w.heap.size ≤ vw6.heap.size := Nat.le_trans HB.out.size HG.out.size
    have mx1 : gx1 < vw6.heap.size := BX1.out.lt
    have mx2 : gx2 < vw6.heap.size := BX2.out.lt
    have mx3 : gx3 < vw6.heap.size := BX3.out.lt
    have mx4 : gx4 < vw6.heap.size := BX4.out.lt
    refine forgetW (fun w2 => Bx w2 gx1 38 #[.int .u64 (lo a1.num.natAbs), .string (bg a1.num.natAbs), .bool (decide (a1.num < 0)), .int .u64 (lo (a1.den - 1)), .string (bg (a1.den - 1)), .int .u64 (lo a2.num.natAbs), .string (bg a2.num.natAbs), .bool (decide (a2.num < 0)), .int .u64 (lo (a2.den - 1)), .string (bg (a2.den - 1))] ∧ Bx w2 gx2 38 #[.int .u64 (lo b1.num.natAbs), .string (bg b1.num.natAbs), .bool (decide (b1.num < 0)), .int .u64 (lo (b1.den - 1)), .string (bg (b1.den - 1)), .int .u64 (lo b2.num.natAbs), .string (bg b2.num.natAbs), .bool (decide (b2.num < 0)), .int .u64 (lo (b2.den - 1)), .string (bg (b2.den - 1))] ∧ Bx w2 gx3 38 #[.int .u64 (lo c1.num.natAbs), .string (bg c1.num.natAbs), .bool (decide (c1.num < 0)), .int .u64 (lo (c1.den - 1)), .string (bg (c1.den - 1)), .int .u64 (lo c2.num.natAbs), .string (bg c2.num.natAbs), .bool (decide (c2.num < 0)), .int .u64 (lo (c2.den - 1)), .string (bg (c2.den - 1))] ∧ Bx w2 gx4 38 #[.int .u64 (lo d1.num.natAbs), .string (bg d1.num.natAbs), .bool (decide (d1.num < 0)), .int .u64 (lo (d1.den - 1)), .string (bg (d1.den - 1)), .int .u64 (lo d2.num.natAbs), .string (bg d2.num.natAbs), .bool (decide (d2.num < 0)), .int .u64 (lo (d2.den - 1)), .string (bg (d2.den - 1))] ∧ Bx w2 (vw6.heap.size) 38 #[.int .u64 (lo g1.num.natAbs), .string (bg g1.num.natAbs), .bool (decide (g1.num < 0)), .int .u64 (lo (g1.den - 1)), .string (bg (g1.den - 1)), .int .u64 (lo g2.num.natAbs), .string (bg g2.num.natAbs), .bool (decide (g2.num < 0)), .int .u64 (lo (g2.den - 1)), .string (bg (g2.den - 1))] ∧ Below w.heap.size w w2) ⟨(BX1.out).alloc _, (BX2.out).alloc _, (BX3.out).alloc _, (BX4.out).alloc _, (Bx.at (by simp) : Bx _ (vw6.heap.size) _ _), (HB.out.trans (HG.out.mono HB.out.size)).alloc (by first | omega | (simp; omega)) _⟩ ?_
    clear HB HG BX1 BX2 BX3 BX4
    rintro Wx8 ⟨bx1, bx2, bx3, bx4, bx7, HB⟩
    replace HB := Lib.hid HB
    have yx7 : w.heap.size ≤ vw6.heap.size := by omega
    have qx1_7 : gx1 < vw6.heap.size := by omega
    have qx2_7 : gx2 < vw6.heap.size := by omega
    have qx3_7 : gx3 < vw6.heap.size := by omega
    have qx4_7 : gx4 < vw6.heap.size := by omega
    generalize hx7 : vw6.heap.size = gx7 at *
    clear hx7
    clear hsz mx1 mx2 mx3 mx4
    -- region 9
    have lx1 := bx1.cells
    have lx2 := bx2.cells
    have lx3 := bx3.cells
    have lx7 := bx7.cells
    have BX1 := Lib.hid bx1
    have BX2 := Lib.hid bx2
    have BX3 := Lib.hid bx3
    have BX4 := Lib.hid bx4
    have BX7 := Lib.hid bx7
    clear bx1 bx2 bx3 bx4 bx7
    refine wp_seq_k fun K hK => ?_
    replace hK := Lib.hid hK
    refine wp_region_seqplan 8 [(true, 0), (true, 1), (true, 2), (true, 3), (true, 4), (true, 5), (true, 6), (true, 7)] (by rfl) (by simp) (fun T hT => ?_)
    iterate 4
      refine wpPlan_takeL (v := ?_) rfl (by rfl) (fun w' hw => ?_) ?_
      rotate_left
      · go_simp
        with_reducible rfl
      simp only [Act.put, qA, qB, qC]
    refine wpPlan_callL rfl (by rfl) Try.call21 (fun w' hw => pcut_any (a1, a2) (b1, b2) (g1, g2) (c1, c2) (k) (r1, r2) _ (hc3.out) ⟨by show sz (a1) ≤ 10000000; omega, by show sz (a2) ≤ 10000000; omega⟩ ⟨by show sz (b1) ≤ 10000000; omega, by show sz (b2) ≤ 10000000; omega⟩ ⟨by show sz (g1) ≤ 10000000; omega, by show sz (g2) ≤ 10000000; omega⟩ ⟨by show sz (c1) ≤ 10000000; omega, by show sz (c2) ≤ 10000000; omega⟩) (by rfl) ?_
    simp only [Act.put, qA, qB, qC]
    iterate 3
      refine wpPlan_takeL (v := ?_) rfl (by rfl) (fun w' hw => ?_) ?_
      rotate_left
      · go_simp
        with_reducible rfl
      simp only [Act.put, qA, qB, qC]
    refine wpPlan_nil (hT.out _ _ ?_); clear hT T
    intro vw7 hg
    simp only [puts, Act.put, qA, qB, qC, qD, qE, ↓reduceIte, Nat.reduceEqDiff]
    clear lx1 lx2 lx3 lx7
    have HG := Lib.hid (hg)
    clear hg
    have bx1 := BX1.out.gr HG.out; clear BX1
    have bx2 := BX2.out.gr HG.out; clear BX2
    have bx3 := BX3.out.gr HG.out; clear BX3
    have bx4 := BX4.out.gr HG.out; clear BX4
    have bx7 := BX7.out.gr HG.out; clear BX7
    have r0 := Gr.refl vw7
    have BX1 := Lib.hid bx1; clear bx1
    have BX2 := Lib.hid bx2; clear bx2
    have BX3 := Lib.hid bx3; clear bx3
    have BX4 := Lib.hid bx4; clear bx4
    have BX7 := Lib.hid bx7; clear bx7
    go_wp2
    refine hK.out _ _ ?_; clear hK K
    show Code.wp _ _ _ _ _
    clear r0
    have hsz : w.heap.size ≤ vw7.heap.size := Nat.le_trans HB.out.size HG.out.size
    have mx1 : gx1 < vw7.heap.size := BX1.out.lt
    have mx2 : gx2 < vw7.heap.size := BX2.out.lt
    have mx3 : gx3 < vw7.heap.size := BX3.out.lt
    have mx4 : gx4 < vw7.heap.size := BX4.out.lt
    have mx7 : gx7 < vw7.heap.size := BX7.out.lt
    refine forgetW (fun w2 => Bx w2 gx1 38 #[.int .u64 (lo a1.num.natAbs), .string (bg a1.num.natAbs), .bool (decide (a1.num < 0)), .int .u64 (lo (a1.den - 1)), .string (bg (a1.den - 1)), .int .u64 (lo a2.num.natAbs), .string (bg a2.num.natAbs), .bool (decide (a2.num < 0)), .int .u64 (lo (a2.den - 1)), .string (bg (a2.den - 1))] ∧ Bx w2 gx2 38 #[.int .u64 (lo b1.num.natAbs), .string (bg b1.num.natAbs), .bool (decide (b1.num < 0)), .int .u64 (lo (b1.den - 1)), .string (bg (b1.den - 1)), .int .u64 (lo b2.num.natAbs), .string (bg b2.num.natAbs), .bool (decide (b2.num < 0)), .int .u64 (lo (b2.den - 1)), .string (bg (b2.den - 1))] ∧ Bx w2 gx3 38 #[.int .u64 (lo c1.num.natAbs), .string (bg c1.num.natAbs), .bool (decide (c1.num < 0)), .int .u64 (lo (c1.den - 1)), .string (bg (c1.den - 1)), .int .u64 (lo c2.num.natAbs), .string (bg c2.num.natAbs), .bool (decide (c2.num < 0)), .int .u64 (lo (c2.den - 1)), .string (bg (c2.den - 1))] ∧ Bx w2 gx4 38 #[.int .u64 (lo d1.num.natAbs), .string (bg d1.num.natAbs), .bool (decide (d1.num < 0)), .int .u64 (lo (d1.den - 1)), .string (bg (d1.den - 1)), .int .u64 (lo d2.num.natAbs), .string (bg d2.num.natAbs), .bool (decide (d2.num < 0)), .int .u64 (lo (d2.den - 1)), .string (bg (d2.den - 1))] ∧ Bx w2 gx7 38 #[.int .u64 (lo g1.num.natAbs), .string (bg g1.num.natAbs), .bool (decide (g1.num < 0)), .int .u64 (lo (g1.den - 1)), .string (bg (g1.den - 1)), .int .u64 (lo g2.num.natAbs), .string (bg g2.num.natAbs), .bool (decide (g2.num < 0)), .int .u64 (lo (g2.den - 1)), .string (bg (g2.den - 1))] ∧ Bx w2 (vw7.heap.size) 38 #[.int .u64 (lo r1.num.natAbs), .string (bg r1.num.natAbs), .bool (decide (r1.num < 0)), .int .u64 (lo (r1.den - 1)), .string (bg (r1.den - 1)), .int .u64 (lo r2.num.natAbs), .string (bg r2.num.natAbs), .bool (decide (r2.num < 0)), .int .u64 (lo (r2.den - 1)), .string (bg (r2.den - 1))] ∧ Below w.heap.size w w2) ⟨(BX1.out).alloc _, (BX2.out).alloc _, (BX3.out).alloc _, (BX4.out).alloc _, (BX7.out).alloc _, (Bx.at (by simp) : Bx _ (vw7.heap.size) _ _), (HB.out.trans (HG.out.mono HB.out.size)).alloc (by first | omega | (simp; omega)) _⟩ ?_
    clear HB HG BX1 BX2 BX3 BX4 BX7
    rintro Wx9 ⟨bx1, bx2, bx3, bx4, bx7, bx8, HB⟩
    replace HB := Lib.hid HB
    have yx8 : w.heap.size ≤ vw7.heap.size := by omega
    have qx1_8 : gx1 < vw7.heap.size := by omega
    have qx2_8 : gx2 < vw7.heap.size := by omega
    have qx3_8 : gx3 < vw7.heap.size := by omega
    have qx4_8 : gx4 < vw7.heap.size := by omega
    have qx7_8 : gx7 < vw7.heap.size := by omega
    generalize hx8 : vw7.heap.size = gx8 at *
    clear hx8
    clear hsz mx1 mx2 mx3 mx4 mx7
    refine wp_seq ?_
    -- region 10
    have lx1 := bx1.cells
    have lx2 := bx2.cells
    have lx7 := bx7.cells
    have lx8 := bx8.cells
    have BX1 := Lib.hid bx1
    have BX2 := Lib.hid bx2
    have BX3 := Lib.hid bx3
    have BX4 := Lib.hid bx4
    have BX7 := Lib.hid bx7
    have BX8 := Lib.hid bx8
    clear bx1 bx2 bx3 bx4 bx7 bx8
    refine wp_seq_k fun K hK => ?_
    replace hK := Lib.hid hK
    refine wp_region_seqplan 23 [(true, 0), (true, 1), (true, 2), (true, 3), (true, 4), (true, 5), (true, 6), (true, 7), (true, 8), (true, 9), (true, 10), (true, 11), (true, 12), (true, 13), (true, 14), (true, 15), (true, 16), (true, 17), (true, 18), (true, 19), (true, 20), (true, 21), (true, 22)] (by rfl) (by simp) (fun T hT => ?_)
    iterate 3
      refine wpPlan_takeL (v := ?_) rfl (by rfl) (fun w' hw => ?_) ?_
      rotate_left
      · go_simp
        with_reducible rfl
      simp only [Act.put, qA, qB, qC]
    refine wpPlan_callL rfl (by rfl) Try.call22 (fun w' hw => pon_any (a1) (a2) (b1) (b2) (g1) (g2) true _ (on3.out) (by omega) (by omega) (by omega) (by omega) (by omega) (by omega)) (by rfl) ?_
    simp only [Act.put, qA, qB, qC]
    iterate 5
      refine wpPlan_takeL (v := ?_) rfl (by rfl) (fun w' hw => ?_) ?_
      rotate_left
      · go_simp
        with_reducible rfl
      simp only [Act.put, qA, qB, qC]
    refine wpPlan_callL rfl (by rfl) Try.call22 (fun w' hw => pon_any (a1) (a2) (b1) (b2) (a1) (a2) true _ (on4.out) (by omega) (by omega) (by omega) (by omega) (by omega) (by omega)) (by rfl) ?_
    simp only [Act.put, qA, qB, qC]
    iterate 10
      refine wpPlan_takeL (v := ?_) rfl (by rfl) (fun w' hw => ?_) ?_
      rotate_left
      · go_simp
        with_reducible rfl
      simp only [Act.put, qA, qB, qC]
    refine wpPlan_callL rfl (by rfl) Try.call22 (fun w' hw => pon_any (a1) (a2) (b1) (b2) (r1) (r2) true _ (on5.out) (by omega) (by omega) (by omega) (by omega) (by omega) (by omega)) (by rfl) ?_
    simp only [Act.put, qA, qB, qC]
    iterate 2
      refine wpPlan_takeL (v := ?_) rfl (by rfl) (fun w' hw => ?_) ?_
      rotate_left
      · go_simp
        with_reducible rfl
      simp only [Act.put, qA, qB, qC]
    refine wpPlan_nil (hT.out _ _ ?_); clear hT T
    intro vw8 hg
    simp only [puts, Act.put, qA, qB, qC, qD, qE, ↓reduceIte, Nat.reduceEqDiff]
    clear lx1 lx2 lx7 lx8
    have HG := Lib.hid (hg)
    clear hg
    have bx1 := BX1.out.gr HG.out; clear BX1
    have bx2 := BX2.out.gr HG.out; clear BX2
    have bx3 := BX3.out.gr HG.out; clear BX3
    have bx4 := BX4.out.gr HG.out; clear BX4
    have bx7 := BX7.out.gr HG.out; clear BX7
    have bx8 := BX8.out.gr HG.out; clear BX8
    have r0 := Gr.refl vw8
    have BX1 := Lib.hid bx1; clear bx1
    have BX2 := Lib.hid bx2; clear bx2
    have BX3 := Lib.hid bx3; clear bx3
    have BX4 := Lib.hid bx4; clear bx4
    have BX7 := Lib.hid bx7; clear bx7
    have BX8 := Lib.hid bx8; clear bx8
    go_wp2
    refine hK.out _ _ ?_; clear hK K
    show Code.wp _ _ _ _ _
    clear r0
    refine forgetW (fun w2 => Bx w2 gx1 38 #[.int .u64 (lo a1.num.natAbs), .string (bg a1.num.natAbs), .bool (decide (a1.num < 0)), .int .u64 (lo (a1.den - 1)), .string (bg (a1.den - 1)), .int .u64 (lo a2.num.natAbs), .string (bg a2.num.natAbs), .bool (decide (a2.num < 0)), .int .u64 (lo (a2.den - 1)), .string (bg (a2.den - 1))] ∧ Bx w2 gx2 38 #[.int .u64 (lo b1.num.natAbs), .string (bg b1.num.natAbs), .bool (decide (b1.num < 0)), .int .u64 (lo (b1.den - 1)), .string (bg (b1.den - 1)), .int .u64 (lo b2.num.natAbs), .string (bg b2.num.natAbs), .bool (decide (b2.num < 0)), .int .u64 (lo (b2.den - 1)), .string (bg (b2.den - 1))] ∧ Bx w2 gx3 38 #[.int .u64 (lo c1.num.natAbs), .string (bg c1.num.natAbs), .bool (decide (c1.num < 0)), .int .u64 (lo (c1.den - 1)), .string (bg (c1.den - 1)), .int .u64 (lo c2.num.natAbs), .string (bg c2.num.natAbs), .bool (decide (c2.num < 0)), .int .u64 (lo (c2.den - 1)), .string (bg (c2.den - 1))] ∧ Bx w2 gx4 38 #[.int .u64 (lo d1.num.natAbs), .string (bg d1.num.natAbs), .bool (decide (d1.num < 0)), .int .u64 (lo (d1.den - 1)), .string (bg (d1.den - 1)), .int .u64 (lo d2.num.natAbs), .string (bg d2.num.natAbs), .bool (decide (d2.num < 0)), .int .u64 (lo (d2.den - 1)), .string (bg (d2.den - 1))] ∧ Below w.heap.size w w2) ⟨BX1.out, BX2.out, BX3.out, BX4.out, HB.out.trans (HG.out.mono HB.out.size)⟩ ?_
    clear HB HG BX1 BX2 BX3 BX4 BX7 BX8
    rintro Wx10 ⟨bx1, bx2, bx3, bx4, HB⟩
    replace HB := Lib.hid HB
    refine wp_cond_false (by rfl) ?_
    refine wp_skip ?_
    show Code.wp _ _ _ _ _
    -- region 12
    have lx1 := bx1.cells
    have lx2 := bx2.cells
    have lx3 := bx3.cells
    have lx4 := bx4.cells
    have BX1 := Lib.hid bx1
    have BX2 := Lib.hid bx2
    have BX3 := Lib.hid bx3
    have BX4 := Lib.hid bx4
    clear bx1 bx2 bx3 bx4
    refine wp_seq_k fun K hK => ?_
    replace hK := Lib.hid hK
    refine wp_region_plan 9 [] [] (fun _ => 0) (fun _ => .cells #[] 0) [(true, 0), (true, 1), (true, 2), (true, 4), (true, 5), (true, 6), (true, 3), (true, 7), (true, 8)] (by kernel_rfl) (by kernel_rfl) (fun i hi => by cases hi) (fun i hi => by cases hi) (fun _ _ _ _ _ h => h) (fun T hT => ?_)
    iterate 6
      refine wpPlan_takeL (v := ?_) rfl (by rfl) (fun w' hw => ?_) ?_
      rotate_left
      · go_simp
        with_reducible rfl
      simp only [Act.put, qA, qB, qC]
    refine wpPlan_callL rfl (by rfl) Try.call13 (fun w' hw => pturn_any (a1) (a2) (b1) (b2) (c1) (c2) (t1) _ (ht1.out) (by omega) (by omega) (by omega) (by omega) (by omega) (by omega)) (by rfl) ?_
    simp only [Act.put, qA, qB, qC]
    refine wpPlan_callL rfl (by rfl) Try.call13 (fun w' hw => pturn_any (a1) (a2) (b1) (b2) (d1) (d2) (t2) _ (ht2.out) (by omega) (by omega) (by omega) (by omega) (by omega) (by omega)) (by rfl) ?_
    simp only [Act.put, qA, qB, qC]
    iterate 1
      refine wpPlan_takeL (v := ?_) rfl (by rfl) (fun w' hw => ?_) ?_
      rotate_left
      · go_simp
        with_reducible rfl
      simp only [Act.put, qA, qB, qC]
    refine wpPlan_nil (hT.out _ _ ?_); clear hT T
    intro G vw9 hg hf
    simp only [puts, Act.put, qA, qB, qC, qD, qE, ↓reduceIte, Nat.reduceEqDiff]
    clear lx1 lx2 lx3 lx4
    have HG := Lib.hid (hg)
    clear hg
    have bx1 := BX1.out.gr HG.out; clear BX1
    have bx2 := BX2.out.gr HG.out; clear BX2
    have bx3 := BX3.out.gr HG.out; clear BX3
    have bx4 := BX4.out.gr HG.out; clear BX4
    have r0 := Gr.refl vw9
    have BX1 := Lib.hid bx1; clear bx1
    have BX2 := Lib.hid bx2; clear bx2
    have BX3 := Lib.hid bx3; clear bx3
    have BX4 := Lib.hid bx4; clear bx4
    go_wp2
    refine hK.out _ _ ?_; clear hK K
    show Code.wp _ _ _ _ _
    clear r0
    refine forgetW (fun w2 => Bx w2 gx1 38 #[.int .u64 (lo a1.num.natAbs), .string (bg a1.num.natAbs), .bool (decide (a1.num < 0)), .int .u64 (lo (a1.den - 1)), .string (bg (a1.den - 1)), .int .u64 (lo a2.num.natAbs), .string (bg a2.num.natAbs), .bool (decide (a2.num < 0)), .int .u64 (lo (a2.den - 1)), .string (bg (a2.den - 1))] ∧ Bx w2 gx2 38 #[.int .u64 (lo b1.num.natAbs), .string (bg b1.num.natAbs), .bool (decide (b1.num < 0)), .int .u64 (lo (b1.den - 1)), .string (bg (b1.den - 1)), .int .u64 (lo b2.num.natAbs), .string (bg b2.num.natAbs), .bool (decide (b2.num < 0)), .int .u64 (lo (b2.den - 1)), .string (bg (b2.den - 1))] ∧ Bx w2 gx3 38 #[.int .u64 (lo c1.num.natAbs), .string (bg c1.num.natAbs), .bool (decide (c1.num < 0)), .int .u64 (lo (c1.den - 1)), .string (bg (c1.den - 1)), .int .u64 (lo c2.num.natAbs), .string (bg c2.num.natAbs), .bool (decide (c2.num < 0)), .int .u64 (lo (c2.den - 1)), .string (bg (c2.den - 1))] ∧ Bx w2 gx4 38 #[.int .u64 (lo d1.num.natAbs), .string (bg d1.num.natAbs), .bool (decide (d1.num < 0)), .int .u64 (lo (d1.den - 1)), .string (bg (d1.den - 1)), .int .u64 (lo d2.num.natAbs), .string (bg d2.num.natAbs), .bool (decide (d2.num < 0)), .int .u64 (lo (d2.den - 1)), .string (bg (d2.den - 1))] ∧ Below w.heap.size w w2) ⟨BX1.out, BX2.out, BX3.out, BX4.out, HB.out.trans (HG.out.mono HB.out.size)⟩ ?_
    clear HB HG BX1 BX2 BX3 BX4
    rintro Wx12 ⟨bx1, bx2, bx3, bx4, HB⟩
    replace HB := Lib.hid HB
    -- region 13
    have lx1 := bx1.cells
    have lx2 := bx2.cells
    have lx3 := bx3.cells
    have lx4 := bx4.cells
    have BX1 := Lib.hid bx1
    have BX2 := Lib.hid bx2
    have BX3 := Lib.hid bx3
    have BX4 := Lib.hid bx4
    clear bx1 bx2 bx3 bx4
    refine wp_seq_k fun K hK => ?_
    replace hK := Lib.hid hK
    refine wp_region_plan 9 [] [] (fun _ => 0) (fun _ => .cells #[] 0) [(true, 0), (true, 1), (true, 2), (true, 4), (true, 5), (true, 6), (true, 3), (true, 7), (true, 8)] (by kernel_rfl) (by kernel_rfl) (fun i hi => by cases hi) (fun i hi => by cases hi) (fun _ _ _ _ _ h => h) (fun T hT => ?_)
    iterate 6
      refine wpPlan_takeL (v := ?_) rfl (by rfl) (fun w' hw => ?_) ?_
      rotate_left
      · go_simp
        with_reducible rfl
      simp only [Act.put, qA, qB, qC]
    refine wpPlan_callL rfl (by rfl) Try.call13 (fun w' hw => pturn_any (c1) (c2) (d1) (d2) (a1) (a2) (t3) _ (ht3.out) (by omega) (by omega) (by omega) (by omega) (by omega) (by omega)) (by rfl) ?_
    simp only [Act.put, qA, qB, qC]
    refine wpPlan_callL rfl (by rfl) Try.call13 (fun w' hw => pturn_any (c1) (c2) (d1) (d2) (b1) (b2) (t4) _ (ht4.out) (by omega) (by omega) (by omega) (by omega) (by omega) (by omega)) (by rfl) ?_
    simp only [Act.put, qA, qB, qC]
    iterate 1
      refine wpPlan_takeL (v := ?_) rfl (by rfl) (fun w' hw => ?_) ?_
      rotate_left
      · go_simp
        with_reducible rfl
      simp only [Act.put, qA, qB, qC]
    refine wpPlan_nil (hT.out _ _ ?_); clear hT T
    intro G vw10 hg hf
    simp only [puts, Act.put, qA, qB, qC, qD, qE, ↓reduceIte, Nat.reduceEqDiff]
    clear lx1 lx2 lx3 lx4
    have HG := Lib.hid (hg)
    clear hg
    have bx1 := BX1.out.gr HG.out; clear BX1
    have bx2 := BX2.out.gr HG.out; clear BX2
    have bx3 := BX3.out.gr HG.out; clear BX3
    have bx4 := BX4.out.gr HG.out; clear BX4
    have r0 := Gr.refl vw10
    have BX1 := Lib.hid bx1; clear bx1
    have BX2 := Lib.hid bx2; clear bx2
    have BX3 := Lib.hid bx3; clear bx3
    have BX4 := Lib.hid bx4; clear bx4
    go_wp2
    refine hK.out _ _ ?_; clear hK K
    show Code.wp _ _ _ _ _
    clear r0
    refine forgetW (fun w2 => Below w.heap.size w w2) (HB.out.trans (HG.out.mono HB.out.size)) ?_
    clear HB HG BX1 BX2 BX3 BX4
    rintro Wx13 HB
    replace HB := Lib.hid HB
    have way2 := way.out; clear way; rcases way2 with ⟨e1, e2⟩ | ⟨e1, e2, e3⟩ | ⟨e1, e2, e3⟩
    · -- region 14
      refine wp_seq_k fun K hK => ?_
      replace hK := Lib.hid hK
      refine wp_region_seqplan 22 [(true, 0), (true, 1), (true, 2), (true, 3), (true, 4), (true, 5), (true, 6), (true, 7), (true, 8), (true, 9), (true, 10), (true, 11), (true, 12), (true, 13), (true, 14), (true, 15), (true, 16), (true, 17), (true, 18), (true, 19), (true, 20), (true, 21)] (by rfl) (by simp) (fun T hT => ?_)
      iterate 3
        refine wpPlan_takeL (v := ?_) rfl (by rfl) (fun w' hw => ?_) ?_
        rotate_left
        · go_simp
          with_reducible rfl
        simp only [Act.put, qA, qB, qC]
      refine wpPlan_skipL rfl (by rfl) ?_
      simp only [Act.put, qA, qB, qC]
      refine wpPlan_skipL rfl (by rfl) ?_
      simp only [Act.put, qA, qB, qC]
      iterate 2
        refine wpPlan_takeL (v := ?_) rfl (by rfl) (fun w' hw => ?_) ?_
        rotate_left
        · go_simp
          with_reducible rfl
        simp only [Act.put, qA, qB, qC]
      refine wpPlan_skipL rfl (by rfl) ?_
      simp only [Act.put, qA, qB, qC]
      refine wpPlan_skipL rfl (by rfl) ?_
      simp only [Act.put, qA, qB, qC]
      iterate 5
        refine wpPlan_takeL (v := ?_) rfl (by rfl) (fun w' hw => ?_) ?_
        rotate_left
        · go_simp
          with_reducible rfl
        simp only [Act.put, qA, qB, qC]
      refine wpPlan_skipL rfl (by rfl) ?_
      simp only [Act.put, qA, qB, qC]
      refine wpPlan_skipL rfl (by rfl) ?_
      simp only [Act.put, qA, qB, qC]
      iterate 3
        refine wpPlan_takeL (v := ?_) rfl (by rfl) (fun w' hw => ?_) ?_
        rotate_left
        · go_simp
          with_reducible rfl
        simp only [Act.put, qA, qB, qC]
      refine wpPlan_callL rfl (by rfl) Try.call16 (fun w' hw => lives_any _) (by rfl) ?_
      simp only [Act.put, qA, qB, qC]
      iterate 2
        refine wpPlan_takeL (v := ?_) rfl (by rfl) (fun w' hw => ?_) ?_
        rotate_left
        · go_simp
          with_reducible rfl
        simp only [Act.put, qA, qB, qC]
      refine wpPlan_nil (hT.out _ _ ?_); clear hT T
      intro vw11 hg
      simp only [puts, Act.put, qA, qB, qC, qD, qE, ↓reduceIte, Nat.reduceEqDiff]
      have HG := Lib.hid (hg)
      clear hg
      have r0 := Gr.refl vw11
      go_wp2
      refine hK.out _ _ ?_; clear hK K
      show Code.wp _ _ _ _ _
      clear r0
      refine forgetW (fun w2 => Below w.heap.size w w2) (HB.out.trans (HG.out.mono HB.out.size)) ?_
      clear HB HG
      rintro Wx14 HB
      replace HB := Lib.hid HB
      refine wp_ret ?_
      try simp only [Exit.then, Exit.inBlock]
      have r0 := Gr.refl Wx14
      exact bodyPost_ret (v := .bool true) (by simp [results, Try.results5, go_sem]) rfl ⟨rfl, HB.out⟩
    · -- region 14
      refine wp_seq_k fun K hK => ?_
      replace hK := Lib.hid hK
      refine wp_region_seqplan 22 [(true, 0), (true, 1), (true, 2), (true, 3), (true, 4), (true, 5), (true, 6), (true, 7), (true, 8), (true, 9), (true, 10), (true, 11), (true, 12), (true, 13), (true, 14), (true, 15), (true, 16), (true, 17), (true, 18), (true, 19), (true, 20), (true, 21)] (by rfl) (by simp) (fun T hT => ?_)
      iterate 3
        refine wpPlan_takeL (v := ?_) rfl (by rfl) (fun w' hw => ?_) ?_
        rotate_left
        · go_simp
          with_reducible rfl
        simp only [Act.put, qA, qB, qC]
      refine wpPlan_skipL rfl (by rfl) ?_
      simp only [Act.put, qA, qB, qC]
      refine wpPlan_skipL rfl (by rfl) ?_
      simp only [Act.put, qA, qB, qC]
      iterate 2
        refine wpPlan_takeL (v := ?_) rfl (by rfl) (fun w' hw => ?_) ?_
        rotate_left
        · go_simp
          with_reducible rfl
        simp only [Act.put, qA, qB, qC]
      refine wpPlan_skipL rfl (by rfl) ?_
      simp only [Act.put, qA, qB, qC]
      refine wpPlan_skipL rfl (by rfl) ?_
      simp only [Act.put, qA, qB, qC]
      iterate 10
        refine wpPlan_takeL (v := ?_) rfl (by rfl) (fun w' hw => ?_) ?_
        rotate_left
        · go_simp
          with_reducible rfl
        simp only [Act.put, qA, qB, qC]
      refine wpPlan_callL rfl (by rfl) Try.call16 (fun w' hw => lives_any _) (by rfl) ?_
      simp only [Act.put, qA, qB, qC]
      iterate 2
        refine wpPlan_takeL (v := ?_) rfl (by rfl) (fun w' hw => ?_) ?_
        rotate_left
        · go_simp
          with_reducible rfl
        simp only [Act.put, qA, qB, qC]
      refine wpPlan_nil (hT.out _ _ ?_); clear hT T
      intro vw11 hg
      simp only [puts, Act.put, qA, qB, qC, qD, qE, ↓reduceIte, Nat.reduceEqDiff]
      have HG := Lib.hid (hg)
      clear hg
      have r0 := Gr.refl vw11
      go_wp2
      refine hK.out _ _ ?_; clear hK K
      show Code.wp _ _ _ _ _
      clear r0
      refine forgetW (fun w2 => Below w.heap.size w w2) (HB.out.trans (HG.out.mono HB.out.size)) ?_
      clear HB HG
      rintro Wx14 HB
      replace HB := Lib.hid HB
      refine wp_ret ?_
      try simp only [Exit.then, Exit.inBlock]
      have r0 := Gr.refl Wx14
      exact bodyPost_ret (v := .bool true) (by simp [results, Try.results5, go_sem]) rfl ⟨rfl, HB.out⟩
    · -- region 14
      refine wp_seq_k fun K hK => ?_
      replace hK := Lib.hid hK
      refine wp_region_seqplan 22 [(true, 0), (true, 1), (true, 2), (true, 3), (true, 4), (true, 5), (true, 6), (true, 7), (true, 8), (true, 9), (true, 10), (true, 11), (true, 12), (true, 13), (true, 14), (true, 15), (true, 16), (true, 17), (true, 18), (true, 19), (true, 20), (true, 21)] (by rfl) (by simp) (fun T hT => ?_)
      iterate 7
        refine wpPlan_takeL (v := ?_) rfl (by rfl) (fun w' hw => ?_) ?_
        rotate_left
        · go_simp
          with_reducible rfl
        simp only [Act.put, qA, qB, qC]
      refine wpPlan_skipL rfl (by rfl) ?_
      simp only [Act.put, qA, qB, qC]
      refine wpPlan_skipL rfl (by rfl) ?_
      simp only [Act.put, qA, qB, qC]
      iterate 5
        refine wpPlan_takeL (v := ?_) rfl (by rfl) (fun w' hw => ?_) ?_
        rotate_left
        · go_simp
          with_reducible rfl
        simp only [Act.put, qA, qB, qC]
      refine wpPlan_skipL rfl (by rfl) ?_
      simp only [Act.put, qA, qB, qC]
      refine wpPlan_skipL rfl (by rfl) ?_
      simp only [Act.put, qA, qB, qC]
      iterate 3
        refine wpPlan_takeL (v := ?_) rfl (by rfl) (fun w' hw => ?_) ?_
        rotate_left
        · go_simp
          with_reducible rfl
        simp only [Act.put, qA, qB, qC]
      refine wpPlan_callL rfl (by rfl) Try.call16 (fun w' hw => lives_any _) (by rfl) ?_
      simp only [Act.put, qA, qB, qC]
      iterate 2
        refine wpPlan_takeL (v := ?_) rfl (by rfl) (fun w' hw => ?_) ?_
        rotate_left
        · go_simp
          with_reducible rfl
        simp only [Act.put, qA, qB, qC]
      refine wpPlan_nil (hT.out _ _ ?_); clear hT T
      intro vw11 hg
      simp only [puts, Act.put, qA, qB, qC, qD, qE, ↓reduceIte, Nat.reduceEqDiff]
      have HG := Lib.hid (hg)
      clear hg
      have r0 := Gr.refl vw11
      go_wp2
      refine hK.out _ _ ?_; clear hK K
      show Code.wp _ _ _ _ _
      clear r0
      refine forgetW (fun w2 => Below w.heap.size w w2) (HB.out.trans (HG.out.mono HB.out.size)) ?_
      clear HB HG
      rintro Wx14 HB
      replace HB := Lib.hid HB
      refine wp_ret ?_
      try simp only [Exit.then, Exit.inBlock]
      have r0 := Gr.refl Wx14
      exact bodyPost_ret (v := .bool true) (by simp [results, Try.results5, go_sem]) rfl ⟨rfl, HB.out⟩

end Go.Proofs.Ytenpbnmmadbkdaa
