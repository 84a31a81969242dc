/- points.Cut: the other ways. -/
import Derived.Test.YtenpbnmmadbkdaaHit
namespace Go.Proofs.Ytenpbnmmadbkdaa
open Go.RowKit
-- short cells
set_option linter.unusedSimpArgs false
set_option linter.unusedVariables false
attribute [local go_sem ↓] Go.wp_at_zero Go.wp_at_succ
attribute [local go_sem ↓] eq_nat eq_nat_zero eq_int eq_frac eq_pt
set_option maxRecDepth 100000 in
set_option maxHeartbeats 4000000 in
theorem pcut_ways (a1 a2 b1 b2 c1 c2 d1 d2 : Rat) (t1 t2 t3 t4 : Int) (p q : Int) (n : Int) (m1 m2 : Rat) (w : World) (ht1 : Hid (turn a1 a2 b1 b2 c1 c2 = t1)) (ht2 : Hid (turn a1 a2 b1 b2 d1 d2 = t2)) (ht3 : Hid (turn c1 c2 d1 d2 a1 a2 = t3)) (ht4 : Hid (turn c1 c2 d1 d2 b1 b2 = t4)) (hp : IntKind.i64.wrap (t1 * t2) = p) (hq : IntKind.i64.wrap (t3 * t4) = q) (way : ((t1 == 0) = false ∧ Hid ((decide (0 < p) = true ∧ n = 0 ∧ m1 = 0 ∧ m2 = 0) ∨ (decide (0 < p) = false ∧ decide (0 < q) = true ∧ n = 0 ∧ m1 = 0 ∧ m2 = 0)))
    ∨ ((t1 == 0) = true ∧ (t2 == 0) = false ∧ Hid ((decide (0 < p) = true ∧ n = 0 ∧ m1 = 0 ∧ m2 = 0) ∨ (decide (0 < p) = false ∧ decide (0 < q) = true ∧ n = 0 ∧ m1 = 0 ∧ m2 = 0) ∨ (decide (0 < p) = false ∧ decide (0 < q) = false ∧ n = 1 ∧ Hid (((b1 - a1) * (d2 - c2) - (b2 - a2) * (d1 - c1)) ≠ 0) ∧ sz ((b1 - a1) * (d2 - c2) - (b2 - a2) * (d1 - c1)) ≤ 100000000 ∧ Hid (a1 + (b1 - a1) * (((c1 - a1) * (d2 - c2) - (c2 - a2) * (d1 - c1)) / ((b1 - a1) * (d2 - c2) - (b2 - a2) * (d1 - c1))) = m1) ∧ Hid (a2 + (b2 - a2) * (((c1 - a1) * (d2 - c2) - (c2 - a2) * (d1 - c1)) / ((b1 - a1) * (d2 - c2) - (b2 - a2) * (d1 - c1))) = m2))))
    ∨ ((t1 == 0) = true ∧ (t2 == 0) = true ∧ (t3 == 0) = false ∧ Hid ((decide (0 < p) = true ∧ n = 0 ∧ m1 = 0 ∧ m2 = 0) ∨ (decide (0 < p) = false ∧ decide (0 < q) = true ∧ n = 0 ∧ m1 = 0 ∧ m2 = 0) ∨ (decide (0 < p) = false ∧ decide (0 < q) = false ∧ n = 1 ∧ Hid (((b1 - a1) * (d2 - c2) - (b2 - a2) * (d1 - c1)) ≠ 0) ∧ sz ((b1 - a1) * (d2 - c2) - (b2 - a2) * (d1 - c1)) ≤ 100000000 ∧ Hid (a1 + (b1 - a1) * (((c1 - a1) * (d2 - c2) - (c2 - a2) * (d1 - c1)) / ((b1 - a1) * (d2 - c2) - (b2 - a2) * (d1 - c1))) = m1) ∧ Hid (a2 + (b2 - a2) * (((c1 - a1) * (d2 - c2) - (c2 - a2) * (d1 - c1)) / ((b1 - a1) * (d2 - c2) - (b2 - a2) * (d1 - c1))) = m2))))
    ∨ ((t1 == 0) = true ∧ (t2 == 0) = true ∧ (t3 == 0) = true ∧ (t4 == 0) = false ∧ Hid ((decide (0 < p) = true ∧ n = 0 ∧ m1 = 0 ∧ m2 = 0) ∨ (decide (0 < p) = false ∧ decide (0 < q) = true ∧ n = 0 ∧ m1 = 0 ∧ m2 = 0) ∨ (decide (0 < p) = false ∧ decide (0 < q) = false ∧ n = 1 ∧ Hid (((b1 - a1) * (d2 - c2) - (b2 - a2) * (d1 - c1)) ≠ 0) ∧ sz ((b1 - a1) * (d2 - c2) - (b2 - a2) * (d1 - c1)) ≤ 100000000 ∧ Hid (a1 + (b1 - a1) * (((c1 - a1) * (d2 - c2) - (c2 - a2) * (d1 - c1)) / ((b1 - a1) * (d2 - c2) - (b2 - a2) * (d1 - c1))) = m1) ∧ Hid (a2 + (b2 - a2) * (((c1 - a1) * (d2 - c2) - (c2 - a2) * (d1 - c1)) / ((b1 - a1) * (d2 - c2) - (b2 - a2) * (d1 - c1))) = m2))))) (hs_a1 : sz a1 ≤ 10000000) (hs_a2 : sz a2 ≤ 10000000) (hs_b1 : sz b1 ≤ 10000000) (hs_b2 : sz b2 ≤ 10000000) (hs_c1 : sz c1 ≤ 10000000) (hs_c2 : sz c2 ≤ 10000000) (hs_d1 : sz d1 ≤ 10000000) (hs_d2 : sz d2 ≤ 10000000) :
    Calls Try.prog 21 #[(Value.agg #[.int .u64 (lo a1.num.natAbs), .string (bg a1.num.natAbs), .bool (decide (a1.num < 0)), .int .u64 (lo (a1.den - 1)), .string (bg (a1.den - 1)), .int .u64 (lo a2.num.natAbs), .string (bg a2.num.natAbs), .bool (decide (a2.num < 0)), .int .u64 (lo (a2.den - 1)), .string (bg (a2.den - 1))]), (Value.agg #[.int .u64 (lo b1.num.natAbs), .string (bg b1.num.natAbs), .bool (decide (b1.num < 0)), .int .u64 (lo (b1.den - 1)), .string (bg (b1.den - 1)), .int .u64 (lo b2.num.natAbs), .string (bg b2.num.natAbs), .bool (decide (b2.num < 0)), .int .u64 (lo (b2.den - 1)), .string (bg (b2.den - 1))]), (Value.agg #[.int .u64 (lo c1.num.natAbs), .string (bg c1.num.natAbs), .bool (decide (c1.num < 0)), .int .u64 (lo (c1.den - 1)), .string (bg (c1.den - 1)), .int .u64 (lo c2.num.natAbs), .string (bg c2.num.natAbs), .bool (decide (c2.num < 0)), .int .u64 (lo (c2.den - 1)), .string (bg (c2.den - 1))]), (Value.agg #[.int .u64 (lo d1.num.natAbs), .string (bg d1.num.natAbs), .bool (decide (d1.num < 0)), .int .u64 (lo (d1.den - 1)), .string (bg (d1.den - 1)), .int .u64 (lo d2.num.natAbs), .string (bg d2.num.natAbs), .bool (decide (d2.num < 0)), .int .u64 (lo (d2.den - 1)), .string (bg (d2.den - 1))])] w fun e w' => e = .returned (.tuple #[.int .i64 (n), (.agg #[.int .u64 (lo m1.num.natAbs), .string (bg m1.num.natAbs), .bool (decide (m1.num < 0)), .int .u64 (lo (m1.den - 1)), .string (bg (m1.den - 1)), .int .u64 (lo m2.num.natAbs), .string (bg m2.num.natAbs), .bool (decide (m2.num < 0)), .int .u64 (lo (m2.den - 1)), .string (bg (m2.den - 1))])]) ∧ Below w.heap.size w w' := by
  replace way := Lib.hid way
  go_enter Try.func21, Try.ntmps21
  -- region 0
  refine wp_seq_k fun K hK => ?_
  replace hK := Lib.hid hK
  refine wp_region_lit ?_
  go_wp2
  refine hK.out _ _ ?_; clear hK K
  show Code.wp _ _ _ _ _
  refine forgetW (fun w2 => Bx w2 (w.heap.size) 38 #[.int .u64 (lo a1.num.natAbs), .string (bg a1.num.natAbs), .bool (decide (a1.num < 0)), .int .u64 (lo (a1.den - 1)), .string (bg (a1.den - 1)), .int .u64 (lo a2.num.natAbs), .string (bg a2.num.natAbs), .bool (decide (a2.num < 0)), .int .u64 (lo (a2.den - 1)), .string (bg (a2.den - 1))] ∧ Bx w2 (w.heap.size + 1) 38 #[.int .u64 (lo b1.num.natAbs), .string (bg b1.num.natAbs), .bool (decide (b1.num < 0)), .int .u64 (lo (b1.den - 1)), .string (bg (b1.den - 1)), .int .u64 (lo b2.num.natAbs), .string (bg b2.num.natAbs), .bool (decide (b2.num < 0)), .int .u64 (lo (b2.den - 1)), .string (bg (b2.den - 1))] ∧ Bx w2 (w.heap.size + 1 + 1) 38 #[.int .u64 (lo c1.num.natAbs), .string (bg c1.num.natAbs), .bool (decide (c1.num < 0)), .int .u64 (lo (c1.den - 1)), .string (bg (c1.den - 1)), .int .u64 (lo c2.num.natAbs), .string (bg c2.num.natAbs), .bool (decide (c2.num < 0)), .int .u64 (lo (c2.den - 1)), .string (bg (c2.den - 1))] ∧ Bx w2 (w.heap.size + 1 + 1 + 1) 38 #[.int .u64 (lo d1.num.natAbs), .string (bg d1.num.natAbs), .bool (decide (d1.num < 0)), .int .u64 (lo (d1.den - 1)), .string (bg (d1.den - 1)), .int .u64 (lo d2.num.natAbs), .string (bg d2.num.natAbs), .bool (decide (d2.num < 0)), .int .u64 (lo (d2.den - 1)), .string (bg (d2.den - 1))] ∧ Bx w2 (w.heap.size + 1 + 1 + 1 + 1) 38 #[.int .u64 0, .string ⟨#[]⟩, .bool false, .int .u64 0, .string ⟨#[]⟩, .int .u64 0, .string ⟨#[]⟩, .bool false, .int .u64 0, .string ⟨#[]⟩] ∧ Below w.heap.size w w2) ⟨((((Bx.at rfl).alloc _).alloc _).alloc _).alloc _, (((Bx.at (by simp)).alloc _).alloc _).alloc _, ((Bx.at (by simp)).alloc _).alloc _, (Bx.at (by simp)).alloc _, Bx.at (by simp), (((((Below.refl _ _).alloc (Nat.le_refl _) _).alloc (by simp) _).alloc (by simp; omega) _).alloc (by simp; omega) _).alloc (by simp; omega) _⟩ ?_
  rintro Wx ⟨bx0, bx1, bx2, bx3, bx4, HB⟩
  replace HB := Lib.hid HB
  -- region 1
  have lx0 := bx0.cells
  have lx1 := bx1.cells
  have lx2 := bx2.cells
  have lx3 := bx3.cells
  have BX0 := Lib.hid bx0
  have BX1 := Lib.hid bx1
  have BX2 := Lib.hid bx2
  have BX3 := Lib.hid bx3
  have BX4 := Lib.hid bx4
  clear bx0 bx1 bx2 bx3 bx4
  refine wp_seq_k fun K hK => ?_
  replace hK := Lib.hid hK
  refine wp_region_plan 9 [] [] (fun _ => 0) (fun _ => .cells #[] 0) [(true, 0), (true, 1), (true, 2), (true, 4), (true, 5), (true, 6), (true, 3), (true, 7), (true, 8)] (by kernel_rfl) (by kernel_rfl) (fun i hi => by cases hi) (fun i hi => by cases hi) (fun _ _ _ _ _ h => h) (fun T hT => ?_)
  iterate 6
    refine wpPlan_takeL (v := ?_) rfl (by rfl) (fun w' hw => ?_) ?_
    rotate_left
    · go_simp
      with_reducible rfl
    simp only [Act.put, qA, qB, qC]
  refine wpPlan_callL rfl (by rfl) Try.call13 (fun w' hw => pturn_any (a1) (a2) (b1) (b2) (c1) (c2) (t1) _ (ht1.out) (by omega) (by omega) (by omega) (by omega) (by omega) (by omega)) (by rfl) ?_
  simp only [Act.put, qA, qB, qC]
  refine wpPlan_callL rfl (by rfl) Try.call13 (fun w' hw => pturn_any (a1) (a2) (b1) (b2) (d1) (d2) (t2) _ (ht2.out) (by omega) (by omega) (by omega) (by omega) (by omega) (by omega)) (by rfl) ?_
  simp only [Act.put, qA, qB, qC]
  iterate 1
    refine wpPlan_takeL (v := ?_) rfl (by rfl) (fun w' hw => ?_) ?_
    rotate_left
    · go_simp
      with_reducible rfl
    simp only [Act.put, qA, qB, qC]
  refine wpPlan_nil (hT.out _ _ ?_); clear hT T
  intro G vw1 hg hf
  simp only [puts, Act.put, qA, qB, qC, qD, qE, ↓reduceIte, Nat.reduceEqDiff]
  clear lx0 lx1 lx2 lx3
  have HG := Lib.hid (hg)
  clear hg
  have bx0 := BX0.out.gr HG.out; clear BX0
  have bx1 := BX1.out.gr HG.out; clear BX1
  have bx2 := BX2.out.gr HG.out; clear BX2
  have bx3 := BX3.out.gr HG.out; clear BX3
  have bx4 := BX4.out.gr HG.out; clear BX4
  have r0 := Gr.refl vw1
  have BX0 := Lib.hid bx0; clear bx0
  have BX1 := Lib.hid bx1; clear bx1
  have BX2 := Lib.hid bx2; clear bx2
  have BX3 := Lib.hid bx3; clear bx3
  have BX4 := Lib.hid bx4; clear bx4
  go_wp2
  refine hK.out _ _ ?_; clear hK K
  show Code.wp _ _ _ _ _
  clear r0
  refine forgetW (fun w2 => Bx w2 (w.heap.size) 38 #[.int .u64 (lo a1.num.natAbs), .string (bg a1.num.natAbs), .bool (decide (a1.num < 0)), .int .u64 (lo (a1.den - 1)), .string (bg (a1.den - 1)), .int .u64 (lo a2.num.natAbs), .string (bg a2.num.natAbs), .bool (decide (a2.num < 0)), .int .u64 (lo (a2.den - 1)), .string (bg (a2.den - 1))] ∧ Bx w2 (w.heap.size + 1) 38 #[.int .u64 (lo b1.num.natAbs), .string (bg b1.num.natAbs), .bool (decide (b1.num < 0)), .int .u64 (lo (b1.den - 1)), .string (bg (b1.den - 1)), .int .u64 (lo b2.num.natAbs), .string (bg b2.num.natAbs), .bool (decide (b2.num < 0)), .int .u64 (lo (b2.den - 1)), .string (bg (b2.den - 1))] ∧ Bx w2 (w.heap.size + 1 + 1) 38 #[.int .u64 (lo c1.num.natAbs), .string (bg c1.num.natAbs), .bool (decide (c1.num < 0)), .int .u64 (lo (c1.den - 1)), .string (bg (c1.den - 1)), .int .u64 (lo c2.num.natAbs), .string (bg c2.num.natAbs), .bool (decide (c2.num < 0)), .int .u64 (lo (c2.den - 1)), .string (bg (c2.den - 1))] ∧ Bx w2 (w.heap.size + 1 + 1 + 1) 38 #[.int .u64 (lo d1.num.natAbs), .string (bg d1.num.natAbs), .bool (decide (d1.num < 0)), .int .u64 (lo (d1.den - 1)), .string (bg (d1.den - 1)), .int .u64 (lo d2.num.natAbs), .string (bg d2.num.natAbs), .bool (decide (d2.num < 0)), .int .u64 (lo (d2.den - 1)), .string (bg (d2.den - 1))] ∧ Bx w2 (w.heap.size + 1 + 1 + 1 + 1) 38 #[.int .u64 0, .string ⟨#[]⟩, .bool false, .int .u64 0, .string ⟨#[]⟩, .int .u64 0, .string ⟨#[]⟩, .bool false, .int .u64 0, .string ⟨#[]⟩] ∧ Below w.heap.size w w2) ⟨BX0.out, BX1.out, BX2.out, BX3.out, BX4.out, HB.out.trans (HG.out.mono HB.out.size)⟩ ?_
  clear HB HG BX0 BX1 BX2 BX3 BX4
  rintro Wx1 ⟨bx0, bx1, bx2, bx3, bx4, HB⟩
  replace HB := Lib.hid HB
  -- region 2
  have lx0 := bx0.cells
  have lx1 := bx1.cells
  have lx2 := bx2.cells
  have lx3 := bx3.cells
  have BX0 := Lib.hid bx0
  have BX1 := Lib.hid bx1
  have BX2 := Lib.hid bx2
  have BX3 := Lib.hid bx3
  have BX4 := Lib.hid bx4
  clear bx0 bx1 bx2 bx3 bx4
  refine wp_seq_k fun K hK => ?_
  replace hK := Lib.hid hK
  refine wp_region_plan 9 [] [] (fun _ => 0) (fun _ => .cells #[] 0) [(true, 0), (true, 1), (true, 2), (true, 4), (true, 5), (true, 6), (true, 3), (true, 7), (true, 8)] (by kernel_rfl) (by kernel_rfl) (fun i hi => by cases hi) (fun i hi => by cases hi) (fun _ _ _ _ _ h => h) (fun T hT => ?_)
  iterate 6
    refine wpPlan_takeL (v := ?_) rfl (by rfl) (fun w' hw => ?_) ?_
    rotate_left
    · go_simp
      with_reducible rfl
    simp only [Act.put, qA, qB, qC]
  refine wpPlan_callL rfl (by rfl) Try.call13 (fun w' hw => pturn_any (c1) (c2) (d1) (d2) (a1) (a2) (t3) _ (ht3.out) (by omega) (by omega) (by omega) (by omega) (by omega) (by omega)) (by rfl) ?_
  simp only [Act.put, qA, qB, qC]
  refine wpPlan_callL rfl (by rfl) Try.call13 (fun w' hw => pturn_any (c1) (c2) (d1) (d2) (b1) (b2) (t4) _ (ht4.out) (by omega) (by omega) (by omega) (by omega) (by omega) (by omega)) (by rfl) ?_
  simp only [Act.put, qA, qB, qC]
  iterate 1
    refine wpPlan_takeL (v := ?_) rfl (by rfl) (fun w' hw => ?_) ?_
    rotate_left
    · go_simp
      with_reducible rfl
    simp only [Act.put, qA, qB, qC]
  refine wpPlan_nil (hT.out _ _ ?_); clear hT T
  intro G vw2 hg hf
  simp only [puts, Act.put, qA, qB, qC, qD, qE, ↓reduceIte, Nat.reduceEqDiff]
  clear lx0 lx1 lx2 lx3
  have HG := Lib.hid (hg)
  clear hg
  have bx0 := BX0.out.gr HG.out; clear BX0
  have bx1 := BX1.out.gr HG.out; clear BX1
  have bx2 := BX2.out.gr HG.out; clear BX2
  have bx3 := BX3.out.gr HG.out; clear BX3
  have bx4 := BX4.out.gr HG.out; clear BX4
  have r0 := Gr.refl vw2
  have BX0 := Lib.hid bx0; clear bx0
  have BX1 := Lib.hid bx1; clear bx1
  have BX2 := Lib.hid bx2; clear bx2
  have BX3 := Lib.hid bx3; clear bx3
  have BX4 := Lib.hid bx4; clear bx4
  go_wp2
  refine hK.out _ _ ?_; clear hK K
  show Code.wp _ _ _ _ _
  clear r0
  refine forgetW (fun w2 => Bx w2 (w.heap.size) 38 #[.int .u64 (lo a1.num.natAbs), .string (bg a1.num.natAbs), .bool (decide (a1.num < 0)), .int .u64 (lo (a1.den - 1)), .string (bg (a1.den - 1)), .int .u64 (lo a2.num.natAbs), .string (bg a2.num.natAbs), .bool (decide (a2.num < 0)), .int .u64 (lo (a2.den - 1)), .string (bg (a2.den - 1))] ∧ Bx w2 (w.heap.size + 1) 38 #[.int .u64 (lo b1.num.natAbs), .string (bg b1.num.natAbs), .bool (decide (b1.num < 0)), .int .u64 (lo (b1.den - 1)), .string (bg (b1.den - 1)), .int .u64 (lo b2.num.natAbs), .string (bg b2.num.natAbs), .bool (decide (b2.num < 0)), .int .u64 (lo (b2.den - 1)), .string (bg (b2.den - 1))] ∧ Bx w2 (w.heap.size + 1 + 1) 38 #[.int .u64 (lo c1.num.natAbs), .string (bg c1.num.natAbs), .bool (decide (c1.num < 0)), .int .u64 (lo (c1.den - 1)), .string (bg (c1.den - 1)), .int .u64 (lo c2.num.natAbs), .string (bg c2.num.natAbs), .bool (decide (c2.num < 0)), .int .u64 (lo (c2.den - 1)), .string (bg (c2.den - 1))] ∧ Bx w2 (w.heap.size + 1 + 1 + 1) 38 #[.int .u64 (lo d1.num.natAbs), .string (bg d1.num.natAbs), .bool (decide (d1.num < 0)), .int .u64 (lo (d1.den - 1)), .string (bg (d1.den - 1)), .int .u64 (lo d2.num.natAbs), .string (bg d2.num.natAbs), .bool (decide (d2.num < 0)), .int .u64 (lo (d2.den - 1)), .string (bg (d2.den - 1))] ∧ Bx w2 (w.heap.size + 1 + 1 + 1 + 1) 38 #[.int .u64 0, .string ⟨#[]⟩, .bool false, .int .u64 0, .string ⟨#[]⟩, .int .u64 0, .string ⟨#[]⟩, .bool false, .int .u64 0, .string ⟨#[]⟩] ∧ Below w.heap.size w w2) ⟨BX0.out, BX1.out, BX2.out, BX3.out, BX4.out, HB.out.trans (HG.out.mono HB.out.size)⟩ ?_
  clear HB HG BX0 BX1 BX2 BX3 BX4
  rintro Wx2 ⟨bx0, bx1, bx2, bx3, bx4, HB⟩
  replace HB := Lib.hid HB
  refine wp_seq ?_
  refine wp_block ?_
  have way2 := way.out; clear way; rcases way2 with ⟨z1, way⟩ | ⟨z1, z2, way⟩ | ⟨z1, z2, z3, way⟩ | ⟨z1, z2, z3, z4, way⟩
  · -- region 3
    have BX0 := Lib.hid bx0
    have BX1 := Lib.hid bx1
    have BX2 := Lib.hid bx2
    have BX3 := Lib.hid bx3
    have BX4 := Lib.hid bx4
    clear bx0 bx1 bx2 bx3 bx4
    refine wp_seq_k fun K hK => ?_
    replace hK := Lib.hid hK
    refine wp_region_seqplan 15 [(true, 0), (true, 1), (true, 2), (true, 3), (true, 4), (true, 5), (true, 6), (true, 7), (true, 8), (true, 9), (true, 10), (true, 11), (true, 12), (true, 13), (true, 14)] (by rfl) (by simp) (fun T hT => ?_)
    iterate 3
      refine wpPlan_takeL (v := ?_) rfl (by rfl) (fun w' hw => ?_) ?_
      rotate_left
      · go_simp
        with_reducible rfl
      simp only [Act.put, qA, qB, qC]
    refine wpPlan_skipL rfl (by rfl) ?_
    simp only [Act.put, qA, qB, qC]
    refine wpPlan_skipL rfl (by rfl) ?_
    simp only [Act.put, qA, qB, qC]
    iterate 2
      refine wpPlan_takeL (v := ?_) rfl (by rfl) (fun w' hw => ?_) ?_
      rotate_left
      · go_simp
        with_reducible rfl
      simp only [Act.put, qA, qB, qC]
    refine wpPlan_skipL rfl (by rfl) ?_
    simp only [Act.put, qA, qB, qC]
    refine wpPlan_skipL rfl (by rfl) ?_
    simp only [Act.put, qA, qB, qC]
    iterate 2
      refine wpPlan_takeL (v := ?_) rfl (by rfl) (fun w' hw => ?_) ?_
      rotate_left
      · go_simp
        with_reducible rfl
      simp only [Act.put, qA, qB, qC]
    refine wpPlan_skipL rfl (by rfl) ?_
    simp only [Act.put, qA, qB, qC]
    refine wpPlan_skipL rfl (by rfl) ?_
    simp only [Act.put, qA, qB, qC]
    iterate 2
      refine wpPlan_takeL (v := ?_) rfl (by rfl) (fun w' hw => ?_) ?_
      rotate_left
      · go_simp
        with_reducible rfl
      simp only [Act.put, qA, qB, qC]
    refine wpPlan_nil (hT.out _ _ ?_); clear hT T
    intro vw3 hg
    simp only [puts, Act.put, qA, qB, qC, qD, qE, ↓reduceIte, Nat.reduceEqDiff]
    have HG := Lib.hid (hg)
    clear hg
    have bx0 := BX0.out.gr HG.out; clear BX0
    have bx1 := BX1.out.gr HG.out; clear BX1
    have bx2 := BX2.out.gr HG.out; clear BX2
    have bx3 := BX3.out.gr HG.out; clear BX3
    have bx4 := BX4.out.gr HG.out; clear BX4
    have r0 := Gr.refl vw3
    have BX0 := Lib.hid bx0; clear bx0
    have BX1 := Lib.hid bx1; clear bx1
    have BX2 := Lib.hid bx2; clear bx2
    have BX3 := Lib.hid bx3; clear bx3
    have BX4 := Lib.hid bx4; clear bx4
    go_wp2
    refine hK.out _ _ ?_; clear hK K
    show Code.wp _ _ _ _ _
    clear r0
    refine forgetW (fun w2 => Bx w2 (w.heap.size) 38 #[.int .u64 (lo a1.num.natAbs), .string (bg a1.num.natAbs), .bool (decide (a1.num < 0)), .int .u64 (lo (a1.den - 1)), .string (bg (a1.den - 1)), .int .u64 (lo a2.num.natAbs), .string (bg a2.num.natAbs), .bool (decide (a2.num < 0)), .int .u64 (lo (a2.den - 1)), .string (bg (a2.den - 1))] ∧ Bx w2 (w.heap.size + 1) 38 #[.int .u64 (lo b1.num.natAbs), .string (bg b1.num.natAbs), .bool (decide (b1.num < 0)), .int .u64 (lo (b1.den - 1)), .string (bg (b1.den - 1)), .int .u64 (lo b2.num.natAbs), .string (bg b2.num.natAbs), .bool (decide (b2.num < 0)), .int .u64 (lo (b2.den - 1)), .string (bg (b2.den - 1))] ∧ Bx w2 (w.heap.size + 1 + 1) 38 #[.int .u64 (lo c1.num.natAbs), .string (bg c1.num.natAbs), .bool (decide (c1.num < 0)), .int .u64 (lo (c1.den - 1)), .string (bg (c1.den - 1)), .int .u64 (lo c2.num.natAbs), .string (bg c2.num.natAbs), .bool (decide (c2.num < 0)), .int .u64 (lo (c2.den - 1)), .string (bg (c2.den - 1))] ∧ Bx w2 (w.heap.size + 1 + 1 + 1) 38 #[.int .u64 (lo d1.num.natAbs), .string (bg d1.num.natAbs), .bool (decide (d1.num < 0)), .int .u64 (lo (d1.den - 1)), .string (bg (d1.den - 1)), .int .u64 (lo d2.num.natAbs), .string (bg d2.num.natAbs), .bool (decide (d2.num < 0)), .int .u64 (lo (d2.den - 1)), .string (bg (d2.den - 1))] ∧ Bx w2 (w.heap.size + 1 + 1 + 1 + 1) 38 #[.int .u64 0, .string ⟨#[]⟩, .bool false, .int .u64 0, .string ⟨#[]⟩, .int .u64 0, .string ⟨#[]⟩, .bool false, .int .u64 0, .string ⟨#[]⟩] ∧ Below w.heap.size w w2) ⟨BX0.out, BX1.out, BX2.out, BX3.out, BX4.out, HB.out.trans (HG.out.mono HB.out.size)⟩ ?_
    clear HB HG BX0 BX1 BX2 BX3 BX4
    rintro Wx3 ⟨bx0, bx1, bx2, bx3, bx4, HB⟩
    replace HB := Lib.hid HB
    refine wp_cond_false (by rfl) ?_
    have way2 := way.out; clear way; rcases way2 with ⟨g1, rfl, rfl, rfl⟩ | ⟨g1, g2, rfl, rfl, rfl⟩
    · -- region 5
      have BX0 := Lib.hid bx0
      have BX1 := Lib.hid bx1
      have BX2 := Lib.hid bx2
      have BX3 := Lib.hid bx3
      have BX4 := Lib.hid bx4
      clear bx0 bx1 bx2 bx3 bx4
      refine wp_seq_k fun K hK => ?_
      replace hK := Lib.hid hK
      refine wp_region_seqplan 11 [(true, 0), (true, 1), (true, 2), (true, 3), (true, 4), (true, 5), (true, 6), (true, 7), (true, 8), (true, 9), (true, 10)] (by rfl) (by simp) (fun T hT => ?_)
      iterate 5
        refine wpPlan_takeL (v := ?_) rfl (by rfl) (fun w' hw => ?_) ?_
        rotate_left
        · go_simp
          with_reducible rfl
        simp only [Act.put, qA, qB, qC]
      refine wpPlan_skipL rfl (by rfl) ?_
      simp only [Act.put, qA, qB, qC]
      refine wpPlan_skipL rfl (by rfl) ?_
      simp only [Act.put, qA, qB, qC]
      refine wpPlan_skipL rfl (by rfl) ?_
      simp only [Act.put, qA, qB, qC]
      refine wpPlan_skipL rfl (by rfl) ?_
      simp only [Act.put, qA, qB, qC]
      iterate 2
        refine wpPlan_takeL (v := ?_) rfl (by rfl) (fun w' hw => ?_) ?_
        rotate_left
        · go_simp
          with_reducible rfl
        simp only [Act.put, qA, qB, qC]
      refine wpPlan_nil (hT.out _ _ ?_); clear hT T
      intro vw4 hg
      simp only [puts, Act.put, qA, qB, qC, qD, qE, ↓reduceIte, Nat.reduceEqDiff]
      have HG := Lib.hid (hg)
      clear hg
      have bx0 := BX0.out.gr HG.out; clear BX0
      have bx1 := BX1.out.gr HG.out; clear BX1
      have bx2 := BX2.out.gr HG.out; clear BX2
      have bx3 := BX3.out.gr HG.out; clear BX3
      have bx4 := BX4.out.gr HG.out; clear BX4
      have r0 := Gr.refl vw4
      have BX0 := Lib.hid bx0; clear bx0
      have BX1 := Lib.hid bx1; clear bx1
      have BX2 := Lib.hid bx2; clear bx2
      have BX3 := Lib.hid bx3; clear bx3
      have BX4 := Lib.hid bx4; clear bx4
      go_wp2
      refine hK.out _ _ ?_; clear hK K
      show Code.wp _ _ _ _ _
      clear r0
      refine forgetW (fun w2 => Bx w2 (w.heap.size) 38 #[.int .u64 (lo a1.num.natAbs), .string (bg a1.num.natAbs), .bool (decide (a1.num < 0)), .int .u64 (lo (a1.den - 1)), .string (bg (a1.den - 1)), .int .u64 (lo a2.num.natAbs), .string (bg a2.num.natAbs), .bool (decide (a2.num < 0)), .int .u64 (lo (a2.den - 1)), .string (bg (a2.den - 1))] ∧ Bx w2 (w.heap.size + 1) 38 #[.int .u64 (lo b1.num.natAbs), .string (bg b1.num.natAbs), .bool (decide (b1.num < 0)), .int .u64 (lo (b1.den - 1)), .string (bg (b1.den - 1)), .int .u64 (lo b2.num.natAbs), .string (bg b2.num.natAbs), .bool (decide (b2.num < 0)), .int .u64 (lo (b2.den - 1)), .string (bg (b2.den - 1))] ∧ Bx w2 (w.heap.size + 1 + 1) 38 #[.int .u64 (lo c1.num.natAbs), .string (bg c1.num.natAbs), .bool (decide (c1.num < 0)), .int .u64 (lo (c1.den - 1)), .string (bg (c1.den - 1)), .int .u64 (lo c2.num.natAbs), .string (bg c2.num.natAbs), .bool (decide (c2.num < 0)), .int .u64 (lo (c2.den - 1)), .string (bg (c2.den - 1))] ∧ Bx w2 (w.heap.size + 1 + 1 + 1) 38 #[.int .u64 (lo d1.num.natAbs), .string (bg d1.num.natAbs), .bool (decide (d1.num < 0)), .int .u64 (lo (d1.den - 1)), .string (bg (d1.den - 1)), .int .u64 (lo d2.num.natAbs), .string (bg d2.num.natAbs), .bool (decide (d2.num < 0)), .int .u64 (lo (d2.den - 1)), .string (bg (d2.den - 1))] ∧ Bx w2 (w.heap.size + 1 + 1 + 1 + 1) 38 #[.int .u64 0, .string ⟨#[]⟩, .bool false, .int .u64 0, .string ⟨#[]⟩, .int .u64 0, .string ⟨#[]⟩, .bool false, .int .u64 0, .string ⟨#[]⟩] ∧ Below w.heap.size w w2) ⟨BX0.out, BX1.out, BX2.out, BX3.out, BX4.out, HB.out.trans (HG.out.mono HB.out.size)⟩ ?_
      clear HB HG BX0 BX1 BX2 BX3 BX4
      rintro Wx5 ⟨bx0, bx1, bx2, bx3, bx4, HB⟩
      replace HB := Lib.hid HB
      refine wp_cond_true (by rfl) ?_
      -- region 6
      have BX0 := Lib.hid bx0
      have BX1 := Lib.hid bx1
      have BX2 := Lib.hid bx2
      have BX3 := Lib.hid bx3
      have BX4 := Lib.hid bx4
      clear bx0 bx1 bx2 bx3 bx4
      refine wp_seq_k fun K hK => ?_
      replace hK := Lib.hid hK
      refine wp_region_seqplan 2 [(true, 0), (true, 1)] (by rfl) (by simp) (fun T hT => ?_)
      iterate 2
        refine wpPlan_takeL (v := ?_) rfl (by rfl) (fun w' hw => ?_) ?_
        rotate_left
        · go_simp
          with_reducible rfl
        simp only [Act.put, qA, qB, qC]
      refine wpPlan_nil (hT.out _ _ ?_); clear hT T
      intro vw5 hg
      simp only [puts, Act.put, qA, qB, qC, qD, qE, ↓reduceIte, Nat.reduceEqDiff]
      have HG := Lib.hid (hg)
      clear hg
      have bx0 := BX0.out.gr HG.out; clear BX0
      have bx1 := BX1.out.gr HG.out; clear BX1
      have bx2 := BX2.out.gr HG.out; clear BX2
      have bx3 := BX3.out.gr HG.out; clear BX3
      have bx4 := BX4.out.gr HG.out; clear BX4
      have lx4 := bx4.cells; have fx4 := bx4.free
      have r0 := Gr.refl vw5
      have BX0 := Lib.hid bx0; clear bx0
      have BX1 := Lib.hid bx1; clear bx1
      have BX2 := Lib.hid bx2; clear bx2
      have BX3 := Lib.hid bx3; clear bx3
      have BX4 := Lib.hid bx4; clear bx4
      go_wp2
      refine hK.out _ _ ?_; clear hK K
      show Code.wp _ _ _ _ _
      clear lx4 fx4
      clear r0
      refine forgetW (fun w2 => Bx w2 (w.heap.size) 38 #[.int .u64 (lo a1.num.natAbs), .string (bg a1.num.natAbs), .bool (decide (a1.num < 0)), .int .u64 (lo (a1.den - 1)), .string (bg (a1.den - 1)), .int .u64 (lo a2.num.natAbs), .string (bg a2.num.natAbs), .bool (decide (a2.num < 0)), .int .u64 (lo (a2.den - 1)), .string (bg (a2.den - 1))] ∧ Bx w2 (w.heap.size + 1) 38 #[.int .u64 (lo b1.num.natAbs), .string (bg b1.num.natAbs), .bool (decide (b1.num < 0)), .int .u64 (lo (b1.den - 1)), .string (bg (b1.den - 1)), .int .u64 (lo b2.num.natAbs), .string (bg b2.num.natAbs), .bool (decide (b2.num < 0)), .int .u64 (lo (b2.den - 1)), .string (bg (b2.den - 1))] ∧ Bx w2 (w.heap.size + 1 + 1) 38 #[.int .u64 (lo c1.num.natAbs), .string (bg c1.num.natAbs), .bool (decide (c1.num < 0)), .int .u64 (lo (c1.den - 1)), .string (bg (c1.den - 1)), .int .u64 (lo c2.num.natAbs), .string (bg c2.num.natAbs), .bool (decide (c2.num < 0)), .int .u64 (lo (c2.den - 1)), .string (bg (c2.den - 1))] ∧ Bx w2 (w.heap.size + 1 + 1 + 1) 38 #[.int .u64 (lo d1.num.natAbs), .string (bg d1.num.natAbs), .bool (decide (d1.num < 0)), .int .u64 (lo (d1.den - 1)), .string (bg (d1.den - 1)), .int .u64 (lo d2.num.natAbs), .string (bg d2.num.natAbs), .bool (decide (d2.num < 0)), .int .u64 (lo (d2.den - 1)), .string (bg (d2.den - 1))] ∧ Bx w2 (w.heap.size + 1 + 1 + 1 + 1) 38 #[.int .u64 0, .string ⟨#[]⟩, .bool false, .int .u64 0, .string ⟨#[]⟩, .int .u64 0, .string ⟨#[]⟩, .bool false, .int .u64 0, .string ⟨#[]⟩] ∧ Below w.heap.size w w2) ⟨((((((((((BX0.out).setOther (by show w.heap.size ≠ w.heap.size + 1 + 1 + 1 + 1; omega) _).setOther (by show w.heap.size ≠ w.heap.size + 1 + 1 + 1 + 1; omega) _).setOther (by show w.heap.size ≠ w.heap.size + 1 + 1 + 1 + 1; omega) _).setOther (by show w.heap.size ≠ w.heap.size + 1 + 1 + 1 + 1; omega) _).setOther (by show w.heap.size ≠ w.heap.size + 1 + 1 + 1 + 1; omega) _).setOther (by show w.heap.size ≠ w.heap.size + 1 + 1 + 1 + 1; omega) _).setOther (by show w.heap.size ≠ w.heap.size + 1 + 1 + 1 + 1; omega) _).setOther (by show w.heap.size ≠ w.heap.size + 1 + 1 + 1 + 1; omega) _).setOther (by show w.heap.size ≠ w.heap.size + 1 + 1 + 1 + 1; omega) _).setOther (by show w.heap.size ≠ w.heap.size + 1 + 1 + 1 + 1; omega) _, ((((((((((BX1.out).setOther (by show w.heap.size + 1 ≠ w.heap.size + 1 + 1 + 1 + 1; omega) _).setOther (by show w.heap.size + 1 ≠ w.heap.size + 1 + 1 + 1 + 1; omega) _).setOther (by show w.heap.size + 1 ≠ w.heap.size + 1 + 1 + 1 + 1; omega) _).setOther (by show w.heap.size + 1 ≠ w.heap.size + 1 + 1 + 1 + 1; omega) _).setOther (by show w.heap.size + 1 ≠ w.heap.size + 1 + 1 + 1 + 1; omega) _).setOther (by show w.heap.size + 1 ≠ w.heap.size + 1 + 1 + 1 + 1; omega) _).setOther (by show w.heap.size + 1 ≠ w.heap.size + 1 + 1 + 1 + 1; omega) _).setOther (by show w.heap.size + 1 ≠ w.heap.size + 1 + 1 + 1 + 1; omega) _).setOther (by show w.heap.size + 1 ≠ w.heap.size + 1 + 1 + 1 + 1; omega) _).setOther (by show w.heap.size + 1 ≠ w.heap.size + 1 + 1 + 1 + 1; omega) _, ((((((((((BX2.out).setOther (by show w.heap.size + 1 + 1 ≠ w.heap.size + 1 + 1 + 1 + 1; omega) _).setOther (by show w.heap.size + 1 + 1 ≠ w.heap.size + 1 + 1 + 1 + 1; omega) _).setOther (by show w.heap.size + 1 + 1 ≠ w.heap.size + 1 + 1 + 1 + 1; omega) _).setOther (by show w.heap.size + 1 + 1 ≠ w.heap.size + 1 + 1 + 1 + 1; omega) _).setOther (by show w.heap.size + 1 + 1 ≠ w.heap.size + 1 + 1 + 1 + 1; omega) _).setOther (by show w.heap.size + 1 + 1 ≠ w.heap.size + 1 + 1 + 1 + 1; omega) _).setOther (by show w.heap.size + 1 + 1 ≠ w.heap.size + 1 + 1 + 1 + 1; omega) _).setOther (by show w.heap.size + 1 + 1 ≠ w.heap.size + 1 + 1 + 1 + 1; omega) _).setOther (by show w.heap.size + 1 + 1 ≠ w.heap.size + 1 + 1 + 1 + 1; omega) _).setOther (by show w.heap.size + 1 + 1 ≠ w.heap.size + 1 + 1 + 1 + 1; omega) _, ((((((((((BX3.out).setOther (by show w.heap.size + 1 + 1 + 1 ≠ w.heap.size + 1 + 1 + 1 + 1; omega) _).setOther (by show w.heap.size + 1 + 1 + 1 ≠ w.heap.size + 1 + 1 + 1 + 1; omega) _).setOther (by show w.heap.size + 1 + 1 + 1 ≠ w.heap.size + 1 + 1 + 1 + 1; omega) _).setOther (by show w.heap.size + 1 + 1 + 1 ≠ w.heap.size + 1 + 1 + 1 + 1; omega) _).setOther (by show w.heap.size + 1 + 1 + 1 ≠ w.heap.size + 1 + 1 + 1 + 1; omega) _).setOther (by show w.heap.size + 1 + 1 + 1 ≠ w.heap.size + 1 + 1 + 1 + 1; omega) _).setOther (by show w.heap.size + 1 + 1 + 1 ≠ w.heap.size + 1 + 1 + 1 + 1; omega) _).setOther (by show w.heap.size + 1 + 1 + 1 ≠ w.heap.size + 1 + 1 + 1 + 1; omega) _).setOther (by show w.heap.size + 1 + 1 + 1 ≠ w.heap.size + 1 + 1 + 1 + 1; omega) _).setOther (by show w.heap.size + 1 + 1 + 1 ≠ w.heap.size + 1 + 1 + 1 + 1; omega) _, (((((((((((BX4.out).set 0 _).set 1 _).set 2 _).set 3 _).set 4 _).set 5 _).set 6 _).set 7 _).set 8 _).set 9 _).eq (by simp only [List.setIfInBounds_toArray, List.set_cons_zero, List.set_cons_succ]), ((((((((((HB.out.trans (HG.out.mono HB.out.size)).setCell (by show w.heap.size ≤ w.heap.size + 1 + 1 + 1 + 1; omega) _).setCell (by show w.heap.size ≤ w.heap.size + 1 + 1 + 1 + 1; omega) _).setCell (by show w.heap.size ≤ w.heap.size + 1 + 1 + 1 + 1; omega) _).setCell (by show w.heap.size ≤ w.heap.size + 1 + 1 + 1 + 1; omega) _).setCell (by show w.heap.size ≤ w.heap.size + 1 + 1 + 1 + 1; omega) _).setCell (by show w.heap.size ≤ w.heap.size + 1 + 1 + 1 + 1; omega) _).setCell (by show w.heap.size ≤ w.heap.size + 1 + 1 + 1 + 1; omega) _).setCell (by show w.heap.size ≤ w.heap.size + 1 + 1 + 1 + 1; omega) _).setCell (by show w.heap.size ≤ w.heap.size + 1 + 1 + 1 + 1; omega) _).setCell (by show w.heap.size ≤ w.heap.size + 1 + 1 + 1 + 1; omega) _⟩ ?_
      clear HB HG BX0 BX1 BX2 BX3 BX4
      rintro Wx6 ⟨bx0, bx1, bx2, bx3, bx4, HB⟩
      replace HB := Lib.hid HB
      refine wp_ret ?_
      try simp only [Exit.then, Exit.inBlock]
      have lx4 := bx4.cells
      have r0 := Gr.refl Wx6
      exact bodyPost_ret (v := .tuple #[.int .i64 0, (.agg #[.int .u64 0, .string ⟨#[]⟩, .bool false, .int .u64 0, .string ⟨#[]⟩, .int .u64 0, .string ⟨#[]⟩, .bool false, .int .u64 0, .string ⟨#[]⟩])]) (by simp [results, Try.results21, go_sem, lx4 _ r0]) rfl ⟨rfl, HB.out⟩
    · -- region 5
      have BX0 := Lib.hid bx0
      have BX1 := Lib.hid bx1
      have BX2 := Lib.hid bx2
      have BX3 := Lib.hid bx3
      have BX4 := Lib.hid bx4
      clear bx0 bx1 bx2 bx3 bx4
      refine wp_seq_k fun K hK => ?_
      replace hK := Lib.hid hK
      refine wp_region_seqplan 11 [(true, 0), (true, 1), (true, 2), (true, 3), (true, 4), (true, 5), (true, 6), (true, 7), (true, 8), (true, 9), (true, 10)] (by rfl) (by simp) (fun T hT => ?_)
      iterate 11
        refine wpPlan_takeL (v := ?_) rfl (by rfl) (fun w' hw => ?_) ?_
        rotate_left
        · go_simp
          with_reducible rfl
        simp only [Act.put, qA, qB, qC]
      refine wpPlan_nil (hT.out _ _ ?_); clear hT T
      intro vw4 hg
      simp only [puts, Act.put, qA, qB, qC, qD, qE, ↓reduceIte, Nat.reduceEqDiff]
      have HG := Lib.hid (hg)
      clear hg
      have bx0 := BX0.out.gr HG.out; clear BX0
      have bx1 := BX1.out.gr HG.out; clear BX1
      have bx2 := BX2.out.gr HG.out; clear BX2
      have bx3 := BX3.out.gr HG.out; clear BX3
      have bx4 := BX4.out.gr HG.out; clear BX4
      have r0 := Gr.refl vw4
      have BX0 := Lib.hid bx0; clear bx0
      have BX1 := Lib.hid bx1; clear bx1
      have BX2 := Lib.hid bx2; clear bx2
      have BX3 := Lib.hid bx3; clear bx3
      have BX4 := Lib.hid bx4; clear bx4
      go_wp2
      refine hK.out _ _ ?_; clear hK K
      show Code.wp _ _ _ _ _
      clear r0
      refine forgetW (fun w2 => Bx w2 (w.heap.size) 38 #[.int .u64 (lo a1.num.natAbs), .string (bg a1.num.natAbs), .bool (decide (a1.num < 0)), .int .u64 (lo (a1.den - 1)), .string (bg (a1.den - 1)), .int .u64 (lo a2.num.natAbs), .string (bg a2.num.natAbs), .bool (decide (a2.num < 0)), .int .u64 (lo (a2.den - 1)), .string (bg (a2.den - 1))] ∧ Bx w2 (w.heap.size + 1) 38 #[.int .u64 (lo b1.num.natAbs), .string (bg b1.num.natAbs), .bool (decide (b1.num < 0)), .int .u64 (lo (b1.den - 1)), .string (bg (b1.den - 1)), .int .u64 (lo b2.num.natAbs), .string (bg b2.num.natAbs), .bool (decide (b2.num < 0)), .int .u64 (lo (b2.den - 1)), .string (bg (b2.den - 1))] ∧ Bx w2 (w.heap.size + 1 + 1) 38 #[.int .u64 (lo c1.num.natAbs), .string (bg c1.num.natAbs), .bool (decide (c1.num < 0)), .int .u64 (lo (c1.den - 1)), .string (bg (c1.den - 1)), .int .u64 (lo c2.num.natAbs), .string (bg c2.num.natAbs), .bool (decide (c2.num < 0)), .int .u64 (lo (c2.den - 1)), .string (bg (c2.den - 1))] ∧ Bx w2 (w.heap.size + 1 + 1 + 1) 38 #[.int .u64 (lo d1.num.natAbs), .string (bg d1.num.natAbs), .bool (decide (d1.num < 0)), .int .u64 (lo (d1.den - 1)), .string (bg (d1.den - 1)), .int .u64 (lo d2.num.natAbs), .string (bg d2.num.natAbs), .bool (decide (d2.num < 0)), .int .u64 (lo (d2.den - 1)), .string (bg (d2.den - 1))] ∧ Bx w2 (w.heap.size + 1 + 1 + 1 + 1) 38 #[.int .u64 0, .string ⟨#[]⟩, .bool false, .int .u64 0, .string ⟨#[]⟩, .int .u64 0, .string ⟨#[]⟩, .bool false, .int .u64 0, .string ⟨#[]⟩] ∧ Below w.heap.size w w2) ⟨BX0.out, BX1.out, BX2.out, BX3.out, BX4.out, HB.out.trans (HG.out.mono HB.out.size)⟩ ?_
      clear HB HG BX0 BX1 BX2 BX3 BX4
      rintro Wx5 ⟨bx0, bx1, bx2, bx3, bx4, HB⟩
      replace HB := Lib.hid HB
      refine wp_cond_true (by rfl) ?_
      -- region 6
      have BX0 := Lib.hid bx0
      have BX1 := Lib.hid bx1
      have BX2 := Lib.hid bx2
      have BX3 := Lib.hid bx3
      have BX4 := Lib.hid bx4
      clear bx0 bx1 bx2 bx3 bx4
      refine wp_seq_k fun K hK => ?_
      replace hK := Lib.hid hK
      refine wp_region_seqplan 2 [(true, 0), (true, 1)] (by rfl) (by simp) (fun T hT => ?_)
      iterate 2
        refine wpPlan_takeL (v := ?_) rfl (by rfl) (fun w' hw => ?_) ?_
        rotate_left
        · go_simp
          with_reducible rfl
        simp only [Act.put, qA, qB, qC]
      refine wpPlan_nil (hT.out _ _ ?_); clear hT T
      intro vw5 hg
      simp only [puts, Act.put, qA, qB, qC, qD, qE, ↓reduceIte, Nat.reduceEqDiff]
      have HG := Lib.hid (hg)
      clear hg
      have bx0 := BX0.out.gr HG.out; clear BX0
      have bx1 := BX1.out.gr HG.out; clear BX1
      have bx2 := BX2.out.gr HG.out; clear BX2
      have bx3 := BX3.out.gr HG.out; clear BX3
      have bx4 := BX4.out.gr HG.out; clear BX4
      have lx4 := bx4.cells; have fx4 := bx4.free
      have r0 := Gr.refl vw5
      have BX0 := Lib.hid bx0; clear bx0
      have BX1 := Lib.hid bx1; clear bx1
      have BX2 := Lib.hid bx2; clear bx2
      have BX3 := Lib.hid bx3; clear bx3
      have BX4 := Lib.hid bx4; clear bx4
      go_wp2
      refine hK.out _ _ ?_; clear hK K
      show Code.wp _ _ _ _ _
      clear lx4 fx4
      clear r0
      refine forgetW (fun w2 => Bx w2 (w.heap.size) 38 #[.int .u64 (lo a1.num.natAbs), .string (bg a1.num.natAbs), .bool (decide (a1.num < 0)), .int .u64 (lo (a1.den - 1)), .string (bg (a1.den - 1)), .int .u64 (lo a2.num.natAbs), .string (bg a2.num.natAbs), .bool (decide (a2.num < 0)), .int .u64 (lo (a2.den - 1)), .string (bg (a2.den - 1))] ∧ Bx w2 (w.heap.size + 1) 38 #[.int .u64 (lo b1.num.natAbs), .string (bg b1.num.natAbs), .bool (decide (b1.num < 0)), .int .u64 (lo (b1.den - 1)), .string (bg (b1.den - 1)), .int .u64 (lo b2.num.natAbs), .string (bg b2.num.natAbs), .bool (decide (b2.num < 0)), .int .u64 (lo (b2.den - 1)), .string (bg (b2.den - 1))] ∧ Bx w2 (w.heap.size + 1 + 1) 38 #[.int .u64 (lo c1.num.natAbs), .string (bg c1.num.natAbs), .bool (decide (c1.num < 0)), .int .u64 (lo (c1.den - 1)), .string (bg (c1.den - 1)), .int .u64 (lo c2.num.natAbs), .string (bg c2.num.natAbs), .bool (decide (c2.num < 0)), .int .u64 (lo (c2.den - 1)), .string (bg (c2.den - 1))] ∧ Bx w2 (w.heap.size + 1 + 1 + 1) 38 #[.int .u64 (lo d1.num.natAbs), .string (bg d1.num.natAbs), .bool (decide (d1.num < 0)), .int .u64 (lo (d1.den - 1)), .string (bg (d1.den - 1)), .int .u64 (lo d2.num.natAbs), .string (bg d2.num.natAbs), .bool (decide (d2.num < 0)), .int .u64 (lo (d2.den - 1)), .string (bg (d2.den - 1))] ∧ Bx w2 (w.heap.size + 1 + 1 + 1 + 1) 38 #[.int .u64 0, .string ⟨#[]⟩, .bool false, .int .u64 0, .string ⟨#[]⟩, .int .u64 0, .string ⟨#[]⟩, .bool false, .int .u64 0, .string ⟨#[]⟩] ∧ Below w.heap.size w w2) ⟨((((((((((BX0.out).setOther (by show w.heap.size ≠ w.heap.size + 1 + 1 + 1 + 1; omega) _).setOther (by show w.heap.size ≠ w.heap.size + 1 + 1 + 1 + 1; omega) _).setOther (by show w.heap.size ≠ w.heap.size + 1 + 1 + 1 + 1; omega) _).setOther (by show w.heap.size ≠ w.heap.size + 1 + 1 + 1 + 1; omega) _).setOther (by show w.heap.size ≠ w.heap.size + 1 + 1 + 1 + 1; omega) _).setOther (by show w.heap.size ≠ w.heap.size + 1 + 1 + 1 + 1; omega) _).setOther (by show w.heap.size ≠ w.heap.size + 1 + 1 + 1 + 1; omega) _).setOther (by show w.heap.size ≠ w.heap.size + 1 + 1 + 1 + 1; omega) _).setOther (by show w.heap.size ≠ w.heap.size + 1 + 1 + 1 + 1; omega) _).setOther (by show w.heap.size ≠ w.heap.size + 1 + 1 + 1 + 1; omega) _, ((((((((((BX1.out).setOther (by show w.heap.size + 1 ≠ w.heap.size + 1 + 1 + 1 + 1; omega) _).setOther (by show w.heap.size + 1 ≠ w.heap.size + 1 + 1 + 1 + 1; omega) _).setOther (by show w.heap.size + 1 ≠ w.heap.size + 1 + 1 + 1 + 1; omega) _).setOther (by show w.heap.size + 1 ≠ w.heap.size + 1 + 1 + 1 + 1; omega) _).setOther (by show w.heap.size + 1 ≠ w.heap.size + 1 + 1 + 1 + 1; omega) _).setOther (by show w.heap.size + 1 ≠ w.heap.size + 1 + 1 + 1 + 1; omega) _).setOther (by show w.heap.size + 1 ≠ w.heap.size + 1 + 1 + 1 + 1; omega) _).setOther (by show w.heap.size + 1 ≠ w.heap.size + 1 + 1 + 1 + 1; omega) _).setOther (by show w.heap.size + 1 ≠ w.heap.size + 1 + 1 + 1 + 1; omega) _).setOther (by show w.heap.size + 1 ≠ w.heap.size + 1 + 1 + 1 + 1; omega) _, ((((((((((BX2.out).setOther (by show w.heap.size + 1 + 1 ≠ w.heap.size + 1 + 1 + 1 + 1; omega) _).setOther (by show w.heap.size + 1 + 1 ≠ w.heap.size + 1 + 1 + 1 + 1; omega) _).setOther (by show w.heap.size + 1 + 1 ≠ w.heap.size + 1 + 1 + 1 + 1; omega) _).setOther (by show w.heap.size + 1 + 1 ≠ w.heap.size + 1 + 1 + 1 + 1; omega) _).setOther (by show w.heap.size + 1 + 1 ≠ w.heap.size + 1 + 1 + 1 + 1; omega) _).setOther (by show w.heap.size + 1 + 1 ≠ w.heap.size + 1 + 1 + 1 + 1; omega) _).setOther (by show w.heap.size + 1 + 1 ≠ w.heap.size + 1 + 1 + 1 + 1; omega) _).setOther (by show w.heap.size + 1 + 1 ≠ w.heap.size + 1 + 1 + 1 + 1; omega) _).setOther (by show w.heap.size + 1 + 1 ≠ w.heap.size + 1 + 1 + 1 + 1; omega) _).setOther (by show w.heap.size + 1 + 1 ≠ w.heap.size + 1 + 1 + 1 + 1; omega) _, ((((((((((BX3.out).setOther (by show w.heap.size + 1 + 1 + 1 ≠ w.heap.size + 1 + 1 + 1 + 1; omega) _).setOther (by show w.heap.size + 1 + 1 + 1 ≠ w.heap.size + 1 + 1 + 1 + 1; omega) _).setOther (by show w.heap.size + 1 + 1 + 1 ≠ w.heap.size + 1 + 1 + 1 + 1; omega) _).setOther (by show w.heap.size + 1 + 1 + 1 ≠ w.heap.size + 1 + 1 + 1 + 1; omega) _).setOther (by show w.heap.size + 1 + 1 + 1 ≠ w.heap.size + 1 + 1 + 1 + 1; omega) _).setOther (by show w.heap.size + 1 + 1 + 1 ≠ w.heap.size + 1 + 1 + 1 + 1; omega) _).setOther (by show w.heap.size + 1 + 1 + 1 ≠ w.heap.size + 1 + 1 + 1 + 1; omega) _).setOther (by show w.heap.size + 1 + 1 + 1 ≠ w.heap.size + 1 + 1 + 1 + 1; omega) _).setOther (by show w.heap.size + 1 + 1 + 1 ≠ w.heap.size + 1 + 1 + 1 + 1; omega) _).setOther (by show w.heap.size + 1 + 1 + 1 ≠ w.heap.size + 1 + 1 + 1 + 1; omega) _, (((((((((((BX4.out).set 0 _).set 1 _).set 2 _).set 3 _).set 4 _).set 5 _).set 6 _).set 7 _).set 8 _).set 9 _).eq (by simp only [List.setIfInBounds_toArray, List.set_cons_zero, List.set_cons_succ]), ((((((((((HB.out.trans (HG.out.mono HB.out.size)).setCell (by show w.heap.size ≤ w.heap.size + 1 + 1 + 1 + 1; omega) _).setCell (by show w.heap.size ≤ w.heap.size + 1 + 1 + 1 + 1; omega) _).setCell (by show w.heap.size ≤ w.heap.size + 1 + 1 + 1 + 1; omega) _).setCell (by show w.heap.size ≤ w.heap.size + 1 + 1 + 1 + 1; omega) _).setCell (by show w.heap.size ≤ w.heap.size + 1 + 1 + 1 + 1; omega) _).setCell (by show w.heap.size ≤ w.heap.size + 1 + 1 + 1 + 1; omega) _).setCell (by show w.heap.size ≤ w.heap.size + 1 + 1 + 1 + 1; omega) _).setCell (by show w.heap.size ≤ w.heap.size + 1 + 1 + 1 + 1; omega) _).setCell (by show w.heap.size ≤ w.heap.size + 1 + 1 + 1 + 1; omega) _).setCell (by show w.heap.size ≤ w.heap.size + 1 + 1 + 1 + 1; omega) _⟩ ?_
      clear HB HG BX0 BX1 BX2 BX3 BX4
      rintro Wx6 ⟨bx0, bx1, bx2, bx3, bx4, HB⟩
      replace HB := Lib.hid HB
      refine wp_ret ?_
      try simp only [Exit.then, Exit.inBlock]
      have lx4 := bx4.cells
      have r0 := Gr.refl Wx6
      exact bodyPost_ret (v := .tuple #[.int .i64 0, (.agg #[.int .u64 0, .string ⟨#[]⟩, .bool false, .int .u64 0, .string ⟨#[]⟩, .int .u64 0, .string ⟨#[]⟩, .bool false, .int .u64 0, .string ⟨#[]⟩])]) (by simp [results, Try.results21, go_sem, lx4 _ r0]) rfl ⟨rfl, HB.out⟩
  · -- region 3
    have BX0 := Lib.hid bx0
    have BX1 := Lib.hid bx1
    have BX2 := Lib.hid bx2
    have BX3 := Lib.hid bx3
    have BX4 := Lib.hid bx4
    clear bx0 bx1 bx2 bx3 bx4
    refine wp_seq_k fun K hK => ?_
    replace hK := Lib.hid hK
    refine wp_region_seqplan 15 [(true, 0), (true, 1), (true, 2), (true, 3), (true, 4), (true, 5), (true, 6), (true, 7), (true, 8), (true, 9), (true, 10), (true, 11), (true, 12), (true, 13), (true, 14)] (by rfl) (by simp) (fun T hT => ?_)
    iterate 7
      refine wpPlan_takeL (v := ?_) rfl (by rfl) (fun w' hw => ?_) ?_
      rotate_left
      · go_simp
        with_reducible rfl
      simp only [Act.put, qA, qB, qC]
    refine wpPlan_skipL rfl (by rfl) ?_
    simp only [Act.put, qA, qB, qC]
    refine wpPlan_skipL rfl (by rfl) ?_
    simp only [Act.put, qA, qB, qC]
    iterate 2
      refine wpPlan_takeL (v := ?_) rfl (by rfl) (fun w' hw => ?_) ?_
      rotate_left
      · go_simp
        with_reducible rfl
      simp only [Act.put, qA, qB, qC]
    refine wpPlan_skipL rfl (by rfl) ?_
    simp only [Act.put, qA, qB, qC]
    refine wpPlan_skipL rfl (by rfl) ?_
    simp only [Act.put, qA, qB, qC]
    iterate 2
      refine wpPlan_takeL (v := ?_) rfl (by rfl) (fun w' hw => ?_) ?_
      rotate_left
      · go_simp
        with_reducible rfl
      simp only [Act.put, qA, qB, qC]
    refine wpPlan_nil (hT.out _ _ ?_); clear hT T
    intro vw3 hg
    simp only [puts, Act.put, qA, qB, qC, qD, qE, ↓reduceIte, Nat.reduceEqDiff]
    have HG := Lib.hid (hg)
    clear hg
    have bx0 := BX0.out.gr HG.out; clear BX0
    have bx1 := BX1.out.gr HG.out; clear BX1
    have bx2 := BX2.out.gr HG.out; clear BX2
    have bx3 := BX3.out.gr HG.out; clear BX3
    have bx4 := BX4.out.gr HG.out; clear BX4
    have r0 := Gr.refl vw3
    have BX0 := Lib.hid bx0; clear bx0
    have BX1 := Lib.hid bx1; clear bx1
    have BX2 := Lib.hid bx2; clear bx2
    have BX3 := Lib.hid bx3; clear bx3
    have BX4 := Lib.hid bx4; clear bx4
    go_wp2
    refine hK.out _ _ ?_; clear hK K
    show Code.wp _ _ _ _ _
    clear r0
    refine forgetW (fun w2 => Bx w2 (w.heap.size) 38 #[.int .u64 (lo a1.num.natAbs), .string (bg a1.num.natAbs), .bool (decide (a1.num < 0)), .int .u64 (lo (a1.den - 1)), .string (bg (a1.den - 1)), .int .u64 (lo a2.num.natAbs), .string (bg a2.num.natAbs), .bool (decide (a2.num < 0)), .int .u64 (lo (a2.den - 1)), .string (bg (a2.den - 1))] ∧ Bx w2 (w.heap.size + 1) 38 #[.int .u64 (lo b1.num.natAbs), .string (bg b1.num.natAbs), .bool (decide (b1.num < 0)), .int .u64 (lo (b1.den - 1)), .string (bg (b1.den - 1)), .int .u64 (lo b2.num.natAbs), .string (bg b2.num.natAbs), .bool (decide (b2.num < 0)), .int .u64 (lo (b2.den - 1)), .string (bg (b2.den - 1))] ∧ Bx w2 (w.heap.size + 1 + 1) 38 #[.int .u64 (lo c1.num.natAbs), .string (bg c1.num.natAbs), .bool (decide (c1.num < 0)), .int .u64 (lo (c1.den - 1)), .string (bg (c1.den - 1)), .int .u64 (lo c2.num.natAbs), .string (bg c2.num.natAbs), .bool (decide (c2.num < 0)), .int .u64 (lo (c2.den - 1)), .string (bg (c2.den - 1))] ∧ Bx w2 (w.heap.size + 1 + 1 + 1) 38 #[.int .u64 (lo d1.num.natAbs), .string (bg d1.num.natAbs), .bool (decide (d1.num < 0)), .int .u64 (lo (d1.den - 1)), .string (bg (d1.den - 1)), .int .u64 (lo d2.num.natAbs), .string (bg d2.num.natAbs), .bool (decide (d2.num < 0)), .int .u64 (lo (d2.den - 1)), .string (bg (d2.den - 1))] ∧ Bx w2 (w.heap.size + 1 + 1 + 1 + 1) 38 #[.int .u64 0, .string ⟨#[]⟩, .bool false, .int .u64 0, .string ⟨#[]⟩, .int .u64 0, .string ⟨#[]⟩, .bool false, .int .u64 0, .string ⟨#[]⟩] ∧ Below w.heap.size w w2) ⟨BX0.out, BX1.out, BX2.out, BX3.out, BX4.out, HB.out.trans (HG.out.mono HB.out.size)⟩ ?_
    clear HB HG BX0 BX1 BX2 BX3 BX4
    rintro Wx3 ⟨bx0, bx1, bx2, bx3, bx4, HB⟩
    replace HB := Lib.hid HB
    refine wp_cond_false (by rfl) ?_
    have way2 := way.out; clear way; rcases way2 with ⟨g1, rfl, rfl, rfl⟩ | ⟨g1, g2, rfl, rfl, rfl⟩ | ⟨g1, g2, rfl, hk0, hs_k, hm1, hm2⟩
    · -- region 5
      have BX0 := Lib.hid bx0
      have BX1 := Lib.hid bx1
      have BX2 := Lib.hid bx2
      have BX3 := Lib.hid bx3
      have BX4 := Lib.hid bx4
      clear bx0 bx1 bx2 bx3 bx4
      refine wp_seq_k fun K hK => ?_
      replace hK := Lib.hid hK
      refine wp_region_seqplan 11 [(true, 0), (true, 1), (true, 2), (true, 3), (true, 4), (true, 5), (true, 6), (true, 7), (true, 8), (true, 9), (true, 10)] (by rfl) (by simp) (fun T hT => ?_)
      iterate 5
        refine wpPlan_takeL (v := ?_) rfl (by rfl) (fun w' hw => ?_) ?_
        rotate_left
        · go_simp
          with_reducible rfl
        simp only [Act.put, qA, qB, qC]
      refine wpPlan_skipL rfl (by rfl) ?_
      simp only [Act.put, qA, qB, qC]
      refine wpPlan_skipL rfl (by rfl) ?_
      simp only [Act.put, qA, qB, qC]
      refine wpPlan_skipL rfl (by rfl) ?_
      simp only [Act.put, qA, qB, qC]
      refine wpPlan_skipL rfl (by rfl) ?_
      simp only [Act.put, qA, qB, qC]
      iterate 2
        refine wpPlan_takeL (v := ?_) rfl (by rfl) (fun w' hw => ?_) ?_
        rotate_left
        · go_simp
          with_reducible rfl
        simp only [Act.put, qA, qB, qC]
      refine wpPlan_nil (hT.out _ _ ?_); clear hT T
      intro vw4 hg
      simp only [puts, Act.put, qA, qB, qC, qD, qE, ↓reduceIte, Nat.reduceEqDiff]
      have HG := Lib.hid (hg)
      clear hg
      have bx0 := BX0.out.gr HG.out; clear BX0
      have bx1 := BX1.out.gr HG.out; clear BX1
      have bx2 := BX2.out.gr HG.out; clear BX2
      have bx3 := BX3.out.gr HG.out; clear BX3
      have bx4 := BX4.out.gr HG.out; clear BX4
      have r0 := Gr.refl vw4
      have BX0 := Lib.hid bx0; clear bx0
      have BX1 := Lib.hid bx1; clear bx1
      have BX2 := Lib.hid bx2; clear bx2
      have BX3 := Lib.hid bx3; clear bx3
      have BX4 := Lib.hid bx4; clear bx4
      go_wp2
      refine hK.out _ _ ?_; clear hK K
      show Code.wp _ _ _ _ _
      clear r0
      refine forgetW (fun w2 => Bx w2 (w.heap.size) 38 #[.int .u64 (lo a1.num.natAbs), .string (bg a1.num.natAbs), .bool (decide (a1.num < 0)), .int .u64 (lo (a1.den - 1)), .string (bg (a1.den - 1)), .int .u64 (lo a2.num.natAbs), .string (bg a2.num.natAbs), .bool (decide (a2.num < 0)), .int .u64 (lo (a2.den - 1)), .string (bg (a2.den - 1))] ∧ Bx w2 (w.heap.size + 1) 38 #[.int .u64 (lo b1.num.natAbs), .string (bg b1.num.natAbs), .bool (decide (b1.num < 0)), .int .u64 (lo (b1.den - 1)), .string (bg (b1.den - 1)), .int .u64 (lo b2.num.natAbs), .string (bg b2.num.natAbs), .bool (decide (b2.num < 0)), .int .u64 (lo (b2.den - 1)), .string (bg (b2.den - 1))] ∧ Bx w2 (w.heap.size + 1 + 1) 38 #[.int .u64 (lo c1.num.natAbs), .string (bg c1.num.natAbs), .bool (decide (c1.num < 0)), .int .u64 (lo (c1.den - 1)), .string (bg (c1.den - 1)), .int .u64 (lo c2.num.natAbs), .string (bg c2.num.natAbs), .bool (decide (c2.num < 0)), .int .u64 (lo (c2.den - 1)), .string (bg (c2.den - 1))] ∧ Bx w2 (w.heap.size + 1 + 1 + 1) 38 #[.int .u64 (lo d1.num.natAbs), .string (bg d1.num.natAbs), .bool (decide (d1.num < 0)), .int .u64 (lo (d1.den - 1)), .string (bg (d1.den - 1)), .int .u64 (lo d2.num.natAbs), .string (bg d2.num.natAbs), .bool (decide (d2.num < 0)), .int .u64 (lo (d2.den - 1)), .string (bg (d2.den - 1))] ∧ Bx w2 (w.heap.size + 1 + 1 + 1 + 1) 38 #[.int .u64 0, .string ⟨#[]⟩, .bool false, .int .u64 0, .string ⟨#[]⟩, .int .u64 0, .string ⟨#[]⟩, .bool false, .int .u64 0, .string ⟨#[]⟩] ∧ Below w.heap.size w w2) ⟨BX0.out, BX1.out, BX2.out, BX3.out, BX4.out, HB.out.trans (HG.out.mono HB.out.size)⟩ ?_
      clear HB HG BX0 BX1 BX2 BX3 BX4
      rintro Wx5 ⟨bx0, bx1, bx2, bx3, bx4, HB⟩
      replace HB := Lib.hid HB
      refine wp_cond_true (by rfl) ?_
      -- region 6
      have BX0 := Lib.hid bx0
      have BX1 := Lib.hid bx1
      have BX2 := Lib.hid bx2
      have BX3 := Lib.hid bx3
      have BX4 := Lib.hid bx4
      clear bx0 bx1 bx2 bx3 bx4
      refine wp_seq_k fun K hK => ?_
      replace hK := Lib.hid hK
      refine wp_region_seqplan 2 [(true, 0), (true, 1)] (by rfl) (by simp) (fun T hT => ?_)
      iterate 2
        refine wpPlan_takeL (v := ?_) rfl (by rfl) (fun w' hw => ?_) ?_
        rotate_left
        · go_simp
          with_reducible rfl
        simp only [Act.put, qA, qB, qC]
      refine wpPlan_nil (hT.out _ _ ?_); clear hT T
      intro vw5 hg
      simp only [puts, Act.put, qA, qB, qC, qD, qE, ↓reduceIte, Nat.reduceEqDiff]
      have HG := Lib.hid (hg)
      clear hg
      have bx0 := BX0.out.gr HG.out; clear BX0
      have bx1 := BX1.out.gr HG.out; clear BX1
      have bx2 := BX2.out.gr HG.out; clear BX2
      have bx3 := BX3.out.gr HG.out; clear BX3
      have bx4 := BX4.out.gr HG.out; clear BX4
      have lx4 := bx4.cells; have fx4 := bx4.free
      have r0 := Gr.refl vw5
      have BX0 := Lib.hid bx0; clear bx0
      have BX1 := Lib.hid bx1; clear bx1
      have BX2 := Lib.hid bx2; clear bx2
      have BX3 := Lib.hid bx3; clear bx3
      have BX4 := Lib.hid bx4; clear bx4
      go_wp2
      refine hK.out _ _ ?_; clear hK K
      show Code.wp _ _ _ _ _
      clear lx4 fx4
      clear r0
      refine forgetW (fun w2 => Bx w2 (w.heap.size) 38 #[.int .u64 (lo a1.num.natAbs), .string (bg a1.num.natAbs), .bool (decide (a1.num < 0)), .int .u64 (lo (a1.den - 1)), .string (bg (a1.den - 1)), .int .u64 (lo a2.num.natAbs), .string (bg a2.num.natAbs), .bool (decide (a2.num < 0)), .int .u64 (lo (a2.den - 1)), .string (bg (a2.den - 1))] ∧ Bx w2 (w.heap.size + 1) 38 #[.int .u64 (lo b1.num.natAbs), .string (bg b1.num.natAbs), .bool (decide (b1.num < 0)), .int .u64 (lo (b1.den - 1)), .string (bg (b1.den - 1)), .int .u64 (lo b2.num.natAbs), .string (bg b2.num.natAbs), .bool (decide (b2.num < 0)), .int .u64 (lo (b2.den - 1)), .string (bg (b2.den - 1))] ∧ Bx w2 (w.heap.size + 1 + 1) 38 #[.int .u64 (lo c1.num.natAbs), .string (bg c1.num.natAbs), .bool (decide (c1.num < 0)), .int .u64 (lo (c1.den - 1)), .string (bg (c1.den - 1)), .int .u64 (lo c2.num.natAbs), .string (bg c2.num.natAbs), .bool (decide (c2.num < 0)), .int .u64 (lo (c2.den - 1)), .string (bg (c2.den - 1))] ∧ Bx w2 (w.heap.size + 1 + 1 + 1) 38 #[.int .u64 (lo d1.num.natAbs), .string (bg d1.num.natAbs), .bool (decide (d1.num < 0)), .int .u64 (lo (d1.den - 1)), .string (bg (d1.den - 1)), .int .u64 (lo d2.num.natAbs), .string (bg d2.num.natAbs), .bool (decide (d2.num < 0)), .int .u64 (lo (d2.den - 1)), .string (bg (d2.den - 1))] ∧ Bx w2 (w.heap.size + 1 + 1 + 1 + 1) 38 #[.int .u64 0, .string ⟨#[]⟩, .bool false, .int .u64 0, .string ⟨#[]⟩, .int .u64 0, .string ⟨#[]⟩, .bool false, .int .u64 0, .string ⟨#[]⟩] ∧ Below w.heap.size w w2) ⟨((((((((((BX0.out).setOther (by show w.heap.size ≠ w.heap.size + 1 + 1 + 1 + 1; omega) _).setOther (by show w.heap.size ≠ w.heap.size + 1 + 1 + 1 + 1; omega) _).setOther (by show w.heap.size ≠ w.heap.size + 1 + 1 + 1 + 1; omega) _).setOther (by show w.heap.size ≠ w.heap.size + 1 + 1 + 1 + 1; omega) _).setOther (by show w.heap.size ≠ w.heap.size + 1 + 1 + 1 + 1; omega) _).setOther (by show w.heap.size ≠ w.heap.size + 1 + 1 + 1 + 1; omega) _).setOther (by show w.heap.size ≠ w.heap.size + 1 + 1 + 1 + 1; omega) _).setOther (by show w.heap.size ≠ w.heap.size + 1 + 1 + 1 + 1; omega) _).setOther (by show w.heap.size ≠ w.heap.size + 1 + 1 + 1 + 1; omega) _).setOther (by show w.heap.size ≠ w.heap.size + 1 + 1 + 1 + 1; omega) _, ((((((((((BX1.out).setOther (by show w.heap.size + 1 ≠ w.heap.size + 1 + 1 + 1 + 1; omega) _).setOther (by show w.heap.size + 1 ≠ w.heap.size + 1 + 1 + 1 + 1; omega) _).setOther (by show w.heap.size + 1 ≠ w.heap.size + 1 + 1 + 1 + 1; omega) _).setOther (by show w.heap.size + 1 ≠ w.heap.size + 1 + 1 + 1 + 1; omega) _).setOther (by show w.heap.size + 1 ≠ w.heap.size + 1 + 1 + 1 + 1; omega) _).setOther (by show w.heap.size + 1 ≠ w.heap.size + 1 + 1 + 1 + 1; omega) _).setOther (by show w.heap.size + 1 ≠ w.heap.size + 1 + 1 + 1 + 1; omega) _).setOther (by show w.heap.size + 1 ≠ w.heap.size + 1 + 1 + 1 + 1; omega) _).setOther (by show w.heap.size + 1 ≠ w.heap.size + 1 + 1 + 1 + 1; omega) _).setOther (by show w.heap.size + 1 ≠ w.heap.size + 1 + 1 + 1 + 1; omega) _, ((((((((((BX2.out).setOther (by show w.heap.size + 1 + 1 ≠ w.heap.size + 1 + 1 + 1 + 1; omega) _).setOther (by show w.heap.size + 1 + 1 ≠ w.heap.size + 1 + 1 + 1 + 1; omega) _).setOther (by show w.heap.size + 1 + 1 ≠ w.heap.size + 1 + 1 + 1 + 1; omega) _).setOther (by show w.heap.size + 1 + 1 ≠ w.heap.size + 1 + 1 + 1 + 1; omega) _).setOther (by show w.heap.size + 1 + 1 ≠ w.heap.size + 1 + 1 + 1 + 1; omega) _).setOther (by show w.heap.size + 1 + 1 ≠ w.heap.size + 1 + 1 + 1 + 1; omega) _).setOther (by show w.heap.size + 1 + 1 ≠ w.heap.size + 1 + 1 + 1 + 1; omega) _).setOther (by show w.heap.size + 1 + 1 ≠ w.heap.size + 1 + 1 + 1 + 1; omega) _).setOther (by show w.heap.size + 1 + 1 ≠ w.heap.size + 1 + 1 + 1 + 1; omega) _).setOther (by show w.heap.size + 1 + 1 ≠ w.heap.size + 1 + 1 + 1 + 1; omega) _, ((((((((((BX3.out).setOther (by show w.heap.size + 1 + 1 + 1 ≠ w.heap.size + 1 + 1 + 1 + 1; omega) _).setOther (by show w.heap.size + 1 + 1 + 1 ≠ w.heap.size + 1 + 1 + 1 + 1; omega) _).setOther (by show w.heap.size + 1 + 1 + 1 ≠ w.heap.size + 1 + 1 + 1 + 1; omega) _).setOther (by show w.heap.size + 1 + 1 + 1 ≠ w.heap.size + 1 + 1 + 1 + 1; omega) _).setOther (by show w.heap.size + 1 + 1 + 1 ≠ w.heap.size + 1 + 1 + 1 + 1; omega) _).setOther (by show w.heap.size + 1 + 1 + 1 ≠ w.heap.size + 1 + 1 + 1 + 1; omega) _).setOther (by show w.heap.size + 1 + 1 + 1 ≠ w.heap.size + 1 + 1 + 1 + 1; omega) _).setOther (by show w.heap.size + 1 + 1 + 1 ≠ w.heap.size + 1 + 1 + 1 + 1; omega) _).setOther (by show w.heap.size + 1 + 1 + 1 ≠ w.heap.size + 1 + 1 + 1 + 1; omega) _).setOther (by show w.heap.size + 1 + 1 + 1 ≠ w.heap.size + 1 + 1 + 1 + 1; omega) _, (((((((((((BX4.out).set 0 _).set 1 _).set 2 _).set 3 _).set 4 _).set 5 _).set 6 _).set 7 _).set 8 _).set 9 _).eq (by simp only [List.setIfInBounds_toArray, List.set_cons_zero, List.set_cons_succ]), ((((((((((HB.out.trans (HG.out.mono HB.out.size)).setCell (by show w.heap.size ≤ w.heap.size + 1 + 1 + 1 + 1; omega) _).setCell (by show w.heap.size ≤ w.heap.size + 1 + 1 + 1 + 1; omega) _).setCell (by show w.heap.size ≤ w.heap.size + 1 + 1 + 1 + 1; omega) _).setCell (by show w.heap.size ≤ w.heap.size + 1 + 1 + 1 + 1; omega) _).setCell (by show w.heap.size ≤ w.heap.size + 1 + 1 + 1 + 1; omega) _).setCell (by show w.heap.size ≤ w.heap.size + 1 + 1 + 1 + 1; omega) _).setCell (by show w.heap.size ≤ w.heap.size + 1 + 1 + 1 + 1; omega) _).setCell (by show w.heap.size ≤ w.heap.size + 1 + 1 + 1 + 1; omega) _).setCell (by show w.heap.size ≤ w.heap.size + 1 + 1 + 1 + 1; omega) _).setCell (by show w.heap.size ≤ w.heap.size + 1 + 1 + 1 + 1; omega) _⟩ ?_
      clear HB HG BX0 BX1 BX2 BX3 BX4
      rintro Wx6 ⟨bx0, bx1, bx2, bx3, bx4, HB⟩
      replace HB := Lib.hid HB
      refine wp_ret ?_
      try simp only [Exit.then, Exit.inBlock]
      have lx4 := bx4.cells
      have r0 := Gr.refl Wx6
      exact bodyPost_ret (v := .tuple #[.int .i64 0, (.agg #[.int .u64 0, .string ⟨#[]⟩, .bool false, .int .u64 0, .string ⟨#[]⟩, .int .u64 0, .string ⟨#[]⟩, .bool false, .int .u64 0, .string ⟨#[]⟩])]) (by simp [results, Try.results21, go_sem, lx4 _ r0]) rfl ⟨rfl, HB.out⟩
    · -- region 5
      have BX0 := Lib.hid bx0
      have BX1 := Lib.hid bx1
      have BX2 := Lib.hid bx2
      have BX3 := Lib.hid bx3
      have BX4 := Lib.hid bx4
      clear bx0 bx1 bx2 bx3 bx4
      refine wp_seq_k fun K hK => ?_
      replace hK := Lib.hid hK
      refine wp_region_seqplan 11 [(true, 0), (true, 1), (true, 2), (true, 3), (true, 4), (true, 5), (true, 6), (true, 7), (true, 8), (true, 9), (true, 10)] (by rfl) (by simp) (fun T hT => ?_)
      iterate 11
        refine wpPlan_takeL (v := ?_) rfl (by rfl) (fun w' hw => ?_) ?_
        rotate_left
        · go_simp
          with_reducible rfl
        simp only [Act.put, qA, qB, qC]
      refine wpPlan_nil (hT.out _ _ ?_); clear hT T
      intro vw4 hg
      simp only [puts, Act.put, qA, qB, qC, qD, qE, ↓reduceIte, Nat.reduceEqDiff]
      have HG := Lib.hid (hg)
      clear hg
      have bx0 := BX0.out.gr HG.out; clear BX0
      have bx1 := BX1.out.gr HG.out; clear BX1
      have bx2 := BX2.out.gr HG.out; clear BX2
      have bx3 := BX3.out.gr HG.out; clear BX3
      have bx4 := BX4.out.gr HG.out; clear BX4
      have r0 := Gr.refl vw4
      have BX0 := Lib.hid bx0; clear bx0
      have BX1 := Lib.hid bx1; clear bx1
      have BX2 := Lib.hid bx2; clear bx2
      have BX3 := Lib.hid bx3; clear bx3
      have BX4 := Lib.hid bx4; clear bx4
      go_wp2
      refine hK.out _ _ ?_; clear hK K
      show Code.wp _ _ _ _ _
      clear r0
      refine forgetW (fun w2 => Bx w2 (w.heap.size) 38 #[.int .u64 (lo a1.num.natAbs), .string (bg a1.num.natAbs), .bool (decide (a1.num < 0)), .int .u64 (lo (a1.den - 1)), .string (bg (a1.den - 1)), .int .u64 (lo a2.num.natAbs), .string (bg a2.num.natAbs), .bool (decide (a2.num < 0)), .int .u64 (lo (a2.den - 1)), .string (bg (a2.den - 1))] ∧ Bx w2 (w.heap.size + 1) 38 #[.int .u64 (lo b1.num.natAbs), .string (bg b1.num.natAbs), .bool (decide (b1.num < 0)), .int .u64 (lo (b1.den - 1)), .string (bg (b1.den - 1)), .int .u64 (lo b2.num.natAbs), .string (bg b2.num.natAbs), .bool (decide (b2.num < 0)), .int .u64 (lo (b2.den - 1)), .string (bg (b2.den - 1))] ∧ Bx w2 (w.heap.size + 1 + 1) 38 #[.int .u64 (lo c1.num.natAbs), .string (bg c1.num.natAbs), .bool (decide (c1.num < 0)), .int .u64 (lo (c1.den - 1)), .string (bg (c1.den - 1)), .int .u64 (lo c2.num.natAbs), .string (bg c2.num.natAbs), .bool (decide (c2.num < 0)), .int .u64 (lo (c2.den - 1)), .string (bg (c2.den - 1))] ∧ Bx w2 (w.heap.size + 1 + 1 + 1) 38 #[.int .u64 (lo d1.num.natAbs), .string (bg d1.num.natAbs), .bool (decide (d1.num < 0)), .int .u64 (lo (d1.den - 1)), .string (bg (d1.den - 1)), .int .u64 (lo d2.num.natAbs), .string (bg d2.num.natAbs), .bool (decide (d2.num < 0)), .int .u64 (lo (d2.den - 1)), .string (bg (d2.den - 1))] ∧ Bx w2 (w.heap.size + 1 + 1 + 1 + 1) 38 #[.int .u64 0, .string ⟨#[]⟩, .bool false, .int .u64 0, .string ⟨#[]⟩, .int .u64 0, .string ⟨#[]⟩, .bool false, .int .u64 0, .string ⟨#[]⟩] ∧ Below w.heap.size w w2) ⟨BX0.out, BX1.out, BX2.out, BX3.out, BX4.out, HB.out.trans (HG.out.mono HB.out.size)⟩ ?_
      clear HB HG BX0 BX1 BX2 BX3 BX4
      rintro Wx5 ⟨bx0, bx1, bx2, bx3, bx4, HB⟩
      replace HB := Lib.hid HB
      refine wp_cond_true (by rfl) ?_
      -- region 6
      have BX0 := Lib.hid bx0
      have BX1 := Lib.hid bx1
      have BX2 := Lib.hid bx2
      have BX3 := Lib.hid bx3
      have BX4 := Lib.hid bx4
      clear bx0 bx1 bx2 bx3 bx4
      refine wp_seq_k fun K hK => ?_
      replace hK := Lib.hid hK
      refine wp_region_seqplan 2 [(true, 0), (true, 1)] (by rfl) (by simp) (fun T hT => ?_)
      iterate 2
        refine wpPlan_takeL (v := ?_) rfl (by rfl) (fun w' hw => ?_) ?_
        rotate_left
        · go_simp
          with_reducible rfl
        simp only [Act.put, qA, qB, qC]
      refine wpPlan_nil (hT.out _ _ ?_); clear hT T
      intro vw5 hg
      simp only [puts, Act.put, qA, qB, qC, qD, qE, ↓reduceIte, Nat.reduceEqDiff]
      have HG := Lib.hid (hg)
      clear hg
      have bx0 := BX0.out.gr HG.out; clear BX0
      have bx1 := BX1.out.gr HG.out; clear BX1
      have bx2 := BX2.out.gr HG.out; clear BX2
      have bx3 := BX3.out.gr HG.out; clear BX3
      have bx4 := BX4.out.gr HG.out; clear BX4
      have lx4 := bx4.cells; have fx4 := bx4.free
      have r0 := Gr.refl vw5
      have BX0 := Lib.hid bx0; clear bx0
      have BX1 := Lib.hid bx1; clear bx1
      have BX2 := Lib.hid bx2; clear bx2
      have BX3 := Lib.hid bx3; clear bx3
      have BX4 := Lib.hid bx4; clear bx4
      go_wp2
      refine hK.out _ _ ?_; clear hK K
      show Code.wp _ _ _ _ _
      clear lx4 fx4
      clear r0
      refine forgetW (fun w2 => Bx w2 (w.heap.size) 38 #[.int .u64 (lo a1.num.natAbs), .string (bg a1.num.natAbs), .bool (decide (a1.num < 0)), .int .u64 (lo (a1.den - 1)), .string (bg (a1.den - 1)), .int .u64 (lo a2.num.natAbs), .string (bg a2.num.natAbs), .bool (decide (a2.num < 0)), .int .u64 (lo (a2.den - 1)), .string (bg (a2.den - 1))] ∧ Bx w2 (w.heap.size + 1) 38 #[.int .u64 (lo b1.num.natAbs), .string (bg b1.num.natAbs), .bool (decide (b1.num < 0)), .int .u64 (lo (b1.den - 1)), .string (bg (b1.den - 1)), .int .u64 (lo b2.num.natAbs), .string (bg b2.num.natAbs), .bool (decide (b2.num < 0)), .int .u64 (lo (b2.den - 1)), .string (bg (b2.den - 1))] ∧ Bx w2 (w.heap.size + 1 + 1) 38 #[.int .u64 (lo c1.num.natAbs), .string (bg c1.num.natAbs), .bool (decide (c1.num < 0)), .int .u64 (lo (c1.den - 1)), .string (bg (c1.den - 1)), .int .u64 (lo c2.num.natAbs), .string (bg c2.num.natAbs), .bool (decide (c2.num < 0)), .int .u64 (lo (c2.den - 1)), .string (bg (c2.den - 1))] ∧ Bx w2 (w.heap.size + 1 + 1 + 1) 38 #[.int .u64 (lo d1.num.natAbs), .string (bg d1.num.natAbs), .bool (decide (d1.num < 0)), .int .u64 (lo (d1.den - 1)), .string (bg (d1.den - 1)), .int .u64 (lo d2.num.natAbs), .string (bg d2.num.natAbs), .bool (decide (d2.num < 0)), .int .u64 (lo (d2.den - 1)), .string (bg (d2.den - 1))] ∧ Bx w2 (w.heap.size + 1 + 1 + 1 + 1) 38 #[.int .u64 0, .string ⟨#[]⟩, .bool false, .int .u64 0, .string ⟨#[]⟩, .int .u64 0, .string ⟨#[]⟩, .bool false, .int .u64 0, .string ⟨#[]⟩] ∧ Below w.heap.size w w2) ⟨((((((((((BX0.out).setOther (by show w.heap.size ≠ w.heap.size + 1 + 1 + 1 + 1; omega) _).setOther (by show w.heap.size ≠ w.heap.size + 1 + 1 + 1 + 1; omega) _).setOther (by show w.heap.size ≠ w.heap.size + 1 + 1 + 1 + 1; omega) _).setOther (by show w.heap.size ≠ w.heap.size + 1 + 1 + 1 + 1; omega) _).setOther (by show w.heap.size ≠ w.heap.size + 1 + 1 + 1 + 1; omega) _).setOther (by show w.heap.size ≠ w.heap.size + 1 + 1 + 1 + 1; omega) _).setOther (by show w.heap.size ≠ w.heap.size + 1 + 1 + 1 + 1; omega) _).setOther (by show w.heap.size ≠ w.heap.size + 1 + 1 + 1 + 1; omega) _).setOther (by show w.heap.size ≠ w.heap.size + 1 + 1 + 1 + 1; omega) _).setOther (by show w.heap.size ≠ w.heap.size + 1 + 1 + 1 + 1; omega) _, ((((((((((BX1.out).setOther (by show w.heap.size + 1 ≠ w.heap.size + 1 + 1 + 1 + 1; omega) _).setOther (by show w.heap.size + 1 ≠ w.heap.size + 1 + 1 + 1 + 1; omega) _).setOther (by show w.heap.size + 1 ≠ w.heap.size + 1 + 1 + 1 + 1; omega) _).setOther (by show w.heap.size + 1 ≠ w.heap.size + 1 + 1 + 1 + 1; omega) _).setOther (by show w.heap.size + 1 ≠ w.heap.size + 1 + 1 + 1 + 1; omega) _).setOther (by show w.heap.size + 1 ≠ w.heap.size + 1 + 1 + 1 + 1; omega) _).setOther (by show w.heap.size + 1 ≠ w.heap.size + 1 + 1 + 1 + 1; omega) _).setOther (by show w.heap.size + 1 ≠ w.heap.size + 1 + 1 + 1 + 1; omega) _).setOther (by show w.heap.size + 1 ≠ w.heap.size + 1 + 1 + 1 + 1; omega) _).setOther (by show w.heap.size + 1 ≠ w.heap.size + 1 + 1 + 1 + 1; omega) _, ((((((((((BX2.out).setOther (by show w.heap.size + 1 + 1 ≠ w.heap.size + 1 + 1 + 1 + 1; omega) _).setOther (by show w.heap.size + 1 + 1 ≠ w.heap.size + 1 + 1 + 1 + 1; omega) _).setOther (by show w.heap.size + 1 + 1 ≠ w.heap.size + 1 + 1 + 1 + 1; omega) _).setOther (by show w.heap.size + 1 + 1 ≠ w.heap.size + 1 + 1 + 1 + 1; omega) _).setOther (by show w.heap.size + 1 + 1 ≠ w.heap.size + 1 + 1 + 1 + 1; omega) _).setOther (by show w.heap.size + 1 + 1 ≠ w.heap.size + 1 + 1 + 1 + 1; omega) _).setOther (by show w.heap.size + 1 + 1 ≠ w.heap.size + 1 + 1 + 1 + 1; omega) _).setOther (by show w.heap.size + 1 + 1 ≠ w.heap.size + 1 + 1 + 1 + 1; omega) _).setOther (by show w.heap.size + 1 + 1 ≠ w.heap.size + 1 + 1 + 1 + 1; omega) _).setOther (by show w.heap.size + 1 + 1 ≠ w.heap.size + 1 + 1 + 1 + 1; omega) _, ((((((((((BX3.out).setOther (by show w.heap.size + 1 + 1 + 1 ≠ w.heap.size + 1 + 1 + 1 + 1; omega) _).setOther (by show w.heap.size + 1 + 1 + 1 ≠ w.heap.size + 1 + 1 + 1 + 1; omega) _).setOther (by show w.heap.size + 1 + 1 + 1 ≠ w.heap.size + 1 + 1 + 1 + 1; omega) _).setOther (by show w.heap.size + 1 + 1 + 1 ≠ w.heap.size + 1 + 1 + 1 + 1; omega) _).setOther (by show w.heap.size + 1 + 1 + 1 ≠ w.heap.size + 1 + 1 + 1 + 1; omega) _).setOther (by show w.heap.size + 1 + 1 + 1 ≠ w.heap.size + 1 + 1 + 1 + 1; omega) _).setOther (by show w.heap.size + 1 + 1 + 1 ≠ w.heap.size + 1 + 1 + 1 + 1; omega) _).setOther (by show w.heap.size + 1 + 1 + 1 ≠ w.heap.size + 1 + 1 + 1 + 1; omega) _).setOther (by show w.heap.size + 1 + 1 + 1 ≠ w.heap.size + 1 + 1 + 1 + 1; omega) _).setOther (by show w.heap.size + 1 + 1 + 1 ≠ w.heap.size + 1 + 1 + 1 + 1; omega) _, (((((((((((BX4.out).set 0 _).set 1 _).set 2 _).set 3 _).set 4 _).set 5 _).set 6 _).set 7 _).set 8 _).set 9 _).eq (by simp only [List.setIfInBounds_toArray, List.set_cons_zero, List.set_cons_succ]), ((((((((((HB.out.trans (HG.out.mono HB.out.size)).setCell (by show w.heap.size ≤ w.heap.size + 1 + 1 + 1 + 1; omega) _).setCell (by show w.heap.size ≤ w.heap.size + 1 + 1 + 1 + 1; omega) _).setCell (by show w.heap.size ≤ w.heap.size + 1 + 1 + 1 + 1; omega) _).setCell (by show w.heap.size ≤ w.heap.size + 1 + 1 + 1 + 1; omega) _).setCell (by show w.heap.size ≤ w.heap.size + 1 + 1 + 1 + 1; omega) _).setCell (by show w.heap.size ≤ w.heap.size + 1 + 1 + 1 + 1; omega) _).setCell (by show w.heap.size ≤ w.heap.size + 1 + 1 + 1 + 1; omega) _).setCell (by show w.heap.size ≤ w.heap.size + 1 + 1 + 1 + 1; omega) _).setCell (by show w.heap.size ≤ w.heap.size + 1 + 1 + 1 + 1; omega) _).setCell (by show w.heap.size ≤ w.heap.size + 1 + 1 + 1 + 1; omega) _⟩ ?_
      clear HB HG BX0 BX1 BX2 BX3 BX4
      rintro Wx6 ⟨bx0, bx1, bx2, bx3, bx4, HB⟩
      replace HB := Lib.hid HB
      refine wp_ret ?_
      try simp only [Exit.then, Exit.inBlock]
      have lx4 := bx4.cells
      have r0 := Gr.refl Wx6
      exact bodyPost_ret (v := .tuple #[.int .i64 0, (.agg #[.int .u64 0, .string ⟨#[]⟩, .bool false, .int .u64 0, .string ⟨#[]⟩, .int .u64 0, .string ⟨#[]⟩, .bool false, .int .u64 0, .string ⟨#[]⟩])]) (by simp [results, Try.results21, go_sem, lx4 _ r0]) rfl ⟨rfl, HB.out⟩
    · -- region 5
      have BX0 := Lib.hid bx0
      have BX1 := Lib.hid bx1
      have BX2 := Lib.hid bx2
      have BX3 := Lib.hid bx3
      have BX4 := Lib.hid bx4
      clear bx0 bx1 bx2 bx3 bx4
      refine wp_seq_k fun K hK => ?_
      replace hK := Lib.hid hK
      refine wp_region_seqplan 11 [(true, 0), (true, 1), (true, 2), (true, 3), (true, 4), (true, 5), (true, 6), (true, 7), (true, 8), (true, 9), (true, 10)] (by rfl) (by simp) (fun T hT => ?_)
      iterate 11
        refine wpPlan_takeL (v := ?_) rfl (by rfl) (fun w' hw => ?_) ?_
        rotate_left
        · go_simp
          with_reducible rfl
        simp only [Act.put, qA, qB, qC]
      refine wpPlan_nil (hT.out _ _ ?_); clear hT T
      intro vw4 hg
      simp only [puts, Act.put, qA, qB, qC, qD, qE, ↓reduceIte, Nat.reduceEqDiff]
      have HG := Lib.hid (hg)
      clear hg
      have bx0 := BX0.out.gr HG.out; clear BX0
      have bx1 := BX1.out.gr HG.out; clear BX1
      have bx2 := BX2.out.gr HG.out; clear BX2
      have bx3 := BX3.out.gr HG.out; clear BX3
      have bx4 := BX4.out.gr HG.out; clear BX4
      have r0 := Gr.refl vw4
      have BX0 := Lib.hid bx0; clear bx0
      have BX1 := Lib.hid bx1; clear bx1
      have BX2 := Lib.hid bx2; clear bx2
      have BX3 := Lib.hid bx3; clear bx3
      have BX4 := Lib.hid bx4; clear bx4
      go_wp2
      refine hK.out _ _ ?_; clear hK K
      show Code.wp _ _ _ _ _
      clear r0
      refine forgetW (fun w2 => Bx w2 (w.heap.size) 38 #[.int .u64 (lo a1.num.natAbs), .string (bg a1.num.natAbs), .bool (decide (a1.num < 0)), .int .u64 (lo (a1.den - 1)), .string (bg (a1.den - 1)), .int .u64 (lo a2.num.natAbs), .string (bg a2.num.natAbs), .bool (decide (a2.num < 0)), .int .u64 (lo (a2.den - 1)), .string (bg (a2.den - 1))] ∧ Bx w2 (w.heap.size + 1) 38 #[.int .u64 (lo b1.num.natAbs), .string (bg b1.num.natAbs), .bool (decide (b1.num < 0)), .int .u64 (lo (b1.den - 1)), .string (bg (b1.den - 1)), .int .u64 (lo b2.num.natAbs), .string (bg b2.num.natAbs), .bool (decide (b2.num < 0)), .int .u64 (lo (b2.den - 1)), .string (bg (b2.den - 1))] ∧ Bx w2 (w.heap.size + 1 + 1) 38 #[.int .u64 (lo c1.num.natAbs), .string (bg c1.num.natAbs), .bool (decide (c1.num < 0)), .int .u64 (lo (c1.den - 1)), .string (bg (c1.den - 1)), .int .u64 (lo c2.num.natAbs), .string (bg c2.num.natAbs), .bool (decide (c2.num < 0)), .int .u64 (lo (c2.den - 1)), .string (bg (c2.den - 1))] ∧ Bx w2 (w.heap.size + 1 + 1 + 1) 38 #[.int .u64 (lo d1.num.natAbs), .string (bg d1.num.natAbs), .bool (decide (d1.num < 0)), .int .u64 (lo (d1.den - 1)), .string (bg (d1.den - 1)), .int .u64 (lo d2.num.natAbs), .string (bg d2.num.natAbs), .bool (decide (d2.num < 0)), .int .u64 (lo (d2.den - 1)), .string (bg (d2.den - 1))] ∧ Bx w2 (w.heap.size + 1 + 1 + 1 + 1) 38 #[.int .u64 0, .string ⟨#[]⟩, .bool false, .int .u64 0, .string ⟨#[]⟩, .int .u64 0, .string ⟨#[]⟩, .bool false, .int .u64 0, .string ⟨#[]⟩] ∧ Below w.heap.size w w2) ⟨BX0.out, BX1.out, BX2.out, BX3.out, BX4.out, HB.out.trans (HG.out.mono HB.out.size)⟩ ?_
      clear HB HG BX0 BX1 BX2 BX3 BX4
      rintro Wx5 ⟨bx0, bx1, bx2, bx3, bx4, HB⟩
      replace HB := Lib.hid HB
      refine wp_cond_false (by rfl) ?_
      refine wp_skip ?_
      show Code.wp _ _ _ _ _
      -- region 7
      obtain ⟨u1, HZ1⟩ : ∃ z, Hid ((b1) - (a1) = z) := ⟨_, Lib.hid rfl⟩
      have su1 : sz u1 ≤ 20000001 := by rw [← HZ1.out]; have := sz_sub (b1) (a1); omega
      obtain ⟨u2, HZ2⟩ : ∃ z, Hid ((b2) - (a2) = z) := ⟨_, Lib.hid rfl⟩
      have su2 : sz u2 ≤ 20000001 := by rw [← HZ2.out]; have := sz_sub (b2) (a2); omega
      obtain ⟨u3, HZ3⟩ : ∃ z, Hid ((d1) - (c1) = z) := ⟨_, Lib.hid rfl⟩
      have su3 : sz u3 ≤ 20000001 := by rw [← HZ3.out]; have := sz_sub (d1) (c1); omega
      obtain ⟨u4, HZ4⟩ : ∃ z, Hid ((d2) - (c2) = z) := ⟨_, Lib.hid rfl⟩
      have su4 : sz u4 ≤ 20000001 := by rw [← HZ4.out]; have := sz_sub (d2) (c2); omega
      have lx0 := bx0.cells
      have lx1 := bx1.cells
      have lx2 := bx2.cells
      have lx3 := bx3.cells
      have BX0 := Lib.hid bx0
      have BX1 := Lib.hid bx1
      have BX2 := Lib.hid bx2
      have BX3 := Lib.hid bx3
      have BX4 := Lib.hid bx4
      clear bx0 bx1 bx2 bx3 bx4
      refine wp_seq_k fun K hK => ?_
      replace hK := Lib.hid hK
      refine wp_region_plan 8 [6, 7] [] (fun i => if i = 6 then 14 else 15) (fun i => if i = 6 then .cells #[.int .u64 0, .string ⟨#[]⟩, .bool false, .int .u64 0, .string ⟨#[]⟩, .int .u64 0, .string ⟨#[]⟩, .bool false, .int .u64 0, .string ⟨#[]⟩] 38 else .cells #[.int .u64 0, .string ⟨#[]⟩, .bool false, .int .u64 0, .string ⟨#[]⟩, .int .u64 0, .string ⟨#[]⟩, .bool false, .int .u64 0, .string ⟨#[]⟩] 38) [(true, 0), (true, 1), (true, 3), (true, 4), (true, 2), (true, 5)] (by kernel_rfl) (by kernel_rfl) (by intro i hi; simp only [List.mem_cons, List.not_mem_nil, or_false] at hi; rcases hi with rfl | rfl <;> exact ⟨_, rfl, rfl, rfl, by simp, fun ρ w => by kernel_rfl⟩) (fun i hi => by cases hi) (fun _ _ _ _ _ h => h) (fun T hT => ?_)
      iterate 4
        refine wpPlan_takeL (v := ?_) rfl (by rfl) (fun w' hw => ?_) ?_
        rotate_left
        · go_simp
          with_reducible rfl
        simp only [Act.put, qA, qB, qC]
      refine wpPlan_callL rfl (by rfl) Try.call8 (fun w' hw => psub_any (b1) (b2) (a1) (a2) (u1) (u2) _ HZ1.out HZ2.out (by omega) (by omega) (by omega) (by omega)) (by rfl) ?_
      simp only [Act.put, qA, qB, qC]
      refine wpPlan_callL rfl (by rfl) Try.call8 (fun w' hw => psub_any (d1) (d2) (c1) (c2) (u3) (u4) _ HZ3.out HZ4.out (by omega) (by omega) (by omega) (by omega)) (by rfl) ?_
      simp only [Act.put, qA, qB, qC]
      refine wpPlan_nil (hT.out _ _ ?_); clear hT T
      intro G vw5 hg hf
      simp only [puts, Act.put, qA, qB, qC, qD, qE, ↓reduceIte, Nat.reduceEqDiff]
      clear lx0 lx1 lx2 lx3
      have HG := Lib.hid (hg)
      clear hg
      have bx5 := Bx.of_fresh hf (i := 6) (by decide) rfl
      have yx5 := (hf.1 6 (by decide)).1
      have bx6 := Bx.of_fresh hf (i := 7) (by decide) rfl
      have yx6 := (hf.1 7 (by decide)).1
      have dx5_6 : G 6 ≠ G 7 := fun e => absurd (hf.2 6 (by decide) 7 (by decide) e) (by decide)
      clear hf
      generalize G 6 = gx5 at *
      generalize G 7 = gx6 at *
      have qx0_5 : w.heap.size < gx5 := Nat.lt_of_lt_of_le BX0.out.lt yx5
      have qx0_6 : w.heap.size < gx6 := Nat.lt_of_lt_of_le BX0.out.lt yx6
      have qx1_5 : w.heap.size + 1 < gx5 := Nat.lt_of_lt_of_le BX1.out.lt yx5
      have qx1_6 : w.heap.size + 1 < gx6 := Nat.lt_of_lt_of_le BX1.out.lt yx6
      have qx2_5 : w.heap.size + 1 + 1 < gx5 := Nat.lt_of_lt_of_le BX2.out.lt yx5
      have qx2_6 : w.heap.size + 1 + 1 < gx6 := Nat.lt_of_lt_of_le BX2.out.lt yx6
      have qx3_5 : w.heap.size + 1 + 1 + 1 < gx5 := Nat.lt_of_lt_of_le BX3.out.lt yx5
      have qx3_6 : w.heap.size + 1 + 1 + 1 < gx6 := Nat.lt_of_lt_of_le BX3.out.lt yx6
      have qx4_5 : w.heap.size + 1 + 1 + 1 + 1 < gx5 := Nat.lt_of_lt_of_le BX4.out.lt yx5
      have qx4_6 : w.heap.size + 1 + 1 + 1 + 1 < gx6 := Nat.lt_of_lt_of_le BX4.out.lt yx6
      replace yx5 : w.heap.size ≤ gx5 := Nat.le_trans HB.out.size yx5
      replace yx6 : w.heap.size ≤ gx6 := Nat.le_trans HB.out.size yx6
      have bx0 := BX0.out.gr HG.out; clear BX0
      have bx1 := BX1.out.gr HG.out; clear BX1
      have bx2 := BX2.out.gr HG.out; clear BX2
      have bx3 := BX3.out.gr HG.out; clear BX3
      have bx4 := BX4.out.gr HG.out; clear BX4
      have lx5 := bx5.cells; have fx5 := bx5.free
      have lx6 := bx6.cells; have fx6 := bx6.free
      have r0 := Gr.refl vw5
      have BX0 := Lib.hid bx0; clear bx0
      have BX1 := Lib.hid bx1; clear bx1
      have BX2 := Lib.hid bx2; clear bx2
      have BX3 := Lib.hid bx3; clear bx3
      have BX4 := Lib.hid bx4; clear bx4
      have BX5 := Lib.hid bx5; clear bx5
      have BX6 := Lib.hid bx6; clear bx6
      go_wp2
      refine hK.out _ _ ?_; clear hK K
      show Code.wp _ _ _ _ _
      clear lx5 fx5
      clear lx6 fx6
      clear r0
      refine forgetW (fun w2 => Bx w2 (w.heap.size) 38 #[.int .u64 (lo a1.num.natAbs), .string (bg a1.num.natAbs), .bool (decide (a1.num < 0)), .int .u64 (lo (a1.den - 1)), .string (bg (a1.den - 1)), .int .u64 (lo a2.num.natAbs), .string (bg a2.num.natAbs), .bool (decide (a2.num < 0)), .int .u64 (lo (a2.den - 1)), .string (bg (a2.den - 1))] ∧ Bx w2 (w.heap.size + 1 + 1) 38 #[.int .u64 (lo c1.num.natAbs), .string (bg c1.num.natAbs), .bool (decide (c1.num < 0)), .int .u64 (lo (c1.den - 1)), .string (bg (c1.den - 1)), .int .u64 (lo c2.num.natAbs), .string (bg c2.num.natAbs), .bool (decide (c2.num < 0)), .int .u64 (lo (c2.den - 1)), .string (bg (c2.den - 1))] ∧ Bx w2 (w.heap.size + 1 + 1 + 1 + 1) 38 #[.int .u64 0, .string ⟨#[]⟩, .bool false, .int .u64 0, .string ⟨#[]⟩, .int .u64 0, .string ⟨#[]⟩, .bool false, .int .u64 0, .string ⟨#[]⟩] ∧ Bx w2 gx5 38 #[.int .u64 (lo u1.num.natAbs), .string (bg u1.num.natAbs), .bool (decide (u1.num < 0)), .int .u64 (lo (u1.den - 1)), .string (bg (u1.den - 1)), .int .u64 (lo u2.num.natAbs), .string (bg u2.num.natAbs), .bool (decide (u2.num < 0)), .int .u64 (lo (u2.den - 1)), .string (bg (u2.den - 1))] ∧ Bx w2 gx6 38 #[.int .u64 (lo u3.num.natAbs), .string (bg u3.num.natAbs), .bool (decide (u3.num < 0)), .int .u64 (lo (u3.den - 1)), .string (bg (u3.den - 1)), .int .u64 (lo u4.num.natAbs), .string (bg u4.num.natAbs), .bool (decide (u4.num < 0)), .int .u64 (lo (u4.den - 1)), .string (bg (u4.den - 1))] ∧ Below w.heap.size w w2) ⟨((((((((((((((((((((BX0.out).setOther (by show w.heap.size ≠ gx5; omega) _).setOther (by show w.heap.size ≠ gx5; omega) _).setOther (by show w.heap.size ≠ gx5; omega) _).setOther (by show w.heap.size ≠ gx5; omega) _).setOther (by show w.heap.size ≠ gx5; omega) _).setOther (by show w.heap.size ≠ gx5; omega) _).setOther (by show w.heap.size ≠ gx5; omega) _).setOther (by show w.heap.size ≠ gx5; omega) _).setOther (by show w.heap.size ≠ gx5; omega) _).setOther (by show w.heap.size ≠ gx5; omega) _).setOther (by show w.heap.size ≠ gx6; omega) _).setOther (by show w.heap.size ≠ gx6; omega) _).setOther (by show w.heap.size ≠ gx6; omega) _).setOther (by show w.heap.size ≠ gx6; omega) _).setOther (by show w.heap.size ≠ gx6; omega) _).setOther (by show w.heap.size ≠ gx6; omega) _).setOther (by show w.heap.size ≠ gx6; omega) _).setOther (by show w.heap.size ≠ gx6; omega) _).setOther (by show w.heap.size ≠ gx6; omega) _).setOther (by show w.heap.size ≠ gx6; omega) _, ((((((((((((((((((((BX2.out).setOther (by show w.heap.size + 1 + 1 ≠ gx5; omega) _).setOther (by show w.heap.size + 1 + 1 ≠ gx5; omega) _).setOther (by show w.heap.size + 1 + 1 ≠ gx5; omega) _).setOther (by show w.heap.size + 1 + 1 ≠ gx5; omega) _).setOther (by show w.heap.size + 1 + 1 ≠ gx5; omega) _).setOther (by show w.heap.size + 1 + 1 ≠ gx5; omega) _).setOther (by show w.heap.size + 1 + 1 ≠ gx5; omega) _).setOther (by show w.heap.size + 1 + 1 ≠ gx5; omega) _).setOther (by show w.heap.size + 1 + 1 ≠ gx5; omega) _).setOther (by show w.heap.size + 1 + 1 ≠ gx5; omega) _).setOther (by show w.heap.size + 1 + 1 ≠ gx6; omega) _).setOther (by show w.heap.size + 1 + 1 ≠ gx6; omega) _).setOther (by show w.heap.size + 1 + 1 ≠ gx6; omega) _).setOther (by show w.heap.size + 1 + 1 ≠ gx6; omega) _).setOther (by show w.heap.size + 1 + 1 ≠ gx6; omega) _).setOther (by show w.heap.size + 1 + 1 ≠ gx6; omega) _).setOther (by show w.heap.size + 1 + 1 ≠ gx6; omega) _).setOther (by show w.heap.size + 1 + 1 ≠ gx6; omega) _).setOther (by show w.heap.size + 1 + 1 ≠ gx6; omega) _).setOther (by show w.heap.size + 1 + 1 ≠ gx6; omega) _, ((((((((((((((((((((BX4.out).setOther (by show w.heap.size + 1 + 1 + 1 + 1 ≠ gx5; omega) _).setOther (by show w.heap.size + 1 + 1 + 1 + 1 ≠ gx5; omega) _).setOther (by show w.heap.size + 1 + 1 + 1 + 1 ≠ gx5; omega) _).setOther (by show w.heap.size + 1 + 1 + 1 + 1 ≠ gx5; omega) _).setOther (by show w.heap.size + 1 + 1 + 1 + 1 ≠ gx5; omega) _).setOther (by show w.heap.size + 1 + 1 + 1 + 1 ≠ gx5; omega) _).setOther (by show w.heap.size + 1 + 1 + 1 + 1 ≠ gx5; omega) _).setOther (by show w.heap.size + 1 + 1 + 1 + 1 ≠ gx5; omega) _).setOther (by show w.heap.size + 1 + 1 + 1 + 1 ≠ gx5; omega) _).setOther (by show w.heap.size + 1 + 1 + 1 + 1 ≠ gx5; omega) _).setOther (by show w.heap.size + 1 + 1 + 1 + 1 ≠ gx6; omega) _).setOther (by show w.heap.size + 1 + 1 + 1 + 1 ≠ gx6; omega) _).setOther (by show w.heap.size + 1 + 1 + 1 + 1 ≠ gx6; omega) _).setOther (by show w.heap.size + 1 + 1 + 1 + 1 ≠ gx6; omega) _).setOther (by show w.heap.size + 1 + 1 + 1 + 1 ≠ gx6; omega) _).setOther (by show w.heap.size + 1 + 1 + 1 + 1 ≠ gx6; omega) _).setOther (by show w.heap.size + 1 + 1 + 1 + 1 ≠ gx6; omega) _).setOther (by show w.heap.size + 1 + 1 + 1 + 1 ≠ gx6; omega) _).setOther (by show w.heap.size + 1 + 1 + 1 + 1 ≠ gx6; omega) _).setOther (by show w.heap.size + 1 + 1 + 1 + 1 ≠ gx6; omega) _, (((((((((((((((((((((BX5.out).set 0 _).set 1 _).set 2 _).set 3 _).set 4 _).set 5 _).set 6 _).set 7 _).set 8 _).set 9 _).setOther (by show gx5 ≠ gx6; omega) _).setOther (by show gx5 ≠ gx6; omega) _).setOther (by show gx5 ≠ gx6; omega) _).setOther (by show gx5 ≠ gx6; omega) _).setOther (by show gx5 ≠ gx6; omega) _).setOther (by show gx5 ≠ gx6; omega) _).setOther (by show gx5 ≠ gx6; omega) _).setOther (by show gx5 ≠ gx6; omega) _).setOther (by show gx5 ≠ gx6; omega) _).setOther (by show gx5 ≠ gx6; omega) _).eq (by simp only [List.setIfInBounds_toArray, List.set_cons_zero, List.set_cons_succ]), (((((((((((((((((((((BX6.out).setOther (by show gx6 ≠ gx5; omega) _).setOther (by show gx6 ≠ gx5; omega) _).setOther (by show gx6 ≠ gx5; omega) _).setOther (by show gx6 ≠ gx5; omega) _).setOther (by show gx6 ≠ gx5; omega) _).setOther (by show gx6 ≠ gx5; omega) _).setOther (by show gx6 ≠ gx5; omega) _).setOther (by show gx6 ≠ gx5; omega) _).setOther (by show gx6 ≠ gx5; omega) _).setOther (by show gx6 ≠ gx5; omega) _).set 0 _).set 1 _).set 2 _).set 3 _).set 4 _).set 5 _).set 6 _).set 7 _).set 8 _).set 9 _).eq (by simp only [List.setIfInBounds_toArray, List.set_cons_zero, List.set_cons_succ]), ((((((((((((((((((((HB.out.trans (HG.out.mono HB.out.size)).setCell (by show w.heap.size ≤ gx5; omega) _).setCell (by show w.heap.size ≤ gx5; omega) _).setCell (by show w.heap.size ≤ gx5; omega) _).setCell (by show w.heap.size ≤ gx5; omega) _).setCell (by show w.heap.size ≤ gx5; omega) _).setCell (by show w.heap.size ≤ gx5; omega) _).setCell (by show w.heap.size ≤ gx5; omega) _).setCell (by show w.heap.size ≤ gx5; omega) _).setCell (by show w.heap.size ≤ gx5; omega) _).setCell (by show w.heap.size ≤ gx5; omega) _).setCell (by show w.heap.size ≤ gx6; omega) _).setCell (by show w.heap.size ≤ gx6; omega) _).setCell (by show w.heap.size ≤ gx6; omega) _).setCell (by show w.heap.size ≤ gx6; omega) _).setCell (by show w.heap.size ≤ gx6; omega) _).setCell (by show w.heap.size ≤ gx6; omega) _).setCell (by show w.heap.size ≤ gx6; omega) _).setCell (by show w.heap.size ≤ gx6; omega) _).setCell (by show w.heap.size ≤ gx6; omega) _).setCell (by show w.heap.size ≤ gx6; omega) _⟩ ?_
      clear HB HG BX0 BX1 BX2 BX3 BX4 BX5 BX6
      rintro Wx7 ⟨bx0, bx2, bx4, bx5, bx6, HB⟩
      replace HB := Lib.hid HB
      -- region 8
      obtain ⟨u5, HZ5⟩ : ∃ z, Hid ((c1) - (a1) = z) := ⟨_, Lib.hid rfl⟩
      have su5 : sz u5 ≤ 20000001 := by rw [← HZ5.out]; have := sz_sub (c1) (a1); omega
      obtain ⟨u6, HZ6⟩ : ∃ z, Hid ((c2) - (a2) = z) := ⟨_, Lib.hid rfl⟩
      have su6 : sz u6 ≤ 20000001 := by rw [← HZ6.out]; have := sz_sub (c2) (a2); omega
      obtain ⟨u7, HZ7⟩ : ∃ z, Hid ((u5) * (u4) - (u6) * (u3) = z) := ⟨_, Lib.hid rfl⟩
      have su7 : sz u7 ≤ 80000005 := by rw [← HZ7.out]; have := sz_cross (u5) (u6) (u3) (u4); omega
      have HZ8 : Hid ((u1) * (u4) - (u2) * (u3) = ((b1 - a1) * (d2 - c2) - (b2 - a2) * (d1 - c1))) := Lib.hid (by rw [← HZ1.out, ← HZ2.out, ← HZ3.out, ← HZ4.out])
      obtain ⟨u9, HZ9⟩ : ∃ z, Hid ((u7) / (((b1 - a1) * (d2 - c2) - (b2 - a2) * (d1 - c1))) = z) := ⟨_, Lib.hid rfl⟩
      have su9 : sz u9 ≤ 180000005 := by rw [← HZ9.out]; have := sz_div (u7) (((b1 - a1) * (d2 - c2) - (b2 - a2) * (d1 - c1))); omega
      have lx0 := bx0.cells
      have lx2 := bx2.cells
      have lx5 := bx5.cells
      have lx6 := bx6.cells
      have BX0 := Lib.hid bx0
      have BX2 := Lib.hid bx2
      have BX4 := Lib.hid bx4
      have BX5 := Lib.hid bx5
      have BX6 := Lib.hid bx6
      clear bx0 bx2 bx4 bx5 bx6
      refine wp_seq_k fun K hK => ?_
      replace hK := Lib.hid hK
      refine wp_region_plan 13 [12] [11] (fun _ => 16) (fun _ => .cells #[.int .u64 0, .string ⟨#[]⟩, .bool false, .int .u64 0, .string ⟨#[]⟩] 36) [(true, 0), (true, 1), (true, 3), (true, 5), (true, 6), (true, 2), (true, 4), (true, 7), (true, 8), (true, 9), (true, 10), (true, 11)] (by kernel_rfl) (by kernel_rfl) (by intro i hi; simp only [List.mem_cons, List.not_mem_nil, or_false] at hi; rcases hi with rfl <;> exact ⟨_, rfl, rfl, rfl, by simp, fun ρ w => by kernel_rfl⟩) (by intro i hi; simp only [List.mem_cons, List.not_mem_nil, or_false] at hi; rcases hi with rfl <;> exact ⟨_, rfl, pure_extract⟩) (fun _ _ _ _ _ h => h) (fun T hT => ?_)
      iterate 5
        refine wpPlan_takeL (v := ?_) rfl (by rfl) (fun w' hw => ?_) ?_
        rotate_left
        · go_simp
          with_reducible rfl
        simp only [Act.put, qA, qB, qC]
      refine wpPlan_callL rfl (by rfl) Try.call8 (fun w' hw => psub_any (c1) (c2) (a1) (a2) (u5) (u6) _ HZ5.out HZ6.out (by omega) (by omega) (by omega) (by omega)) (by rfl) ?_
      simp only [Act.put, qA, qB, qC]
      refine wpPlan_callL rfl (by rfl) Try.call11 (fun w' hw => pcross_any (u5) (u6) (u3) (u4) (u7) _ HZ7.out (by omega) (by omega) (by omega) (by omega)) (by rfl) ?_
      simp only [Act.put, qA, qB, qC]
      refine wpPlan_callL rfl (by rfl) Try.call11 (fun w' hw => pcross_any (u1) (u2) (u3) (u4) (((b1 - a1) * (d2 - c2) - (b2 - a2) * (d1 - c1))) _ HZ8.out (by omega) (by omega) (by omega) (by omega)) (by rfl) ?_
      simp only [Act.put, qA, qB, qC]
      refine wpPlan_callL rfl (by rfl) Try.call43 (fun w' hw => fdiv_any (u7) (((b1 - a1) * (d2 - c2) - (b2 - a2) * (d1 - c1))) (u9) _ HZ9.out hk0.out (by omega) (by omega)) (by rfl) ?_
      simp only [Act.put, qA, qB, qC]
      iterate 3
        refine wpPlan_takeL (v := ?_) rfl (by rfl) (fun w' hw => ?_) ?_
        rotate_left
        · go_simp
          with_reducible rfl
        simp only [Act.put, qA, qB, qC]
      refine wpPlan_nil (hT.out _ _ ?_); clear hT T
      intro G vw6 hg hf
      simp only [puts, Act.put, qA, qB, qC, qD, qE, ↓reduceIte, Nat.reduceEqDiff]
      clear lx0 lx2 lx5 lx6
      have HG := Lib.hid (hg)
      clear hg
      have bx7 := Bx.of_fresh hf (i := 12) (by decide) rfl
      have yx7 := (hf.1 12 (by decide)).1
      clear hf
      generalize G 12 = gx7 at *
      have qx0_7 : w.heap.size < gx7 := Nat.lt_of_lt_of_le BX0.out.lt yx7
      have qx2_7 : w.heap.size + 1 + 1 < gx7 := Nat.lt_of_lt_of_le BX2.out.lt yx7
      have qx4_7 : w.heap.size + 1 + 1 + 1 + 1 < gx7 := Nat.lt_of_lt_of_le BX4.out.lt yx7
      have qx5_7 : gx5 < gx7 := Nat.lt_of_lt_of_le BX5.out.lt yx7
      have qx6_7 : gx6 < gx7 := Nat.lt_of_lt_of_le BX6.out.lt yx7
      replace yx7 : w.heap.size ≤ gx7 := Nat.le_trans HB.out.size yx7
      have bx0 := BX0.out.gr HG.out; clear BX0
      have bx2 := BX2.out.gr HG.out; clear BX2
      have bx4 := BX4.out.gr HG.out; clear BX4
      have bx5 := BX5.out.gr HG.out; clear BX5
      have bx6 := BX6.out.gr HG.out; clear BX6
      have lx7 := bx7.cells; have fx7 := bx7.free
      have r0 := Gr.refl vw6
      have BX0 := Lib.hid bx0; clear bx0
      have BX2 := Lib.hid bx2; clear bx2
      have BX4 := Lib.hid bx4; clear bx4
      have BX5 := Lib.hid bx5; clear bx5
      have BX6 := Lib.hid bx6; clear bx6
      have BX7 := Lib.hid bx7; clear bx7
      go_wp2
      refine hK.out _ _ ?_; clear hK K
      show Code.wp _ _ _ _ _
      clear lx7 fx7
      clear r0
      refine forgetW (fun w2 => Bx w2 (w.heap.size) 38 #[.int .u64 (lo a1.num.natAbs), .string (bg a1.num.natAbs), .bool (decide (a1.num < 0)), .int .u64 (lo (a1.den - 1)), .string (bg (a1.den - 1)), .int .u64 (lo a2.num.natAbs), .string (bg a2.num.natAbs), .bool (decide (a2.num < 0)), .int .u64 (lo (a2.den - 1)), .string (bg (a2.den - 1))] ∧ Bx w2 (w.heap.size + 1 + 1 + 1 + 1) 38 #[.int .u64 0, .string ⟨#[]⟩, .bool false, .int .u64 0, .string ⟨#[]⟩, .int .u64 0, .string ⟨#[]⟩, .bool false, .int .u64 0, .string ⟨#[]⟩] ∧ Bx w2 gx5 38 #[.int .u64 (lo u1.num.natAbs), .string (bg u1.num.natAbs), .bool (decide (u1.num < 0)), .int .u64 (lo (u1.den - 1)), .string (bg (u1.den - 1)), .int .u64 (lo u2.num.natAbs), .string (bg u2.num.natAbs), .bool (decide (u2.num < 0)), .int .u64 (lo (u2.den - 1)), .string (bg (u2.den - 1))] ∧ Bx w2 gx7 36 #[.int .u64 (lo u9.num.natAbs), .string (bg u9.num.natAbs), .bool (decide (u9.num < 0)), .int .u64 (lo (u9.den - 1)), .string (bg (u9.den - 1))] ∧ Below w.heap.size w w2) ⟨(((((BX0.out).setOther (by show w.heap.size ≠ gx7; omega) _).setOther (by show w.heap.size ≠ gx7; omega) _).setOther (by show w.heap.size ≠ gx7; omega) _).setOther (by show w.heap.size ≠ gx7; omega) _).setOther (by show w.heap.size ≠ gx7; omega) _, (((((BX4.out).setOther (by show w.heap.size + 1 + 1 + 1 + 1 ≠ gx7; omega) _).setOther (by show w.heap.size + 1 + 1 + 1 + 1 ≠ gx7; omega) _).setOther (by show w.heap.size + 1 + 1 + 1 + 1 ≠ gx7; omega) _).setOther (by show w.heap.size + 1 + 1 + 1 + 1 ≠ gx7; omega) _).setOther (by show w.heap.size + 1 + 1 + 1 + 1 ≠ gx7; omega) _, (((((BX5.out).setOther (by show gx5 ≠ gx7; omega) _).setOther (by show gx5 ≠ gx7; omega) _).setOther (by show gx5 ≠ gx7; omega) _).setOther (by show gx5 ≠ gx7; omega) _).setOther (by show gx5 ≠ gx7; omega) _, ((((((BX7.out).set 0 _).set 1 _).set 2 _).set 3 _).set 4 _).eq (by simp only [List.setIfInBounds_toArray, List.set_cons_zero, List.set_cons_succ]), (((((HB.out.trans (HG.out.mono HB.out.size)).setCell (by show w.heap.size ≤ gx7; omega) _).setCell (by show w.heap.size ≤ gx7; omega) _).setCell (by show w.heap.size ≤ gx7; omega) _).setCell (by show w.heap.size ≤ gx7; omega) _).setCell (by show w.heap.size ≤ gx7; omega) _⟩ ?_
      clear HB HG BX0 BX2 BX4 BX5 BX6 BX7
      rintro Wx8 ⟨bx0, bx4, bx5, bx7, HB⟩
      replace HB := Lib.hid HB
      -- region 9
      obtain ⟨u10, HZ10⟩ : ∃ z, Hid ((u1) * (u9) = z) := ⟨_, Lib.hid rfl⟩
      have su10 : sz u10 ≤ 200000006 := by rw [← HZ10.out]; have := sz_mul (u1) (u9); omega
      obtain ⟨u11, HZ11⟩ : ∃ z, Hid ((u2) * (u9) = z) := ⟨_, Lib.hid rfl⟩
      have su11 : sz u11 ≤ 200000006 := by rw [← HZ11.out]; have := sz_mul (u2) (u9); omega
      have HZ12 : Hid ((a1) + (u10) = m1) := Lib.hid (by rw [← HZ10.out, ← HZ9.out, ← HZ7.out, ← HZ6.out, ← HZ5.out, ← HZ4.out, ← HZ3.out, ← HZ1.out]; exact hm1.out)
      have HZ13 : Hid ((a2) + (u11) = m2) := Lib.hid (by rw [← HZ11.out, ← HZ9.out, ← HZ7.out, ← HZ6.out, ← HZ5.out, ← HZ4.out, ← HZ3.out, ← HZ2.out]; exact hm2.out)
      have lx0 := bx0.cells
      have lx5 := bx5.cells
      have lx7 := bx7.cells
      have BX0 := Lib.hid bx0
      have BX4 := Lib.hid bx4
      have BX5 := Lib.hid bx5
      have BX7 := Lib.hid bx7
      clear bx0 bx4 bx5 bx7
      refine wp_seq_k fun K hK => ?_
      replace hK := Lib.hid hK
      refine wp_region_plan 6 [] [] (fun _ => 0) (fun _ => .cells #[] 0) [(true, 0), (true, 1), (true, 2), (true, 3), (true, 4), (true, 5)] (by kernel_rfl) (by kernel_rfl) (fun i hi => by cases hi) (fun i hi => by cases hi) (fun _ _ _ _ _ h => h) (fun T hT => ?_)
      iterate 3
        refine wpPlan_takeL (v := ?_) rfl (by rfl) (fun w' hw => ?_) ?_
        rotate_left
        · go_simp
          with_reducible rfl
        simp only [Act.put, qA, qB, qC]
      refine wpPlan_callL rfl (by rfl) Try.call18 (fun w' hw => pscale_any (u1) (u2) (u9) (u10) (u11) _ HZ10.out HZ11.out (by omega) (by omega) (by omega)) (by rfl) ?_
      simp only [Act.put, qA, qB, qC]
      refine wpPlan_callL rfl (by rfl) Try.call14 (fun w' hw => padd_any (a1) (a2) (u10) (u11) (m1) (m2) _ HZ12.out HZ13.out (by omega) (by omega) (by omega) (by omega)) (by rfl) ?_
      simp only [Act.put, qA, qB, qC]
      iterate 1
        refine wpPlan_takeL (v := ?_) rfl (by rfl) (fun w' hw => ?_) ?_
        rotate_left
        · go_simp
          with_reducible rfl
        simp only [Act.put, qA, qB, qC]
      refine wpPlan_nil (hT.out _ _ ?_); clear hT T
      intro G vw7 hg hf
      simp only [puts, Act.put, qA, qB, qC, qD, qE, ↓reduceIte, Nat.reduceEqDiff]
      clear lx0 lx5 lx7
      have HG := Lib.hid (hg)
      clear hg
      have bx0 := BX0.out.gr HG.out; clear BX0
      have bx4 := BX4.out.gr HG.out; clear BX4
      have bx5 := BX5.out.gr HG.out; clear BX5
      have bx7 := BX7.out.gr HG.out; clear BX7
      have lx4 := bx4.cells; have fx4 := bx4.free
      have r0 := Gr.refl vw7
      have BX0 := Lib.hid bx0; clear bx0
      have BX4 := Lib.hid bx4; clear bx4
      have BX5 := Lib.hid bx5; clear bx5
      have BX7 := Lib.hid bx7; clear bx7
      go_wp2
      refine hK.out _ _ ?_; clear hK K
      show Code.wp _ _ _ _ _
      clear lx4 fx4
      clear r0
      refine forgetW (fun w2 => Bx w2 (w.heap.size + 1 + 1 + 1 + 1) 38 #[.int .u64 (lo m1.num.natAbs), .string (bg m1.num.natAbs), .bool (decide (m1.num < 0)), .int .u64 (lo (m1.den - 1)), .string (bg (m1.den - 1)), .int .u64 (lo m2.num.natAbs), .string (bg m2.num.natAbs), .bool (decide (m2.num < 0)), .int .u64 (lo (m2.den - 1)), .string (bg (m2.den - 1))] ∧ Below w.heap.size w w2) ⟨(((((((((((BX4.out).set 0 _).set 1 _).set 2 _).set 3 _).set 4 _).set 5 _).set 6 _).set 7 _).set 8 _).set 9 _).eq (by simp only [List.setIfInBounds_toArray, List.set_cons_zero, List.set_cons_succ]), ((((((((((HB.out.trans (HG.out.mono HB.out.size)).setCell (by show w.heap.size ≤ w.heap.size + 1 + 1 + 1 + 1; omega) _).setCell (by show w.heap.size ≤ w.heap.size + 1 + 1 + 1 + 1; omega) _).setCell (by show w.heap.size ≤ w.heap.size + 1 + 1 + 1 + 1; omega) _).setCell (by show w.heap.size ≤ w.heap.size + 1 + 1 + 1 + 1; omega) _).setCell (by show w.heap.size ≤ w.heap.size + 1 + 1 + 1 + 1; omega) _).setCell (by show w.heap.size ≤ w.heap.size + 1 + 1 + 1 + 1; omega) _).setCell (by show w.heap.size ≤ w.heap.size + 1 + 1 + 1 + 1; omega) _).setCell (by show w.heap.size ≤ w.heap.size + 1 + 1 + 1 + 1; omega) _).setCell (by show w.heap.size ≤ w.heap.size + 1 + 1 + 1 + 1; omega) _).setCell (by show w.heap.size ≤ w.heap.size + 1 + 1 + 1 + 1; omega) _⟩ ?_
      clear HB HG BX0 BX4 BX5 BX7
      rintro Wx9 ⟨bx4, HB⟩
      replace HB := Lib.hid HB
      refine wp_ret ?_
      try simp only [Exit.then, Exit.inBlock]
      have lx4 := bx4.cells
      have r0 := Gr.refl Wx9
      exact bodyPost_ret (v := .tuple #[.int .i64 1, (.agg #[.int .u64 (lo m1.num.natAbs), .string (bg m1.num.natAbs), .bool (decide (m1.num < 0)), .int .u64 (lo (m1.den - 1)), .string (bg (m1.den - 1)), .int .u64 (lo m2.num.natAbs), .string (bg m2.num.natAbs), .bool (decide (m2.num < 0)), .int .u64 (lo (m2.den - 1)), .string (bg (m2.den - 1))])]) (by simp [results, Try.results21, go_sem, lx4 _ r0]) rfl ⟨rfl, HB.out⟩
  · -- region 3
    have BX0 := Lib.hid bx0
    have BX1 := Lib.hid bx1
    have BX2 := Lib.hid bx2
    have BX3 := Lib.hid bx3
    have BX4 := Lib.hid bx4
    clear bx0 bx1 bx2 bx3 bx4
    refine wp_seq_k fun K hK => ?_
    replace hK := Lib.hid hK
    refine wp_region_seqplan 15 [(true, 0), (true, 1), (true, 2), (true, 3), (true, 4), (true, 5), (true, 6), (true, 7), (true, 8), (true, 9), (true, 10), (true, 11), (true, 12), (true, 13), (true, 14)] (by rfl) (by simp) (fun T hT => ?_)
    iterate 11
      refine wpPlan_takeL (v := ?_) rfl (by rfl) (fun w' hw => ?_) ?_
      rotate_left
      · go_simp
        with_reducible rfl
      simp only [Act.put, qA, qB, qC]
    refine wpPlan_skipL rfl (by rfl) ?_
    simp only [Act.put, qA, qB, qC]
    refine wpPlan_skipL rfl (by rfl) ?_
    simp only [Act.put, qA, qB, qC]
    iterate 2
      refine wpPlan_takeL (v := ?_) rfl (by rfl) (fun w' hw => ?_) ?_
      rotate_left
      · go_simp
        with_reducible rfl
      simp only [Act.put, qA, qB, qC]
    refine wpPlan_nil (hT.out _ _ ?_); clear hT T
    intro vw3 hg
    simp only [puts, Act.put, qA, qB, qC, qD, qE, ↓reduceIte, Nat.reduceEqDiff]
    have HG := Lib.hid (hg)
    clear hg
    have bx0 := BX0.out.gr HG.out; clear BX0
    have bx1 := BX1.out.gr HG.out; clear BX1
    have bx2 := BX2.out.gr HG.out; clear BX2
    have bx3 := BX3.out.gr HG.out; clear BX3
    have bx4 := BX4.out.gr HG.out; clear BX4
    have r0 := Gr.refl vw3
    have BX0 := Lib.hid bx0; clear bx0
    have BX1 := Lib.hid bx1; clear bx1
    have BX2 := Lib.hid bx2; clear bx2
    have BX3 := Lib.hid bx3; clear bx3
    have BX4 := Lib.hid bx4; clear bx4
    go_wp2
    refine hK.out _ _ ?_; clear hK K
    show Code.wp _ _ _ _ _
    clear r0
    refine forgetW (fun w2 => Bx w2 (w.heap.size) 38 #[.int .u64 (lo a1.num.natAbs), .string (bg a1.num.natAbs), .bool (decide (a1.num < 0)), .int .u64 (lo (a1.den - 1)), .string (bg (a1.den - 1)), .int .u64 (lo a2.num.natAbs), .string (bg a2.num.natAbs), .bool (decide (a2.num < 0)), .int .u64 (lo (a2.den - 1)), .string (bg (a2.den - 1))] ∧ Bx w2 (w.heap.size + 1) 38 #[.int .u64 (lo b1.num.natAbs), .string (bg b1.num.natAbs), .bool (decide (b1.num < 0)), .int .u64 (lo (b1.den - 1)), .string (bg (b1.den - 1)), .int .u64 (lo b2.num.natAbs), .string (bg b2.num.natAbs), .bool (decide (b2.num < 0)), .int .u64 (lo (b2.den - 1)), .string (bg (b2.den - 1))] ∧ Bx w2 (w.heap.size + 1 + 1) 38 #[.int .u64 (lo c1.num.natAbs), .string (bg c1.num.natAbs), .bool (decide (c1.num < 0)), .int .u64 (lo (c1.den - 1)), .string (bg (c1.den - 1)), .int .u64 (lo c2.num.natAbs), .string (bg c2.num.natAbs), .bool (decide (c2.num < 0)), .int .u64 (lo (c2.den - 1)), .string (bg (c2.den - 1))] ∧ Bx w2 (w.heap.size + 1 + 1 + 1) 38 #[.int .u64 (lo d1.num.natAbs), .string (bg d1.num.natAbs), .bool (decide (d1.num < 0)), .int .u64 (lo (d1.den - 1)), .string (bg (d1.den - 1)), .int .u64 (lo d2.num.natAbs), .string (bg d2.num.natAbs), .bool (decide (d2.num < 0)), .int .u64 (lo (d2.den - 1)), .string (bg (d2.den - 1))] ∧ Bx w2 (w.heap.size + 1 + 1 + 1 + 1) 38 #[.int .u64 0, .string ⟨#[]⟩, .bool false, .int .u64 0, .string ⟨#[]⟩, .int .u64 0, .string ⟨#[]⟩, .bool false, .int .u64 0, .string ⟨#[]⟩] ∧ Below w.heap.size w w2) ⟨BX0.out, BX1.out, BX2.out, BX3.out, BX4.out, HB.out.trans (HG.out.mono HB.out.size)⟩ ?_
    clear HB HG BX0 BX1 BX2 BX3 BX4
    rintro Wx3 ⟨bx0, bx1, bx2, bx3, bx4, HB⟩
    replace HB := Lib.hid HB
    refine wp_cond_false (by rfl) ?_
    have way2 := way.out; clear way; rcases way2 with ⟨g1, rfl, rfl, rfl⟩ | ⟨g1, g2, rfl, rfl, rfl⟩ | ⟨g1, g2, rfl, hk0, hs_k, hm1, hm2⟩
    · -- region 5
      have BX0 := Lib.hid bx0
      have BX1 := Lib.hid bx1
      have BX2 := Lib.hid bx2
      have BX3 := Lib.hid bx3
      have BX4 := Lib.hid bx4
      clear bx0 bx1 bx2 bx3 bx4
      refine wp_seq_k fun K hK => ?_
      replace hK := Lib.hid hK
      refine wp_region_seqplan 11 [(true, 0), (true, 1), (true, 2), (true, 3), (true, 4), (true, 5), (true, 6), (true, 7), (true, 8), (true, 9), (true, 10)] (by rfl) (by simp) (fun T hT => ?_)
      iterate 5
        refine wpPlan_takeL (v := ?_) rfl (by rfl) (fun w' hw => ?_) ?_
        rotate_left
        · go_simp
          with_reducible rfl
        simp only [Act.put, qA, qB, qC]
      refine wpPlan_skipL rfl (by rfl) ?_
      simp only [Act.put, qA, qB, qC]
      refine wpPlan_skipL rfl (by rfl) ?_
      simp only [Act.put, qA, qB, qC]
      refine wpPlan_skipL rfl (by rfl) ?_
      simp only [Act.put, qA, qB, qC]
      refine wpPlan_skipL rfl (by rfl) ?_
      simp only [Act.put, qA, qB, qC]
      iterate 2
        refine wpPlan_takeL (v := ?_) rfl (by rfl) (fun w' hw => ?_) ?_
        rotate_left
        · go_simp
          with_reducible rfl
        simp only [Act.put, qA, qB, qC]
      refine wpPlan_nil (hT.out _ _ ?_); clear hT T
      intro vw4 hg
      simp only [puts, Act.put, qA, qB, qC, qD, qE, ↓reduceIte, Nat.reduceEqDiff]
      have HG := Lib.hid (hg)
      clear hg
      have bx0 := BX0.out.gr HG.out; clear BX0
      have bx1 := BX1.out.gr HG.out; clear BX1
      have bx2 := BX2.out.gr HG.out; clear BX2
      have bx3 := BX3.out.gr HG.out; clear BX3
      have bx4 := BX4.out.gr HG.out; clear BX4
      have r0 := Gr.refl vw4
      have BX0 := Lib.hid bx0; clear bx0
      have BX1 := Lib.hid bx1; clear bx1
      have BX2 := Lib.hid bx2; clear bx2
      have BX3 := Lib.hid bx3; clear bx3
      have BX4 := Lib.hid bx4; clear bx4
      go_wp2
      refine hK.out _ _ ?_; clear hK K
      show Code.wp _ _ _ _ _
      clear r0
      refine forgetW (fun w2 => Bx w2 (w.heap.size) 38 #[.int .u64 (lo a1.num.natAbs), .string (bg a1.num.natAbs), .bool (decide (a1.num < 0)), .int .u64 (lo (a1.den - 1)), .string (bg (a1.den - 1)), .int .u64 (lo a2.num.natAbs), .string (bg a2.num.natAbs), .bool (decide (a2.num < 0)), .int .u64 (lo (a2.den - 1)), .string (bg (a2.den - 1))] ∧ Bx w2 (w.heap.size + 1) 38 #[.int .u64 (lo b1.num.natAbs), .string (bg b1.num.natAbs), .bool (decide (b1.num < 0)), .int .u64 (lo (b1.den - 1)), .string (bg (b1.den - 1)), .int .u64 (lo b2.num.natAbs), .string (bg b2.num.natAbs), .bool (decide (b2.num < 0)), .int .u64 (lo (b2.den - 1)), .string (bg (b2.den - 1))] ∧ Bx w2 (w.heap.size + 1 + 1) 38 #[.int .u64 (lo c1.num.natAbs), .string (bg c1.num.natAbs), .bool (decide (c1.num < 0)), .int .u64 (lo (c1.den - 1)), .string (bg (c1.den - 1)), .int .u64 (lo c2.num.natAbs), .string (bg c2.num.natAbs), .bool (decide (c2.num < 0)), .int .u64 (lo (c2.den - 1)), .string (bg (c2.den - 1))] ∧ Bx w2 (w.heap.size + 1 + 1 + 1) 38 #[.int .u64 (lo d1.num.natAbs), .string (bg d1.num.natAbs), .bool (decide (d1.num < 0)), .int .u64 (lo (d1.den - 1)), .string (bg (d1.den - 1)), .int .u64 (lo d2.num.natAbs), .string (bg d2.num.natAbs), .bool (decide (d2.num < 0)), .int .u64 (lo (d2.den - 1)), .string (bg (d2.den - 1))] ∧ Bx w2 (w.heap.size + 1 + 1 + 1 + 1) 38 #[.int .u64 0, .string ⟨#[]⟩, .bool false, .int .u64 0, .string ⟨#[]⟩, .int .u64 0, .string ⟨#[]⟩, .bool false, .int .u64 0, .string ⟨#[]⟩] ∧ Below w.heap.size w w2) ⟨BX0.out, BX1.out, BX2.out, BX3.out, BX4.out, HB.out.trans (HG.out.mono HB.out.size)⟩ ?_
      clear HB HG BX0 BX1 BX2 BX3 BX4
      rintro Wx5 ⟨bx0, bx1, bx2, bx3, bx4, HB⟩
      replace HB := Lib.hid HB
      refine wp_cond_true (by rfl) ?_
      -- region 6
      have BX0 := Lib.hid bx0
      have BX1 := Lib.hid bx1
      have BX2 := Lib.hid bx2
      have BX3 := Lib.hid bx3
      have BX4 := Lib.hid bx4
      clear bx0 bx1 bx2 bx3 bx4
      refine wp_seq_k fun K hK => ?_
      replace hK := Lib.hid hK
      refine wp_region_seqplan 2 [(true, 0), (true, 1)] (by rfl) (by simp) (fun T hT => ?_)
      iterate 2
        refine wpPlan_takeL (v := ?_) rfl (by rfl) (fun w' hw => ?_) ?_
        rotate_left
        · go_simp
          with_reducible rfl
        simp only [Act.put, qA, qB, qC]
      refine wpPlan_nil (hT.out _ _ ?_); clear hT T
      intro vw5 hg
      simp only [puts, Act.put, qA, qB, qC, qD, qE, ↓reduceIte, Nat.reduceEqDiff]
      have HG := Lib.hid (hg)
      clear hg
      have bx0 := BX0.out.gr HG.out; clear BX0
      have bx1 := BX1.out.gr HG.out; clear BX1
      have bx2 := BX2.out.gr HG.out; clear BX2
      have bx3 := BX3.out.gr HG.out; clear BX3
      have bx4 := BX4.out.gr HG.out; clear BX4
      have lx4 := bx4.cells; have fx4 := bx4.free
      have r0 := Gr.refl vw5
      have BX0 := Lib.hid bx0; clear bx0
      have BX1 := Lib.hid bx1; clear bx1
      have BX2 := Lib.hid bx2; clear bx2
      have BX3 := Lib.hid bx3; clear bx3
      have BX4 := Lib.hid bx4; clear bx4
      go_wp2
      refine hK.out _ _ ?_; clear hK K
      show Code.wp _ _ _ _ _
      clear lx4 fx4
      clear r0
      refine forgetW (fun w2 => Bx w2 (w.heap.size) 38 #[.int .u64 (lo a1.num.natAbs), .string (bg a1.num.natAbs), .bool (decide (a1.num < 0)), .int .u64 (lo (a1.den - 1)), .string (bg (a1.den - 1)), .int .u64 (lo a2.num.natAbs), .string (bg a2.num.natAbs), .bool (decide (a2.num < 0)), .int .u64 (lo (a2.den - 1)), .string (bg (a2.den - 1))] ∧ Bx w2 (w.heap.size + 1) 38 #[.int .u64 (lo b1.num.natAbs), .string (bg b1.num.natAbs), .bool (decide (b1.num < 0)), .int .u64 (lo (b1.den - 1)), .string (bg (b1.den - 1)), .int .u64 (lo b2.num.natAbs), .string (bg b2.num.natAbs), .bool (decide (b2.num < 0)), .int .u64 (lo (b2.den - 1)), .string (bg (b2.den - 1))] ∧ Bx w2 (w.heap.size + 1 + 1) 38 #[.int .u64 (lo c1.num.natAbs), .string (bg c1.num.natAbs), .bool (decide (c1.num < 0)), .int .u64 (lo (c1.den - 1)), .string (bg (c1.den - 1)), .int .u64 (lo c2.num.natAbs), .string (bg c2.num.natAbs), .bool (decide (c2.num < 0)), .int .u64 (lo (c2.den - 1)), .string (bg (c2.den - 1))] ∧ Bx w2 (w.heap.size + 1 + 1 + 1) 38 #[.int .u64 (lo d1.num.natAbs), .string (bg d1.num.natAbs), .bool (decide (d1.num < 0)), .int .u64 (lo (d1.den - 1)), .string (bg (d1.den - 1)), .int .u64 (lo d2.num.natAbs), .string (bg d2.num.natAbs), .bool (decide (d2.num < 0)), .int .u64 (lo (d2.den - 1)), .string (bg (d2.den - 1))] ∧ Bx w2 (w.heap.size + 1 + 1 + 1 + 1) 38 #[.int .u64 0, .string ⟨#[]⟩, .bool false, .int .u64 0, .string ⟨#[]⟩, .int .u64 0, .string ⟨#[]⟩, .bool false, .int .u64 0, .string ⟨#[]⟩] ∧ Below w.heap.size w w2) ⟨((((((((((BX0.out).setOther (by show w.heap.size ≠ w.heap.size + 1 + 1 + 1 + 1; omega) _).setOther (by show w.heap.size ≠ w.heap.size + 1 + 1 + 1 + 1; omega) _).setOther (by show w.heap.size ≠ w.heap.size + 1 + 1 + 1 + 1; omega) _).setOther (by show w.heap.size ≠ w.heap.size + 1 + 1 + 1 + 1; omega) _).setOther (by show w.heap.size ≠ w.heap.size + 1 + 1 + 1 + 1; omega) _).setOther (by show w.heap.size ≠ w.heap.size + 1 + 1 + 1 + 1; omega) _).setOther (by show w.heap.size ≠ w.heap.size + 1 + 1 + 1 + 1; omega) _).setOther (by show w.heap.size ≠ w.heap.size + 1 + 1 + 1 + 1; omega) _).setOther (by show w.heap.size ≠ w.heap.size + 1 + 1 + 1 + 1; omega) _).setOther (by show w.heap.size ≠ w.heap.size + 1 + 1 + 1 + 1; omega) _, ((((((((((BX1.out).setOther (by show w.heap.size + 1 ≠ w.heap.size + 1 + 1 + 1 + 1; omega) _).setOther (by show w.heap.size + 1 ≠ w.heap.size + 1 + 1 + 1 + 1; omega) _).setOther (by show w.heap.size + 1 ≠ w.heap.size + 1 + 1 + 1 + 1; omega) _).setOther (by show w.heap.size + 1 ≠ w.heap.size + 1 + 1 + 1 + 1; omega) _).setOther (by show w.heap.size + 1 ≠ w.heap.size + 1 + 1 + 1 + 1; omega) _).setOther (by show w.heap.size + 1 ≠ w.heap.size + 1 + 1 + 1 + 1; omega) _).setOther (by show w.heap.size + 1 ≠ w.heap.size + 1 + 1 + 1 + 1; omega) _).setOther (by show w.heap.size + 1 ≠ w.heap.size + 1 + 1 + 1 + 1; omega) _).setOther (by show w.heap.size + 1 ≠ w.heap.size + 1 + 1 + 1 + 1; omega) _).setOther (by show w.heap.size + 1 ≠ w.heap.size + 1 + 1 + 1 + 1; omega) _, ((((((((((BX2.out).setOther (by show w.heap.size + 1 + 1 ≠ w.heap.size + 1 + 1 + 1 + 1; omega) _).setOther (by show w.heap.size + 1 + 1 ≠ w.heap.size + 1 + 1 + 1 + 1; omega) _).setOther (by show w.heap.size + 1 + 1 ≠ w.heap.size + 1 + 1 + 1 + 1; omega) _).setOther (by show w.heap.size + 1 + 1 ≠ w.heap.size + 1 + 1 + 1 + 1; omega) _).setOther (by show w.heap.size + 1 + 1 ≠ w.heap.size + 1 + 1 + 1 + 1; omega) _).setOther (by show w.heap.size + 1 + 1 ≠ w.heap.size + 1 + 1 + 1 + 1; omega) _).setOther (by show w.heap.size + 1 + 1 ≠ w.heap.size + 1 + 1 + 1 + 1; omega) _).setOther (by show w.heap.size + 1 + 1 ≠ w.heap.size + 1 + 1 + 1 + 1; omega) _).setOther (by show w.heap.size + 1 + 1 ≠ w.heap.size + 1 + 1 + 1 + 1; omega) _).setOther (by show w.heap.size + 1 + 1 ≠ w.heap.size + 1 + 1 + 1 + 1; omega) _, ((((((((((BX3.out).setOther (by show w.heap.size + 1 + 1 + 1 ≠ w.heap.size + 1 + 1 + 1 + 1; omega) _).setOther (by show w.heap.size + 1 + 1 + 1 ≠ w.heap.size + 1 + 1 + 1 + 1; omega) _).setOther (by show w.heap.size + 1 + 1 + 1 ≠ w.heap.size + 1 + 1 + 1 + 1; omega) _).setOther (by show w.heap.size + 1 + 1 + 1 ≠ w.heap.size + 1 + 1 + 1 + 1; omega) _).setOther (by show w.heap.size + 1 + 1 + 1 ≠ w.heap.size + 1 + 1 + 1 + 1; omega) _).setOther (by show w.heap.size + 1 + 1 + 1 ≠ w.heap.size + 1 + 1 + 1 + 1; omega) _).setOther (by show w.heap.size + 1 + 1 + 1 ≠ w.heap.size + 1 + 1 + 1 + 1; omega) _).setOther (by show w.heap.size + 1 + 1 + 1 ≠ w.heap.size + 1 + 1 + 1 + 1; omega) _).setOther (by show w.heap.size + 1 + 1 + 1 ≠ w.heap.size + 1 + 1 + 1 + 1; omega) _).setOther (by show w.heap.size + 1 + 1 + 1 ≠ w.heap.size + 1 + 1 + 1 + 1; omega) _, (((((((((((BX4.out).set 0 _).set 1 _).set 2 _).set 3 _).set 4 _).set 5 _).set 6 _).set 7 _).set 8 _).set 9 _).eq (by simp only [List.setIfInBounds_toArray, List.set_cons_zero, List.set_cons_succ]), ((((((((((HB.out.trans (HG.out.mono HB.out.size)).setCell (by show w.heap.size ≤ w.heap.size + 1 + 1 + 1 + 1; omega) _).setCell (by show w.heap.size ≤ w.heap.size + 1 + 1 + 1 + 1; omega) _).setCell (by show w.heap.size ≤ w.heap.size + 1 + 1 + 1 + 1; omega) _).setCell (by show w.heap.size ≤ w.heap.size + 1 + 1 + 1 + 1; omega) _).setCell (by show w.heap.size ≤ w.heap.size + 1 + 1 + 1 + 1; omega) _).setCell (by show w.heap.size ≤ w.heap.size + 1 + 1 + 1 + 1; omega) _).setCell (by show w.heap.size ≤ w.heap.size + 1 + 1 + 1 + 1; omega) _).setCell (by show w.heap.size ≤ w.heap.size + 1 + 1 + 1 + 1; omega) _).setCell (by show w.heap.size ≤ w.heap.size + 1 + 1 + 1 + 1; omega) _).setCell (by show w.heap.size ≤ w.heap.size + 1 + 1 + 1 + 1; omega) _⟩ ?_
      clear HB HG BX0 BX1 BX2 BX3 BX4
      rintro Wx6 ⟨bx0, bx1, bx2, bx3, bx4, HB⟩
      replace HB := Lib.hid HB
      refine wp_ret ?_
      try simp only [Exit.then, Exit.inBlock]
      have lx4 := bx4.cells
      have r0 := Gr.refl Wx6
      exact bodyPost_ret (v := .tuple #[.int .i64 0, (.agg #[.int .u64 0, .string ⟨#[]⟩, .bool false, .int .u64 0, .string ⟨#[]⟩, .int .u64 0, .string ⟨#[]⟩, .bool false, .int .u64 0, .string ⟨#[]⟩])]) (by simp [results, Try.results21, go_sem, lx4 _ r0]) rfl ⟨rfl, HB.out⟩
    · -- region 5
      have BX0 := Lib.hid bx0
      have BX1 := Lib.hid bx1
      have BX2 := Lib.hid bx2
      have BX3 := Lib.hid bx3
      have BX4 := Lib.hid bx4
      clear bx0 bx1 bx2 bx3 bx4
      refine wp_seq_k fun K hK => ?_
      replace hK := Lib.hid hK
      refine wp_region_seqplan 11 [(true, 0), (true, 1), (true, 2), (true, 3), (true, 4), (true, 5), (true, 6), (true, 7), (true, 8), (true, 9), (true, 10)] (by rfl) (by simp) (fun T hT => ?_)
      iterate 11
        refine wpPlan_takeL (v := ?_) rfl (by rfl) (fun w' hw => ?_) ?_
        rotate_left
        · go_simp
          with_reducible rfl
        simp only [Act.put, qA, qB, qC]
      refine wpPlan_nil (hT.out _ _ ?_); clear hT T
      intro vw4 hg
      simp only [puts, Act.put, qA, qB, qC, qD, qE, ↓reduceIte, Nat.reduceEqDiff]
      have HG := Lib.hid (hg)
      clear hg
      have bx0 := BX0.out.gr HG.out; clear BX0
      have bx1 := BX1.out.gr HG.out; clear BX1
      have bx2 := BX2.out.gr HG.out; clear BX2
      have bx3 := BX3.out.gr HG.out; clear BX3
      have bx4 := BX4.out.gr HG.out; clear BX4
      have r0 := Gr.refl vw4
      have BX0 := Lib.hid bx0; clear bx0
      have BX1 := Lib.hid bx1; clear bx1
      have BX2 := Lib.hid bx2; clear bx2
      have BX3 := Lib.hid bx3; clear bx3
      have BX4 := Lib.hid bx4; clear bx4
      go_wp2
      refine hK.out _ _ ?_; clear hK K
      show Code.wp _ _ _ _ _
      clear r0
      refine forgetW (fun w2 => Bx w2 (w.heap.size) 38 #[.int .u64 (lo a1.num.natAbs), .string (bg a1.num.natAbs), .bool (decide (a1.num < 0)), .int .u64 (lo (a1.den - 1)), .string (bg (a1.den - 1)), .int .u64 (lo a2.num.natAbs), .string (bg a2.num.natAbs), .bool (decide (a2.num < 0)), .int .u64 (lo (a2.den - 1)), .string (bg (a2.den - 1))] ∧ Bx w2 (w.heap.size + 1) 38 #[.int .u64 (lo b1.num.natAbs), .string (bg b1.num.natAbs), .bool (decide (b1.num < 0)), .int .u64 (lo (b1.den - 1)), .string (bg (b1.den - 1)), .int .u64 (lo b2.num.natAbs), .string (bg b2.num.natAbs), .bool (decide (b2.num < 0)), .int .u64 (lo (b2.den - 1)), .string (bg (b2.den - 1))] ∧ Bx w2 (w.heap.size + 1 + 1) 38 #[.int .u64 (lo c1.num.natAbs), .string (bg c1.num.natAbs), .bool (decide (c1.num < 0)), .int .u64 (lo (c1.den - 1)), .string (bg (c1.den - 1)), .int .u64 (lo c2.num.natAbs), .string (bg c2.num.natAbs), .bool (decide (c2.num < 0)), .int .u64 (lo (c2.den - 1)), .string (bg (c2.den - 1))] ∧ Bx w2 (w.heap.size + 1 + 1 + 1) 38 #[.int .u64 (lo d1.num.natAbs), .string (bg d1.num.natAbs), .bool (decide (d1.num < 0)), .int .u64 (lo (d1.den - 1)), .string (bg (d1.den - 1)), .int .u64 (lo d2.num.natAbs), .string (bg d2.num.natAbs), .bool (decide (d2.num < 0)), .int .u64 (lo (d2.den - 1)), .string (bg (d2.den - 1))] ∧ Bx w2 (w.heap.size + 1 + 1 + 1 + 1) 38 #[.int .u64 0, .string ⟨#[]⟩, .bool false, .int .u64 0, .string ⟨#[]⟩, .int .u64 0, .string ⟨#[]⟩, .bool false, .int .u64 0, .string ⟨#[]⟩] ∧ Below w.heap.size w w2) ⟨BX0.out, BX1.out, BX2.out, BX3.out, BX4.out, HB.out.trans (HG.out.mono HB.out.size)⟩ ?_
      clear HB HG BX0 BX1 BX2 BX3 BX4
      rintro Wx5 ⟨bx0, bx1, bx2, bx3, bx4, HB⟩
      replace HB := Lib.hid HB
      refine wp_cond_true (by rfl) ?_
      -- region 6
      have BX0 := Lib.hid bx0
      have BX1 := Lib.hid bx1
      have BX2 := Lib.hid bx2
      have BX3 := Lib.hid bx3
      have BX4 := Lib.hid bx4
      clear bx0 bx1 bx2 bx3 bx4
      refine wp_seq_k fun K hK => ?_
      replace hK := Lib.hid hK
      refine wp_region_seqplan 2 [(true, 0), (true, 1)] (by rfl) (by simp) (fun T hT => ?_)
      iterate 2
        refine wpPlan_takeL (v := ?_) rfl (by rfl) (fun w' hw => ?_) ?_
        rotate_left
        · go_simp
          with_reducible rfl
        simp only [Act.put, qA, qB, qC]
      refine wpPlan_nil (hT.out _ _ ?_); clear hT T
      intro vw5 hg
      simp only [puts, Act.put, qA, qB, qC, qD, qE, ↓reduceIte, Nat.reduceEqDiff]
      have HG := Lib.hid (hg)
      clear hg
      have bx0 := BX0.out.gr HG.out; clear BX0
      have bx1 := BX1.out.gr HG.out; clear BX1
      have bx2 := BX2.out.gr HG.out; clear BX2
      have bx3 := BX3.out.gr HG.out; clear BX3
      have bx4 := BX4.out.gr HG.out; clear BX4
      have lx4 := bx4.cells; have fx4 := bx4.free
      have r0 := Gr.refl vw5
      have BX0 := Lib.hid bx0; clear bx0
      have BX1 := Lib.hid bx1; clear bx1
      have BX2 := Lib.hid bx2; clear bx2
      have BX3 := Lib.hid bx3; clear bx3
      have BX4 := Lib.hid bx4; clear bx4
      go_wp2
      refine hK.out _ _ ?_; clear hK K
      show Code.wp _ _ _ _ _
      clear lx4 fx4
      clear r0
      refine forgetW (fun w2 => Bx w2 (w.heap.size) 38 #[.int .u64 (lo a1.num.natAbs), .string (bg a1.num.natAbs), .bool (decide (a1.num < 0)), .int .u64 (lo (a1.den - 1)), .string (bg (a1.den - 1)), .int .u64 (lo a2.num.natAbs), .string (bg a2.num.natAbs), .bool (decide (a2.num < 0)), .int .u64 (lo (a2.den - 1)), .string (bg (a2.den - 1))] ∧ Bx w2 (w.heap.size + 1) 38 #[.int .u64 (lo b1.num.natAbs), .string (bg b1.num.natAbs), .bool (decide (b1.num < 0)), .int .u64 (lo (b1.den - 1)), .string (bg (b1.den - 1)), .int .u64 (lo b2.num.natAbs), .string (bg b2.num.natAbs), .bool (decide (b2.num < 0)), .int .u64 (lo (b2.den - 1)), .string (bg (b2.den - 1))] ∧ Bx w2 (w.heap.size + 1 + 1) 38 #[.int .u64 (lo c1.num.natAbs), .string (bg c1.num.natAbs), .bool (decide (c1.num < 0)), .int .u64 (lo (c1.den - 1)), .string (bg (c1.den - 1)), .int .u64 (lo c2.num.natAbs), .string (bg c2.num.natAbs), .bool (decide (c2.num < 0)), .int .u64 (lo (c2.den - 1)), .string (bg (c2.den - 1))] ∧ Bx w2 (w.heap.size + 1 + 1 + 1) 38 #[.int .u64 (lo d1.num.natAbs), .string (bg d1.num.natAbs), .bool (decide (d1.num < 0)), .int .u64 (lo (d1.den - 1)), .string (bg (d1.den - 1)), .int .u64 (lo d2.num.natAbs), .string (bg d2.num.natAbs), .bool (decide (d2.num < 0)), .int .u64 (lo (d2.den - 1)), .string (bg (d2.den - 1))] ∧ Bx w2 (w.heap.size + 1 + 1 + 1 + 1) 38 #[.int .u64 0, .string ⟨#[]⟩, .bool false, .int .u64 0, .string ⟨#[]⟩, .int .u64 0, .string ⟨#[]⟩, .bool false, .int .u64 0, .string ⟨#[]⟩] ∧ Below w.heap.size w w2) ⟨((((((((((BX0.out).setOther (by show w.heap.size ≠ w.heap.size + 1 + 1 + 1 + 1; omega) _).setOther (by show w.heap.size ≠ w.heap.size + 1 + 1 + 1 + 1; omega) _).setOther (by show w.heap.size ≠ w.heap.size + 1 + 1 + 1 + 1; omega) _).setOther (by show w.heap.size ≠ w.heap.size + 1 + 1 + 1 + 1; omega) _).setOther (by show w.heap.size ≠ w.heap.size + 1 + 1 + 1 + 1; omega) _).setOther (by show w.heap.size ≠ w.heap.size + 1 + 1 + 1 + 1; omega) _).setOther (by show w.heap.size ≠ w.heap.size + 1 + 1 + 1 + 1; omega) _).setOther (by show w.heap.size ≠ w.heap.size + 1 + 1 + 1 + 1; omega) _).setOther (by show w.heap.size ≠ w.heap.size + 1 + 1 + 1 + 1; omega) _).setOther (by show w.heap.size ≠ w.heap.size + 1 + 1 + 1 + 1; omega) _, ((((((((((BX1.out).setOther (by show w.heap.size + 1 ≠ w.heap.size + 1 + 1 + 1 + 1; omega) _).setOther (by show w.heap.size + 1 ≠ w.heap.size + 1 + 1 + 1 + 1; omega) _).setOther (by show w.heap.size + 1 ≠ w.heap.size + 1 + 1 + 1 + 1; omega) _).setOther (by show w.heap.size + 1 ≠ w.heap.size + 1 + 1 + 1 + 1; omega) _).setOther (by show w.heap.size + 1 ≠ w.heap.size + 1 + 1 + 1 + 1; omega) _).setOther (by show w.heap.size + 1 ≠ w.heap.size + 1 + 1 + 1 + 1; omega) _).setOther (by show w.heap.size + 1 ≠ w.heap.size + 1 + 1 + 1 + 1; omega) _).setOther (by show w.heap.size + 1 ≠ w.heap.size + 1 + 1 + 1 + 1; omega) _).setOther (by show w.heap.size + 1 ≠ w.heap.size + 1 + 1 + 1 + 1; omega) _).setOther (by show w.heap.size + 1 ≠ w.heap.size + 1 + 1 + 1 + 1; omega) _, ((((((((((BX2.out).setOther (by show w.heap.size + 1 + 1 ≠ w.heap.size + 1 + 1 + 1 + 1; omega) _).setOther (by show w.heap.size + 1 + 1 ≠ w.heap.size + 1 + 1 + 1 + 1; omega) _).setOther (by show w.heap.size + 1 + 1 ≠ w.heap.size + 1 + 1 + 1 + 1; omega) _).setOther (by show w.heap.size + 1 + 1 ≠ w.heap.size + 1 + 1 + 1 + 1; omega) _).setOther (by show w.heap.size + 1 + 1 ≠ w.heap.size + 1 + 1 + 1 + 1; omega) _).setOther (by show w.heap.size + 1 + 1 ≠ w.heap.size + 1 + 1 + 1 + 1; omega) _).setOther (by show w.heap.size + 1 + 1 ≠ w.heap.size + 1 + 1 + 1 + 1; omega) _).setOther (by show w.heap.size + 1 + 1 ≠ w.heap.size + 1 + 1 + 1 + 1; omega) _).setOther (by show w.heap.size + 1 + 1 ≠ w.heap.size + 1 + 1 + 1 + 1; omega) _).setOther (by show w.heap.size + 1 + 1 ≠ w.heap.size + 1 + 1 + 1 + 1; omega) _, ((((((((((BX3.out).setOther (by show w.heap.size + 1 + 1 + 1 ≠ w.heap.size + 1 + 1 + 1 + 1; omega) _).setOther (by show w.heap.size + 1 + 1 + 1 ≠ w.heap.size + 1 + 1 + 1 + 1; omega) _).setOther (by show w.heap.size + 1 + 1 + 1 ≠ w.heap.size + 1 + 1 + 1 + 1; omega) _).setOther (by show w.heap.size + 1 + 1 + 1 ≠ w.heap.size + 1 + 1 + 1 + 1; omega) _).setOther (by show w.heap.size + 1 + 1 + 1 ≠ w.heap.size + 1 + 1 + 1 + 1; omega) _).setOther (by show w.heap.size + 1 + 1 + 1 ≠ w.heap.size + 1 + 1 + 1 + 1; omega) _).setOther (by show w.heap.size + 1 + 1 + 1 ≠ w.heap.size + 1 + 1 + 1 + 1; omega) _).setOther (by show w.heap.size + 1 + 1 + 1 ≠ w.heap.size + 1 + 1 + 1 + 1; omega) _).setOther (by show w.heap.size + 1 + 1 + 1 ≠ w.heap.size + 1 + 1 + 1 + 1; omega) _).setOther (by show w.heap.size + 1 + 1 + 1 ≠ w.heap.size + 1 + 1 + 1 + 1; omega) _, (((((((((((BX4.out).set 0 _).set 1 _).set 2 _).set 3 _).set 4 _).set 5 _).set 6 _).set 7 _).set 8 _).set 9 _).eq (by simp only [List.setIfInBounds_toArray, List.set_cons_zero, List.set_cons_succ]), ((((((((((HB.out.trans (HG.out.mono HB.out.size)).setCell (by show w.heap.size ≤ w.heap.size + 1 + 1 + 1 + 1; omega) _).setCell (by show w.heap.size ≤ w.heap.size + 1 + 1 + 1 + 1; omega) _).setCell (by show w.heap.size ≤ w.heap.size + 1 + 1 + 1 + 1; omega) _).setCell (by show w.heap.size ≤ w.heap.size + 1 + 1 + 1 + 1; omega) _).setCell (by show w.heap.size ≤ w.heap.size + 1 + 1 + 1 + 1; omega) _).setCell (by show w.heap.size ≤ w.heap.size + 1 + 1 + 1 + 1; omega) _).setCell (by show w.heap.size ≤ w.heap.size + 1 + 1 + 1 + 1; omega) _).setCell (by show w.heap.size ≤ w.heap.size + 1 + 1 + 1 + 1; omega) _).setCell (by show w.heap.size ≤ w.heap.size + 1 + 1 + 1 + 1; omega) _).setCell (by show w.heap.size ≤ w.heap.size + 1 + 1 + 1 + 1; omega) _⟩ ?_
      clear HB HG BX0 BX1 BX2 BX3 BX4
      rintro Wx6 ⟨bx0, bx1, bx2, bx3, bx4, HB⟩
      replace HB := Lib.hid HB
      refine wp_ret ?_
      try simp only [Exit.then, Exit.inBlock]
      have lx4 := bx4.cells
      have r0 := Gr.refl Wx6
      exact bodyPost_ret (v := .tuple #[.int .i64 0, (.agg #[.int .u64 0, .string ⟨#[]⟩, .bool false, .int .u64 0, .string ⟨#[]⟩, .int .u64 0, .string ⟨#[]⟩, .bool false, .int .u64 0, .string ⟨#[]⟩])]) (by simp [results, Try.results21, go_sem, lx4 _ r0]) rfl ⟨rfl, HB.out⟩
    · -- region 5
      have BX0 := Lib.hid bx0
      have BX1 := Lib.hid bx1
      have BX2 := Lib.hid bx2
      have BX3 := Lib.hid bx3
      have BX4 := Lib.hid bx4
      clear bx0 bx1 bx2 bx3 bx4
      refine wp_seq_k fun K hK => ?_
      replace hK := Lib.hid hK
      refine wp_region_seqplan 11 [(true, 0), (true, 1), (true, 2), (true, 3), (true, 4), (true, 5), (true, 6), (true, 7), (true, 8), (true, 9), (true, 10)] (by rfl) (by simp) (fun T hT => ?_)
      iterate 11
        refine wpPlan_takeL (v := ?_) rfl (by rfl) (fun w' hw => ?_) ?_
        rotate_left
        · go_simp
          with_reducible rfl
        simp only [Act.put, qA, qB, qC]
      refine wpPlan_nil (hT.out _ _ ?_); clear hT T
      intro vw4 hg
      simp only [puts, Act.put, qA, qB, qC, qD, qE, ↓reduceIte, Nat.reduceEqDiff]
      have HG := Lib.hid (hg)
      clear hg
      have bx0 := BX0.out.gr HG.out; clear BX0
      have bx1 := BX1.out.gr HG.out; clear BX1
      have bx2 := BX2.out.gr HG.out; clear BX2
      have bx3 := BX3.out.gr HG.out; clear BX3
      have bx4 := BX4.out.gr HG.out; clear BX4
      have r0 := Gr.refl vw4
      have BX0 := Lib.hid bx0; clear bx0
      have BX1 := Lib.hid bx1; clear bx1
      have BX2 := Lib.hid bx2; clear bx2
      have BX3 := Lib.hid bx3; clear bx3
      have BX4 := Lib.hid bx4; clear bx4
      go_wp2
      refine hK.out _ _ ?_; clear hK K
      show Code.wp _ _ _ _ _
      clear r0
      refine forgetW (fun w2 => Bx w2 (w.heap.size) 38 #[.int .u64 (lo a1.num.natAbs), .string (bg a1.num.natAbs), .bool (decide (a1.num < 0)), .int .u64 (lo (a1.den - 1)), .string (bg (a1.den - 1)), .int .u64 (lo a2.num.natAbs), .string (bg a2.num.natAbs), .bool (decide (a2.num < 0)), .int .u64 (lo (a2.den - 1)), .string (bg (a2.den - 1))] ∧ Bx w2 (w.heap.size + 1) 38 #[.int .u64 (lo b1.num.natAbs), .string (bg b1.num.natAbs), .bool (decide (b1.num < 0)), .int .u64 (lo (b1.den - 1)), .string (bg (b1.den - 1)), .int .u64 (lo b2.num.natAbs), .string (bg b2.num.natAbs), .bool (decide (b2.num < 0)), .int .u64 (lo (b2.den - 1)), .string (bg (b2.den - 1))] ∧ Bx w2 (w.heap.size + 1 + 1) 38 #[.int .u64 (lo c1.num.natAbs), .string (bg c1.num.natAbs), .bool (decide (c1.num < 0)), .int .u64 (lo (c1.den - 1)), .string (bg (c1.den - 1)), .int .u64 (lo c2.num.natAbs), .string (bg c2.num.natAbs), .bool (decide (c2.num < 0)), .int .u64 (lo (c2.den - 1)), .string (bg (c2.den - 1))] ∧ Bx w2 (w.heap.size + 1 + 1 + 1) 38 #[.int .u64 (lo d1.num.natAbs), .string (bg d1.num.natAbs), .bool (decide (d1.num < 0)), .int .u64 (lo (d1.den - 1)), .string (bg (d1.den - 1)), .int .u64 (lo d2.num.natAbs), .string (bg d2.num.natAbs), .bool (decide (d2.num < 0)), .int .u64 (lo (d2.den - 1)), .string (bg (d2.den - 1))] ∧ Bx w2 (w.heap.size + 1 + 1 + 1 + 1) 38 #[.int .u64 0, .string ⟨#[]⟩, .bool false, .int .u64 0, .string ⟨#[]⟩, .int .u64 0, .string ⟨#[]⟩, .bool false, .int .u64 0, .string ⟨#[]⟩] ∧ Below w.heap.size w w2) ⟨BX0.out, BX1.out, BX2.out, BX3.out, BX4.out, HB.out.trans (HG.out.mono HB.out.size)⟩ ?_
      clear HB HG BX0 BX1 BX2 BX3 BX4
      rintro Wx5 ⟨bx0, bx1, bx2, bx3, bx4, HB⟩
      replace HB := Lib.hid HB
      refine wp_cond_false (by rfl) ?_
      refine wp_skip ?_
      show Code.wp _ _ _ _ _
      -- region 7
      obtain ⟨u1, HZ1⟩ : ∃ z, Hid ((b1) - (a1) = z) := ⟨_, Lib.hid rfl⟩
      have su1 : sz u1 ≤ 20000001 := by rw [← HZ1.out]; have := sz_sub (b1) (a1); omega
      obtain ⟨u2, HZ2⟩ : ∃ z, Hid ((b2) - (a2) = z) := ⟨_, Lib.hid rfl⟩
      have su2 : sz u2 ≤ 20000001 := by rw [← HZ2.out]; have := sz_sub (b2) (a2); omega
      obtain ⟨u3, HZ3⟩ : ∃ z, Hid ((d1) - (c1) = z) := ⟨_, Lib.hid rfl⟩
      have su3 : sz u3 ≤ 20000001 := by rw [← HZ3.out]; have := sz_sub (d1) (c1); omega
      obtain ⟨u4, HZ4⟩ : ∃ z, Hid ((d2) - (c2) = z) := ⟨_, Lib.hid rfl⟩
      have su4 : sz u4 ≤ 20000001 := by rw [← HZ4.out]; have := sz_sub (d2) (c2); omega
      have lx0 := bx0.cells
      have lx1 := bx1.cells
      have lx2 := bx2.cells
      have lx3 := bx3.cells
      have BX0 := Lib.hid bx0
      have BX1 := Lib.hid bx1
      have BX2 := Lib.hid bx2
      have BX3 := Lib.hid bx3
      have BX4 := Lib.hid bx4
      clear bx0 bx1 bx2 bx3 bx4
      refine wp_seq_k fun K hK => ?_
      replace hK := Lib.hid hK
      refine wp_region_plan 8 [6, 7] [] (fun i => if i = 6 then 14 else 15) (fun i => if i = 6 then .cells #[.int .u64 0, .string ⟨#[]⟩, .bool false, .int .u64 0, .string ⟨#[]⟩, .int .u64 0, .string ⟨#[]⟩, .bool false, .int .u64 0, .string ⟨#[]⟩] 38 else .cells #[.int .u64 0, .string ⟨#[]⟩, .bool false, .int .u64 0, .string ⟨#[]⟩, .int .u64 0, .string ⟨#[]⟩, .bool false, .int .u64 0, .string ⟨#[]⟩] 38) [(true, 0), (true, 1), (true, 3), (true, 4), (true, 2), (true, 5)] (by kernel_rfl) (by kernel_rfl) (by intro i hi; simp only [List.mem_cons, List.not_mem_nil, or_false] at hi; rcases hi with rfl | rfl <;> exact ⟨_, rfl, rfl, rfl, by simp, fun ρ w => by kernel_rfl⟩) (fun i hi => by cases hi) (fun _ _ _ _ _ h => h) (fun T hT => ?_)
      iterate 4
        refine wpPlan_takeL (v := ?_) rfl (by rfl) (fun w' hw => ?_) ?_
        rotate_left
        · go_simp
          with_reducible rfl
        simp only [Act.put, qA, qB, qC]
      refine wpPlan_callL rfl (by rfl) Try.call8 (fun w' hw => psub_any (b1) (b2) (a1) (a2) (u1) (u2) _ HZ1.out HZ2.out (by omega) (by omega) (by omega) (by omega)) (by rfl) ?_
      simp only [Act.put, qA, qB, qC]
      refine wpPlan_callL rfl (by rfl) Try.call8 (fun w' hw => psub_any (d1) (d2) (c1) (c2) (u3) (u4) _ HZ3.out HZ4.out (by omega) (by omega) (by omega) (by omega)) (by rfl) ?_
      simp only [Act.put, qA, qB, qC]
      refine wpPlan_nil (hT.out _ _ ?_); clear hT T
      intro G vw5 hg hf
      simp only [puts, Act.put, qA, qB, qC, qD, qE, ↓reduceIte, Nat.reduceEqDiff]
      clear lx0 lx1 lx2 lx3
      have HG := Lib.hid (hg)
      clear hg
      have bx5 := Bx.of_fresh hf (i := 6) (by decide) rfl
      have yx5 := (hf.1 6 (by decide)).1
      have bx6 := Bx.of_fresh hf (i := 7) (by decide) rfl
      have yx6 := (hf.1 7 (by decide)).1
      have dx5_6 : G 6 ≠ G 7 := fun e => absurd (hf.2 6 (by decide) 7 (by decide) e) (by decide)
      clear hf
      generalize G 6 = gx5 at *
      generalize G 7 = gx6 at *
      have qx0_5 : w.heap.size < gx5 := Nat.lt_of_lt_of_le BX0.out.lt yx5
      have qx0_6 : w.heap.size < gx6 := Nat.lt_of_lt_of_le BX0.out.lt yx6
      have qx1_5 : w.heap.size + 1 < gx5 := Nat.lt_of_lt_of_le BX1.out.lt yx5
      have qx1_6 : w.heap.size + 1 < gx6 := Nat.lt_of_lt_of_le BX1.out.lt yx6
      have qx2_5 : w.heap.size + 1 + 1 < gx5 := Nat.lt_of_lt_of_le BX2.out.lt yx5
      have qx2_6 : w.heap.size + 1 + 1 < gx6 := Nat.lt_of_lt_of_le BX2.out.lt yx6
      have qx3_5 : w.heap.size + 1 + 1 + 1 < gx5 := Nat.lt_of_lt_of_le BX3.out.lt yx5
      have qx3_6 : w.heap.size + 1 + 1 + 1 < gx6 := Nat.lt_of_lt_of_le BX3.out.lt yx6
      have qx4_5 : w.heap.size + 1 + 1 + 1 + 1 < gx5 := Nat.lt_of_lt_of_le BX4.out.lt yx5
      have qx4_6 : w.heap.size + 1 + 1 + 1 + 1 < gx6 := Nat.lt_of_lt_of_le BX4.out.lt yx6
      replace yx5 : w.heap.size ≤ gx5 := Nat.le_trans HB.out.size yx5
      replace yx6 : w.heap.size ≤ gx6 := Nat.le_trans HB.out.size yx6
      have bx0 := BX0.out.gr HG.out; clear BX0
      have bx1 := BX1.out.gr HG.out; clear BX1
      have bx2 := BX2.out.gr HG.out; clear BX2
      have bx3 := BX3.out.gr HG.out; clear BX3
      have bx4 := BX4.out.gr HG.out; clear BX4
      have lx5 := bx5.cells; have fx5 := bx5.free
      have lx6 := bx6.cells; have fx6 := bx6.free
      have r0 := Gr.refl vw5
      have BX0 := Lib.hid bx0; clear bx0
      have BX1 := Lib.hid bx1; clear bx1
      have BX2 := Lib.hid bx2; clear bx2
      have BX3 := Lib.hid bx3; clear bx3
      have BX4 := Lib.hid bx4; clear bx4
      have BX5 := Lib.hid bx5; clear bx5
      have BX6 := Lib.hid bx6; clear bx6
      go_wp2
      refine hK.out _ _ ?_; clear hK K
      show Code.wp _ _ _ _ _
      clear lx5 fx5
      clear lx6 fx6
      clear r0
      refine forgetW (fun w2 => Bx w2 (w.heap.size) 38 #[.int .u64 (lo a1.num.natAbs), .string (bg a1.num.natAbs), .bool (decide (a1.num < 0)), .int .u64 (lo (a1.den - 1)), .string (bg (a1.den - 1)), .int .u64 (lo a2.num.natAbs), .string (bg a2.num.natAbs), .bool (decide (a2.num < 0)), .int .u64 (lo (a2.den - 1)), .string (bg (a2.den - 1))] ∧ Bx w2 (w.heap.size + 1 + 1) 38 #[.int .u64 (lo c1.num.natAbs), .string (bg c1.num.natAbs), .bool (decide (c1.num < 0)), .int .u64 (lo (c1.den - 1)), .string (bg (c1.den - 1)), .int .u64 (lo c2.num.natAbs), .string (bg c2.num.natAbs), .bool (decide (c2.num < 0)), .int .u64 (lo (c2.den - 1)), .string (bg (c2.den - 1))] ∧ Bx w2 (w.heap.size + 1 + 1 + 1 + 1) 38 #[.int .u64 0, .string ⟨#[]⟩, .bool false, .int .u64 0, .string ⟨#[]⟩, .int .u64 0, .string ⟨#[]⟩, .bool false, .int .u64 0, .string ⟨#[]⟩] ∧ Bx w2 gx5 38 #[.int .u64 (lo u1.num.natAbs), .string (bg u1.num.natAbs), .bool (decide (u1.num < 0)), .int .u64 (lo (u1.den - 1)), .string (bg (u1.den - 1)), .int .u64 (lo u2.num.natAbs), .string (bg u2.num.natAbs), .bool (decide (u2.num < 0)), .int .u64 (lo (u2.den - 1)), .string (bg (u2.den - 1))] ∧ Bx w2 gx6 38 #[.int .u64 (lo u3.num.natAbs), .string (bg u3.num.natAbs), .bool (decide (u3.num < 0)), .int .u64 (lo (u3.den - 1)), .string (bg (u3.den - 1)), .int .u64 (lo u4.num.natAbs), .string (bg u4.num.natAbs), .bool (decide (u4.num < 0)), .int .u64 (lo (u4.den - 1)), .string (bg (u4.den - 1))] ∧ Below w.heap.size w w2) ⟨((((((((((((((((((((BX0.out).setOther (by show w.heap.size ≠ gx5; omega) _).setOther (by show w.heap.size ≠ gx5; omega) _).setOther (by show w.heap.size ≠ gx5; omega) _).setOther (by show w.heap.size ≠ gx5; omega) _).setOther (by show w.heap.size ≠ gx5; omega) _).setOther (by show w.heap.size ≠ gx5; omega) _).setOther (by show w.heap.size ≠ gx5; omega) _).setOther (by show w.heap.size ≠ gx5; omega) _).setOther (by show w.heap.size ≠ gx5; omega) _).setOther (by show w.heap.size ≠ gx5; omega) _).setOther (by show w.heap.size ≠ gx6; omega) _).setOther (by show w.heap.size ≠ gx6; omega) _).setOther (by show w.heap.size ≠ gx6; omega) _).setOther (by show w.heap.size ≠ gx6; omega) _).setOther (by show w.heap.size ≠ gx6; omega) _).setOther (by show w.heap.size ≠ gx6; omega) _).setOther (by show w.heap.size ≠ gx6; omega) _).setOther (by show w.heap.size ≠ gx6; omega) _).setOther (by show w.heap.size ≠ gx6; omega) _).setOther (by show w.heap.size ≠ gx6; omega) _, ((((((((((((((((((((BX2.out).setOther (by show w.heap.size + 1 + 1 ≠ gx5; omega) _).setOther (by show w.heap.size + 1 + 1 ≠ gx5; omega) _).setOther (by show w.heap.size + 1 + 1 ≠ gx5; omega) _).setOther (by show w.heap.size + 1 + 1 ≠ gx5; omega) _).setOther (by show w.heap.size + 1 + 1 ≠ gx5; omega) _).setOther (by show w.heap.size + 1 + 1 ≠ gx5; omega) _).setOther (by show w.heap.size + 1 + 1 ≠ gx5; omega) _).setOther (by show w.heap.size + 1 + 1 ≠ gx5; omega) _).setOther (by show w.heap.size + 1 + 1 ≠ gx5; omega) _).setOther (by show w.heap.size + 1 + 1 ≠ gx5; omega) _).setOther (by show w.heap.size + 1 + 1 ≠ gx6; omega) _).setOther (by show w.heap.size + 1 + 1 ≠ gx6; omega) _).setOther (by show w.heap.size + 1 + 1 ≠ gx6; omega) _).setOther (by show w.heap.size + 1 + 1 ≠ gx6; omega) _).setOther (by show w.heap.size + 1 + 1 ≠ gx6; omega) _).setOther (by show w.heap.size + 1 + 1 ≠ gx6; omega) _).setOther (by show w.heap.size + 1 + 1 ≠ gx6; omega) _).setOther (by show w.heap.size + 1 + 1 ≠ gx6; omega) _).setOther (by show w.heap.size + 1 + 1 ≠ gx6; omega) _).setOther (by show w.heap.size + 1 + 1 ≠ gx6; omega) _, ((((((((((((((((((((BX4.out).setOther (by show w.heap.size + 1 + 1 + 1 + 1 ≠ gx5; omega) _).setOther (by show w.heap.size + 1 + 1 + 1 + 1 ≠ gx5; omega) _).setOther (by show w.heap.size + 1 + 1 + 1 + 1 ≠ gx5; omega) _).setOther (by show w.heap.size + 1 + 1 + 1 + 1 ≠ gx5; omega) _).setOther (by show w.heap.size + 1 + 1 + 1 + 1 ≠ gx5; omega) _).setOther (by show w.heap.size + 1 + 1 + 1 + 1 ≠ gx5; omega) _).setOther (by show w.heap.size + 1 + 1 + 1 + 1 ≠ gx5; omega) _).setOther (by show w.heap.size + 1 + 1 + 1 + 1 ≠ gx5; omega) _).setOther (by show w.heap.size + 1 + 1 + 1 + 1 ≠ gx5; omega) _).setOther (by show w.heap.size + 1 + 1 + 1 + 1 ≠ gx5; omega) _).setOther (by show w.heap.size + 1 + 1 + 1 + 1 ≠ gx6; omega) _).setOther (by show w.heap.size + 1 + 1 + 1 + 1 ≠ gx6; omega) _).setOther (by show w.heap.size + 1 + 1 + 1 + 1 ≠ gx6; omega) _).setOther (by show w.heap.size + 1 + 1 + 1 + 1 ≠ gx6; omega) _).setOther (by show w.heap.size + 1 + 1 + 1 + 1 ≠ gx6; omega) _).setOther (by show w.heap.size + 1 + 1 + 1 + 1 ≠ gx6; omega) _).setOther (by show w.heap.size + 1 + 1 + 1 + 1 ≠ gx6; omega) _).setOther (by show w.heap.size + 1 + 1 + 1 + 1 ≠ gx6; omega) _).setOther (by show w.heap.size + 1 + 1 + 1 + 1 ≠ gx6; omega) _).setOther (by show w.heap.size + 1 + 1 + 1 + 1 ≠ gx6; omega) _, (((((((((((((((((((((BX5.out).set 0 _).set 1 _).set 2 _).set 3 _).set 4 _).set 5 _).set 6 _).set 7 _).set 8 _).set 9 _).setOther (by show gx5 ≠ gx6; omega) _).setOther (by show gx5 ≠ gx6; omega) _).setOther (by show gx5 ≠ gx6; omega) _).setOther (by show gx5 ≠ gx6; omega) _).setOther (by show gx5 ≠ gx6; omega) _).setOther (by show gx5 ≠ gx6; omega) _).setOther (by show gx5 ≠ gx6; omega) _).setOther (by show gx5 ≠ gx6; omega) _).setOther (by show gx5 ≠ gx6; omega) _).setOther (by show gx5 ≠ gx6; omega) _).eq (by simp only [List.setIfInBounds_toArray, List.set_cons_zero, List.set_cons_succ]), (((((((((((((((((((((BX6.out).setOther (by show gx6 ≠ gx5; omega) _).setOther (by show gx6 ≠ gx5; omega) _).setOther (by show gx6 ≠ gx5; omega) _).setOther (by show gx6 ≠ gx5; omega) _).setOther (by show gx6 ≠ gx5; omega) _).setOther (by show gx6 ≠ gx5; omega) _).setOther (by show gx6 ≠ gx5; omega) _).setOther (by show gx6 ≠ gx5; omega) _).setOther (by show gx6 ≠ gx5; omega) _).setOther (by show gx6 ≠ gx5; omega) _).set 0 _).set 1 _).set 2 _).set 3 _).set 4 _).set 5 _).set 6 _).set 7 _).set 8 _).set 9 _).eq (by simp only [List.setIfInBounds_toArray, List.set_cons_zero, List.set_cons_succ]), ((((((((((((((((((((HB.out.trans (HG.out.mono HB.out.size)).setCell (by show w.heap.size ≤ gx5; omega) _).setCell (by show w.heap.size ≤ gx5; omega) _).setCell (by show w.heap.size ≤ gx5; omega) _).setCell (by show w.heap.size ≤ gx5; omega) _).setCell (by show w.heap.size ≤ gx5; omega) _).setCell (by show w.heap.size ≤ gx5; omega) _).setCell (by show w.heap.size ≤ gx5; omega) _).setCell (by show w.heap.size ≤ gx5; omega) _).setCell (by show w.heap.size ≤ gx5; omega) _).setCell (by show w.heap.size ≤ gx5; omega) _).setCell (by show w.heap.size ≤ gx6; omega) _).setCell (by show w.heap.size ≤ gx6; omega) _).setCell (by show w.heap.size ≤ gx6; omega) _).setCell (by show w.heap.size ≤ gx6; omega) _).setCell (by show w.heap.size ≤ gx6; omega) _).setCell (by show w.heap.size ≤ gx6; omega) _).setCell (by show w.heap.size ≤ gx6; omega) _).setCell (by show w.heap.size ≤ gx6; omega) _).setCell (by show w.heap.size ≤ gx6; omega) _).setCell (by show w.heap.size ≤ gx6; omega) _⟩ ?_
      clear HB HG BX0 BX1 BX2 BX3 BX4 BX5 BX6
      rintro Wx7 ⟨bx0, bx2, bx4, bx5, bx6, HB⟩
      replace HB := Lib.hid HB
      -- region 8
      obtain ⟨u5, HZ5⟩ : ∃ z, Hid ((c1) - (a1) = z) := ⟨_, Lib.hid rfl⟩
      have su5 : sz u5 ≤ 20000001 := by rw [← HZ5.out]; have := sz_sub (c1) (a1); omega
      obtain ⟨u6, HZ6⟩ : ∃ z, Hid ((c2) - (a2) = z) := ⟨_, Lib.hid rfl⟩
      have su6 : sz u6 ≤ 20000001 := by rw [← HZ6.out]; have := sz_sub (c2) (a2); omega
      obtain ⟨u7, HZ7⟩ : ∃ z, Hid ((u5) * (u4) - (u6) * (u3) = z) := ⟨_, Lib.hid rfl⟩
      have su7 : sz u7 ≤ 80000005 := by rw [← HZ7.out]; have := sz_cross (u5) (u6) (u3) (u4); omega
      have HZ8 : Hid ((u1) * (u4) - (u2) * (u3) = ((b1 - a1) * (d2 - c2) - (b2 - a2) * (d1 - c1))) := Lib.hid (by rw [← HZ1.out, ← HZ2.out, ← HZ3.out, ← HZ4.out])
      obtain ⟨u9, HZ9⟩ : ∃ z, Hid ((u7) / (((b1 - a1) * (d2 - c2) - (b2 - a2) * (d1 - c1))) = z) := ⟨_, Lib.hid rfl⟩
      have su9 : sz u9 ≤ 180000005 := by rw [← HZ9.out]; have := sz_div (u7) (((b1 - a1) * (d2 - c2) - (b2 - a2) * (d1 - c1))); omega
      have lx0 := bx0.cells
      have lx2 := bx2.cells
      have lx5 := bx5.cells
      have lx6 := bx6.cells
      have BX0 := Lib.hid bx0
      have BX2 := Lib.hid bx2
      have BX4 := Lib.hid bx4
      have BX5 := Lib.hid bx5
      have BX6 := Lib.hid bx6
      clear bx0 bx2 bx4 bx5 bx6
      refine wp_seq_k fun K hK => ?_
      replace hK := Lib.hid hK
      refine wp_region_plan 13 [12] [11] (fun _ => 16) (fun _ => .cells #[.int .u64 0, .string ⟨#[]⟩, .bool false, .int .u64 0, .string ⟨#[]⟩] 36) [(true, 0), (true, 1), (true, 3), (true, 5), (true, 6), (true, 2), (true, 4), (true, 7), (true, 8), (true, 9), (true, 10), (true, 11)] (by kernel_rfl) (by kernel_rfl) (by intro i hi; simp only [List.mem_cons, List.not_mem_nil, or_false] at hi; rcases hi with rfl <;> exact ⟨_, rfl, rfl, rfl, by simp, fun ρ w => by kernel_rfl⟩) (by intro i hi; simp only [List.mem_cons, List.not_mem_nil, or_false] at hi; rcases hi with rfl <;> exact ⟨_, rfl, pure_extract⟩) (fun _ _ _ _ _ h => h) (fun T hT => ?_)
      iterate 5
        refine wpPlan_takeL (v := ?_) rfl (by rfl) (fun w' hw => ?_) ?_
        rotate_left
        · go_simp
          with_reducible rfl
        simp only [Act.put, qA, qB, qC]
      refine wpPlan_callL rfl (by rfl) Try.call8 (fun w' hw => psub_any (c1) (c2) (a1) (a2) (u5) (u6) _ HZ5.out HZ6.out (by omega) (by omega) (by omega) (by omega)) (by rfl) ?_
      simp only [Act.put, qA, qB, qC]
      refine wpPlan_callL rfl (by rfl) Try.call11 (fun w' hw => pcross_any (u5) (u6) (u3) (u4) (u7) _ HZ7.out (by omega) (by omega) (by omega) (by omega)) (by rfl) ?_
      simp only [Act.put, qA, qB, qC]
      refine wpPlan_callL rfl (by rfl) Try.call11 (fun w' hw => pcross_any (u1) (u2) (u3) (u4) (((b1 - a1) * (d2 - c2) - (b2 - a2) * (d1 - c1))) _ HZ8.out (by omega) (by omega) (by omega) (by omega)) (by rfl) ?_
      simp only [Act.put, qA, qB, qC]
      refine wpPlan_callL rfl (by rfl) Try.call43 (fun w' hw => fdiv_any (u7) (((b1 - a1) * (d2 - c2) - (b2 - a2) * (d1 - c1))) (u9) _ HZ9.out hk0.out (by omega) (by omega)) (by rfl) ?_
      simp only [Act.put, qA, qB, qC]
      iterate 3
        refine wpPlan_takeL (v := ?_) rfl (by rfl) (fun w' hw => ?_) ?_
        rotate_left
        · go_simp
          with_reducible rfl
        simp only [Act.put, qA, qB, qC]
      refine wpPlan_nil (hT.out _ _ ?_); clear hT T
      intro G vw6 hg hf
      simp only [puts, Act.put, qA, qB, qC, qD, qE, ↓reduceIte, Nat.reduceEqDiff]
      clear lx0 lx2 lx5 lx6
      have HG := Lib.hid (hg)
      clear hg
      have bx7 := Bx.of_fresh hf (i := 12) (by decide) rfl
      have yx7 := (hf.1 12 (by decide)).1
      clear hf
      generalize G 12 = gx7 at *
      have qx0_7 : w.heap.size < gx7 := Nat.lt_of_lt_of_le BX0.out.lt yx7
      have qx2_7 : w.heap.size + 1 + 1 < gx7 := Nat.lt_of_lt_of_le BX2.out.lt yx7
      have qx4_7 : w.heap.size + 1 + 1 + 1 + 1 < gx7 := Nat.lt_of_lt_of_le BX4.out.lt yx7
      have qx5_7 : gx5 < gx7 := Nat.lt_of_lt_of_le BX5.out.lt yx7
      have qx6_7 : gx6 < gx7 := Nat.lt_of_lt_of_le BX6.out.lt yx7
      replace yx7 : w.heap.size ≤ gx7 := Nat.le_trans HB.out.size yx7
      have bx0 := BX0.out.gr HG.out; clear BX0
      have bx2 := BX2.out.gr HG.out; clear BX2
      have bx4 := BX4.out.gr HG.out; clear BX4
      have bx5 := BX5.out.gr HG.out; clear BX5
      have bx6 := BX6.out.gr HG.out; clear BX6
      have lx7 := bx7.cells; have fx7 := bx7.free
      have r0 := Gr.refl vw6
      have BX0 := Lib.hid bx0; clear bx0
      have BX2 := Lib.hid bx2; clear bx2
      have BX4 := Lib.hid bx4; clear bx4
      have BX5 := Lib.hid bx5; clear bx5
      have BX6 := Lib.hid bx6; clear bx6
      have BX7 := Lib.hid bx7; clear bx7
      go_wp2
      refine hK.out _ _ ?_; clear hK K
      show Code.wp _ _ _ _ _
      clear lx7 fx7
      clear r0
      refine forgetW (fun w2 => Bx w2 (w.heap.size) 38 #[.int .u64 (lo a1.num.natAbs), .string (bg a1.num.natAbs), .bool (decide (a1.num < 0)), .int .u64 (lo (a1.den - 1)), .string (bg (a1.den - 1)), .int .u64 (lo a2.num.natAbs), .string (bg a2.num.natAbs), .bool (decide (a2.num < 0)), .int .u64 (lo (a2.den - 1)), .string (bg (a2.den - 1))] ∧ Bx w2 (w.heap.size + 1 + 1 + 1 + 1) 38 #[.int .u64 0, .string ⟨#[]⟩, .bool false, .int .u64 0, .string ⟨#[]⟩, .int .u64 0, .string ⟨#[]⟩, .bool false, .int .u64 0, .string ⟨#[]⟩] ∧ Bx w2 gx5 38 #[.int .u64 (lo u1.num.natAbs), .string (bg u1.num.natAbs), .bool (decide (u1.num < 0)), .int .u64 (lo (u1.den - 1)), .string (bg (u1.den - 1)), .int .u64 (lo u2.num.natAbs), .string (bg u2.num.natAbs), .bool (decide (u2.num < 0)), .int .u64 (lo (u2.den - 1)), .string (bg (u2.den - 1))] ∧ Bx w2 gx7 36 #[.int .u64 (lo u9.num.natAbs), .string (bg u9.num.natAbs), .bool (decide (u9.num < 0)), .int .u64 (lo (u9.den - 1)), .string (bg (u9.den - 1))] ∧ Below w.heap.size w w2) ⟨(((((BX0.out).setOther (by show w.heap.size ≠ gx7; omega) _).setOther (by show w.heap.size ≠ gx7; omega) _).setOther (by show w.heap.size ≠ gx7; omega) _).setOther (by show w.heap.size ≠ gx7; omega) _).setOther (by show w.heap.size ≠ gx7; omega) _, (((((BX4.out).setOther (by show w.heap.size + 1 + 1 + 1 + 1 ≠ gx7; omega) _).setOther (by show w.heap.size + 1 + 1 + 1 + 1 ≠ gx7; omega) _).setOther (by show w.heap.size + 1 + 1 + 1 + 1 ≠ gx7; omega) _).setOther (by show w.heap.size + 1 + 1 + 1 + 1 ≠ gx7; omega) _).setOther (by show w.heap.size + 1 + 1 + 1 + 1 ≠ gx7; omega) _, (((((BX5.out).setOther (by show gx5 ≠ gx7; omega) _).setOther (by show gx5 ≠ gx7; omega) _).setOther (by show gx5 ≠ gx7; omega) _).setOther (by show gx5 ≠ gx7; omega) _).setOther (by show gx5 ≠ gx7; omega) _, ((((((BX7.out).set 0 _).set 1 _).set 2 _).set 3 _).set 4 _).eq (by simp only [List.setIfInBounds_toArray, List.set_cons_zero, List.set_cons_succ]), (((((HB.out.trans (HG.out.mono HB.out.size)).setCell (by show w.heap.size ≤ gx7; omega) _).setCell (by show w.heap.size ≤ gx7; omega) _).setCell (by show w.heap.size ≤ gx7; omega) _).setCell (by show w.heap.size ≤ gx7; omega) _).setCell (by show w.heap.size ≤ gx7; omega) _⟩ ?_
      clear HB HG BX0 BX2 BX4 BX5 BX6 BX7
      rintro Wx8 ⟨bx0, bx4, bx5, bx7, HB⟩
      replace HB := Lib.hid HB
      -- region 9
      obtain ⟨u10, HZ10⟩ : ∃ z, Hid ((u1) * (u9) = z) := ⟨_, Lib.hid rfl⟩
      have su10 : sz u10 ≤ 200000006 := by rw [← HZ10.out]; have := sz_mul (u1) (u9); omega
      obtain ⟨u11, HZ11⟩ : ∃ z, Hid ((u2) * (u9) = z) := ⟨_, Lib.hid rfl⟩
      have su11 : sz u11 ≤ 200000006 := by rw [← HZ11.out]; have := sz_mul (u2) (u9); omega
      have HZ12 : Hid ((a1) + (u10) = m1) := Lib.hid (by rw [← HZ10.out, ← HZ9.out, ← HZ7.out, ← HZ6.out, ← HZ5.out, ← HZ4.out, ← HZ3.out, ← HZ1.out]; exact hm1.out)
      have HZ13 : Hid ((a2) + (u11) = m2) := Lib.hid (by rw [← HZ11.out, ← HZ9.out, ← HZ7.out, ← HZ6.out, ← HZ5.out, ← HZ4.out, ← HZ3.out, ← HZ2.out]; exact hm2.out)
      have lx0 := bx0.cells
      have lx5 := bx5.cells
      have lx7 := bx7.cells
      have BX0 := Lib.hid bx0
      have BX4 := Lib.hid bx4
      have BX5 := Lib.hid bx5
      have BX7 := Lib.hid bx7
      clear bx0 bx4 bx5 bx7
      refine wp_seq_k fun K hK => ?_
      replace hK := Lib.hid hK
      refine wp_region_plan 6 [] [] (fun _ => 0) (fun _ => .cells #[] 0) [(true, 0), (true, 1), (true, 2), (true, 3), (true, 4), (true, 5)] (by kernel_rfl) (by kernel_rfl) (fun i hi => by cases hi) (fun i hi => by cases hi) (fun _ _ _ _ _ h => h) (fun T hT => ?_)
      iterate 3
        refine wpPlan_takeL (v := ?_) rfl (by rfl) (fun w' hw => ?_) ?_
        rotate_left
        · go_simp
          with_reducible rfl
        simp only [Act.put, qA, qB, qC]
      refine wpPlan_callL rfl (by rfl) Try.call18 (fun w' hw => pscale_any (u1) (u2) (u9) (u10) (u11) _ HZ10.out HZ11.out (by omega) (by omega) (by omega)) (by rfl) ?_
      simp only [Act.put, qA, qB, qC]
      refine wpPlan_callL rfl (by rfl) Try.call14 (fun w' hw => padd_any (a1) (a2) (u10) (u11) (m1) (m2) _ HZ12.out HZ13.out (by omega) (by omega) (by omega) (by omega)) (by rfl) ?_
      simp only [Act.put, qA, qB, qC]
      iterate 1
        refine wpPlan_takeL (v := ?_) rfl (by rfl) (fun w' hw => ?_) ?_
        rotate_left
        · go_simp
          with_reducible rfl
        simp only [Act.put, qA, qB, qC]
      refine wpPlan_nil (hT.out _ _ ?_); clear hT T
      intro G vw7 hg hf
      simp only [puts, Act.put, qA, qB, qC, qD, qE, ↓reduceIte, Nat.reduceEqDiff]
      clear lx0 lx5 lx7
      have HG := Lib.hid (hg)
      clear hg
      have bx0 := BX0.out.gr HG.out; clear BX0
      have bx4 := BX4.out.gr HG.out; clear BX4
      have bx5 := BX5.out.gr HG.out; clear BX5
      have bx7 := BX7.out.gr HG.out; clear BX7
      have lx4 := bx4.cells; have fx4 := bx4.free
      have r0 := Gr.refl vw7
      have BX0 := Lib.hid bx0; clear bx0
      have BX4 := Lib.hid bx4; clear bx4
      have BX5 := Lib.hid bx5; clear bx5
      have BX7 := Lib.hid bx7; clear bx7
      go_wp2
      refine hK.out _ _ ?_; clear hK K
      show Code.wp _ _ _ _ _
      clear lx4 fx4
      clear r0
      refine forgetW (fun w2 => Bx w2 (w.heap.size + 1 + 1 + 1 + 1) 38 #[.int .u64 (lo m1.num.natAbs), .string (bg m1.num.natAbs), .bool (decide (m1.num < 0)), .int .u64 (lo (m1.den - 1)), .string (bg (m1.den - 1)), .int .u64 (lo m2.num.natAbs), .string (bg m2.num.natAbs), .bool (decide (m2.num < 0)), .int .u64 (lo (m2.den - 1)), .string (bg (m2.den - 1))] ∧ Below w.heap.size w w2) ⟨(((((((((((BX4.out).set 0 _).set 1 _).set 2 _).set 3 _).set 4 _).set 5 _).set 6 _).set 7 _).set 8 _).set 9 _).eq (by simp only [List.setIfInBounds_toArray, List.set_cons_zero, List.set_cons_succ]), ((((((((((HB.out.trans (HG.out.mono HB.out.size)).setCell (by show w.heap.size ≤ w.heap.size + 1 + 1 + 1 + 1; omega) _).setCell (by show w.heap.size ≤ w.heap.size + 1 + 1 + 1 + 1; omega) _).setCell (by show w.heap.size ≤ w.heap.size + 1 + 1 + 1 + 1; omega) _).setCell (by show w.heap.size ≤ w.heap.size + 1 + 1 + 1 + 1; omega) _).setCell (by show w.heap.size ≤ w.heap.size + 1 + 1 + 1 + 1; omega) _).setCell (by show w.heap.size ≤ w.heap.size + 1 + 1 + 1 + 1; omega) _).setCell (by show w.heap.size ≤ w.heap.size + 1 + 1 + 1 + 1; omega) _).setCell (by show w.heap.size ≤ w.heap.size + 1 + 1 + 1 + 1; omega) _).setCell (by show w.heap.size ≤ w.heap.size + 1 + 1 + 1 + 1; omega) _).setCell (by show w.heap.size ≤ w.heap.size + 1 + 1 + 1 + 1; omega) _⟩ ?_
      clear HB HG BX0 BX4 BX5 BX7
      rintro Wx9 ⟨bx4, HB⟩
      replace HB := Lib.hid HB
      refine wp_ret ?_
      try simp only [Exit.then, Exit.inBlock]
      have lx4 := bx4.cells
      have r0 := Gr.refl Wx9
      exact bodyPost_ret (v := .tuple #[.int .i64 1, (.agg #[.int .u64 (lo m1.num.natAbs), .string (bg m1.num.natAbs), .bool (decide (m1.num < 0)), .int .u64 (lo (m1.den - 1)), .string (bg (m1.den - 1)), .int .u64 (lo m2.num.natAbs), .string (bg m2.num.natAbs), .bool (decide (m2.num < 0)), .int .u64 (lo (m2.den - 1)), .string (bg (m2.den - 1))])]) (by simp [results, Try.results21, go_sem, lx4 _ r0]) rfl ⟨rfl, HB.out⟩
  · -- region 3
    have BX0 := Lib.hid bx0
    have BX1 := Lib.hid bx1
    have BX2 := Lib.hid bx2
    have BX3 := Lib.hid bx3
    have BX4 := Lib.hid bx4
    clear bx0 bx1 bx2 bx3 bx4
    refine wp_seq_k fun K hK => ?_
    replace hK := Lib.hid hK
    refine wp_region_seqplan 15 [(true, 0), (true, 1), (true, 2), (true, 3), (true, 4), (true, 5), (true, 6), (true, 7), (true, 8), (true, 9), (true, 10), (true, 11), (true, 12), (true, 13), (true, 14)] (by rfl) (by simp) (fun T hT => ?_)
    iterate 15
      refine wpPlan_takeL (v := ?_) rfl (by rfl) (fun w' hw => ?_) ?_
      rotate_left
      · go_simp
        with_reducible rfl
      simp only [Act.put, qA, qB, qC]
    refine wpPlan_nil (hT.out _ _ ?_); clear hT T
    intro vw3 hg
    simp only [puts, Act.put, qA, qB, qC, qD, qE, ↓reduceIte, Nat.reduceEqDiff]
    have HG := Lib.hid (hg)
    clear hg
    have bx0 := BX0.out.gr HG.out; clear BX0
    have bx1 := BX1.out.gr HG.out; clear BX1
    have bx2 := BX2.out.gr HG.out; clear BX2
    have bx3 := BX3.out.gr HG.out; clear BX3
    have bx4 := BX4.out.gr HG.out; clear BX4
    have r0 := Gr.refl vw3
    have BX0 := Lib.hid bx0; clear bx0
    have BX1 := Lib.hid bx1; clear bx1
    have BX2 := Lib.hid bx2; clear bx2
    have BX3 := Lib.hid bx3; clear bx3
    have BX4 := Lib.hid bx4; clear bx4
    go_wp2
    refine hK.out _ _ ?_; clear hK K
    show Code.wp _ _ _ _ _
    clear r0
    refine forgetW (fun w2 => Bx w2 (w.heap.size) 38 #[.int .u64 (lo a1.num.natAbs), .string (bg a1.num.natAbs), .bool (decide (a1.num < 0)), .int .u64 (lo (a1.den - 1)), .string (bg (a1.den - 1)), .int .u64 (lo a2.num.natAbs), .string (bg a2.num.natAbs), .bool (decide (a2.num < 0)), .int .u64 (lo (a2.den - 1)), .string (bg (a2.den - 1))] ∧ Bx w2 (w.heap.size + 1) 38 #[.int .u64 (lo b1.num.natAbs), .string (bg b1.num.natAbs), .bool (decide (b1.num < 0)), .int .u64 (lo (b1.den - 1)), .string (bg (b1.den - 1)), .int .u64 (lo b2.num.natAbs), .string (bg b2.num.natAbs), .bool (decide (b2.num < 0)), .int .u64 (lo (b2.den - 1)), .string (bg (b2.den - 1))] ∧ Bx w2 (w.heap.size + 1 + 1) 38 #[.int .u64 (lo c1.num.natAbs), .string (bg c1.num.natAbs), .bool (decide (c1.num < 0)), .int .u64 (lo (c1.den - 1)), .string (bg (c1.den - 1)), .int .u64 (lo c2.num.natAbs), .string (bg c2.num.natAbs), .bool (decide (c2.num < 0)), .int .u64 (lo (c2.den - 1)), .string (bg (c2.den - 1))] ∧ Bx w2 (w.heap.size + 1 + 1 + 1) 38 #[.int .u64 (lo d1.num.natAbs), .string (bg d1.num.natAbs), .bool (decide (d1.num < 0)), .int .u64 (lo (d1.den - 1)), .string (bg (d1.den - 1)), .int .u64 (lo d2.num.natAbs), .string (bg d2.num.natAbs), .bool (decide (d2.num < 0)), .int .u64 (lo (d2.den - 1)), .string (bg (d2.den - 1))] ∧ Bx w2 (w.heap.size + 1 + 1 + 1 + 1) 38 #[.int .u64 0, .string ⟨#[]⟩, .bool false, .int .u64 0, .string ⟨#[]⟩, .int .u64 0, .string ⟨#[]⟩, .bool false, .int .u64 0, .string ⟨#[]⟩] ∧ Below w.heap.size w w2) ⟨BX0.out, BX1.out, BX2.out, BX3.out, BX4.out, HB.out.trans (HG.out.mono HB.out.size)⟩ ?_
    clear HB HG BX0 BX1 BX2 BX3 BX4
    rintro Wx3 ⟨bx0, bx1, bx2, bx3, bx4, HB⟩
    replace HB := Lib.hid HB
    refine wp_cond_false (by rfl) ?_
    have way2 := way.out; clear way; rcases way2 with ⟨g1, rfl, rfl, rfl⟩ | ⟨g1, g2, rfl, rfl, rfl⟩ | ⟨g1, g2, rfl, hk0, hs_k, hm1, hm2⟩
    · -- region 5
      have BX0 := Lib.hid bx0
      have BX1 := Lib.hid bx1
      have BX2 := Lib.hid bx2
      have BX3 := Lib.hid bx3
      have BX4 := Lib.hid bx4
      clear bx0 bx1 bx2 bx3 bx4
      refine wp_seq_k fun K hK => ?_
      replace hK := Lib.hid hK
      refine wp_region_seqplan 11 [(true, 0), (true, 1), (true, 2), (true, 3), (true, 4), (true, 5), (true, 6), (true, 7), (true, 8), (true, 9), (true, 10)] (by rfl) (by simp) (fun T hT => ?_)
      iterate 5
        refine wpPlan_takeL (v := ?_) rfl (by rfl) (fun w' hw => ?_) ?_
        rotate_left
        · go_simp
          with_reducible rfl
        simp only [Act.put, qA, qB, qC]
      refine wpPlan_skipL rfl (by rfl) ?_
      simp only [Act.put, qA, qB, qC]
      refine wpPlan_skipL rfl (by rfl) ?_
      simp only [Act.put, qA, qB, qC]
      refine wpPlan_skipL rfl (by rfl) ?_
      simp only [Act.put, qA, qB, qC]
      refine wpPlan_skipL rfl (by rfl) ?_
      simp only [Act.put, qA, qB, qC]
      iterate 2
        refine wpPlan_takeL (v := ?_) rfl (by rfl) (fun w' hw => ?_) ?_
        rotate_left
        · go_simp
          with_reducible rfl
        simp only [Act.put, qA, qB, qC]
      refine wpPlan_nil (hT.out _ _ ?_); clear hT T
      intro vw4 hg
      simp only [puts, Act.put, qA, qB, qC, qD, qE, ↓reduceIte, Nat.reduceEqDiff]
      have HG := Lib.hid (hg)
      clear hg
      have bx0 := BX0.out.gr HG.out; clear BX0
      have bx1 := BX1.out.gr HG.out; clear BX1
      have bx2 := BX2.out.gr HG.out; clear BX2
      have bx3 := BX3.out.gr HG.out; clear BX3
      have bx4 := BX4.out.gr HG.out; clear BX4
      have r0 := Gr.refl vw4
      have BX0 := Lib.hid bx0; clear bx0
      have BX1 := Lib.hid bx1; clear bx1
      have BX2 := Lib.hid bx2; clear bx2
      have BX3 := Lib.hid bx3; clear bx3
      have BX4 := Lib.hid bx4; clear bx4
      go_wp2
      refine hK.out _ _ ?_; clear hK K
      show Code.wp _ _ _ _ _
      clear r0
      refine forgetW (fun w2 => Bx w2 (w.heap.size) 38 #[.int .u64 (lo a1.num.natAbs), .string (bg a1.num.natAbs), .bool (decide (a1.num < 0)), .int .u64 (lo (a1.den - 1)), .string (bg (a1.den - 1)), .int .u64 (lo a2.num.natAbs), .string (bg a2.num.natAbs), .bool (decide (a2.num < 0)), .int .u64 (lo (a2.den - 1)), .string (bg (a2.den - 1))] ∧ Bx w2 (w.heap.size + 1) 38 #[.int .u64 (lo b1.num.natAbs), .string (bg b1.num.natAbs), .bool (decide (b1.num < 0)), .int .u64 (lo (b1.den - 1)), .string (bg (b1.den - 1)), .int .u64 (lo b2.num.natAbs), .string (bg b2.num.natAbs), .bool (decide (b2.num < 0)), .int .u64 (lo (b2.den - 1)), .string (bg (b2.den - 1))] ∧ Bx w2 (w.heap.size + 1 + 1) 38 #[.int .u64 (lo c1.num.natAbs), .string (bg c1.num.natAbs), .bool (decide (c1.num < 0)), .int .u64 (lo (c1.den - 1)), .string (bg (c1.den - 1)), .int .u64 (lo c2.num.natAbs), .string (bg c2.num.natAbs), .bool (decide (c2.num < 0)), .int .u64 (lo (c2.den - 1)), .string (bg (c2.den - 1))] ∧ Bx w2 (w.heap.size + 1 + 1 + 1) 38 #[.int .u64 (lo d1.num.natAbs), .string (bg d1.num.natAbs), .bool (decide (d1.num < 0)), .int .u64 (lo (d1.den - 1)), .string (bg (d1.den - 1)), .int .u64 (lo d2.num.natAbs), .string (bg d2.num.natAbs), .bool (decide (d2.num < 0)), .int .u64 (lo (d2.den - 1)), .string (bg (d2.den - 1))] ∧ Bx w2 (w.heap.size + 1 + 1 + 1 + 1) 38 #[.int .u64 0, .string ⟨#[]⟩, .bool false, .int .u64 0, .string ⟨#[]⟩, .int .u64 0, .string ⟨#[]⟩, .bool false, .int .u64 0, .string ⟨#[]⟩] ∧ Below w.heap.size w w2) ⟨BX0.out, BX1.out, BX2.out, BX3.out, BX4.out, HB.out.trans (HG.out.mono HB.out.size)⟩ ?_
      clear HB HG BX0 BX1 BX2 BX3 BX4
      rintro Wx5 ⟨bx0, bx1, bx2, bx3, bx4, HB⟩
      replace HB := Lib.hid HB
      refine wp_cond_true (by rfl) ?_
      -- region 6
      have BX0 := Lib.hid bx0
      have BX1 := Lib.hid bx1
      have BX2 := Lib.hid bx2
      have BX3 := Lib.hid bx3
      have BX4 := Lib.hid bx4
      clear bx0 bx1 bx2 bx3 bx4
      refine wp_seq_k fun K hK => ?_
      replace hK := Lib.hid hK
      refine wp_region_seqplan 2 [(true, 0), (true, 1)] (by rfl) (by simp) (fun T hT => ?_)
      iterate 2
        refine wpPlan_takeL (v := ?_) rfl (by rfl) (fun w' hw => ?_) ?_
        rotate_left
        · go_simp
          with_reducible rfl
        simp only [Act.put, qA, qB, qC]
      refine wpPlan_nil (hT.out _ _ ?_); clear hT T
      intro vw5 hg
      simp only [puts, Act.put, qA, qB, qC, qD, qE, ↓reduceIte, Nat.reduceEqDiff]
      have HG := Lib.hid (hg)
      clear hg
      have bx0 := BX0.out.gr HG.out; clear BX0
      have bx1 := BX1.out.gr HG.out; clear BX1
      have bx2 := BX2.out.gr HG.out; clear BX2
      have bx3 := BX3.out.gr HG.out; clear BX3
      have bx4 := BX4.out.gr HG.out; clear BX4
      have lx4 := bx4.cells; have fx4 := bx4.free
      have r0 := Gr.refl vw5
      have BX0 := Lib.hid bx0; clear bx0
      have BX1 := Lib.hid bx1; clear bx1
      have BX2 := Lib.hid bx2; clear bx2
      have BX3 := Lib.hid bx3; clear bx3
      have BX4 := Lib.hid bx4; clear bx4
      go_wp2
      refine hK.out _ _ ?_; clear hK K
      show Code.wp _ _ _ _ _
      clear lx4 fx4
      clear r0
      refine forgetW (fun w2 => Bx w2 (w.heap.size) 38 #[.int .u64 (lo a1.num.natAbs), .string (bg a1.num.natAbs), .bool (decide (a1.num < 0)), .int .u64 (lo (a1.den - 1)), .string (bg (a1.den - 1)), .int .u64 (lo a2.num.natAbs), .string (bg a2.num.natAbs), .bool (decide (a2.num < 0)), .int .u64 (lo (a2.den - 1)), .string (bg (a2.den - 1))] ∧ Bx w2 (w.heap.size + 1) 38 #[.int .u64 (lo b1.num.natAbs), .string (bg b1.num.natAbs), .bool (decide (b1.num < 0)), .int .u64 (lo (b1.den - 1)), .string (bg (b1.den - 1)), .int .u64 (lo b2.num.natAbs), .string (bg b2.num.natAbs), .bool (decide (b2.num < 0)), .int .u64 (lo (b2.den - 1)), .string (bg (b2.den - 1))] ∧ Bx w2 (w.heap.size + 1 + 1) 38 #[.int .u64 (lo c1.num.natAbs), .string (bg c1.num.natAbs), .bool (decide (c1.num < 0)), .int .u64 (lo (c1.den - 1)), .string (bg (c1.den - 1)), .int .u64 (lo c2.num.natAbs), .string (bg c2.num.natAbs), .bool (decide (c2.num < 0)), .int .u64 (lo (c2.den - 1)), .string (bg (c2.den - 1))] ∧ Bx w2 (w.heap.size + 1 + 1 + 1) 38 #[.int .u64 (lo d1.num.natAbs), .string (bg d1.num.natAbs), .bool (decide (d1.num < 0)), .int .u64 (lo (d1.den - 1)), .string (bg (d1.den - 1)), .int .u64 (lo d2.num.natAbs), .string (bg d2.num.natAbs), .bool (decide (d2.num < 0)), .int .u64 (lo (d2.den - 1)), .string (bg (d2.den - 1))] ∧ Bx w2 (w.heap.size + 1 + 1 + 1 + 1) 38 #[.int .u64 0, .string ⟨#[]⟩, .bool false, .int .u64 0, .string ⟨#[]⟩, .int .u64 0, .string ⟨#[]⟩, .bool false, .int .u64 0, .string ⟨#[]⟩] ∧ Below w.heap.size w w2) ⟨((((((((((BX0.out).setOther (by show w.heap.size ≠ w.heap.size + 1 + 1 + 1 + 1; omega) _).setOther (by show w.heap.size ≠ w.heap.size + 1 + 1 + 1 + 1; omega) _).setOther (by show w.heap.size ≠ w.heap.size + 1 + 1 + 1 + 1; omega) _).setOther (by show w.heap.size ≠ w.heap.size + 1 + 1 + 1 + 1; omega) _).setOther (by show w.heap.size ≠ w.heap.size + 1 + 1 + 1 + 1; omega) _).setOther (by show w.heap.size ≠ w.heap.size + 1 + 1 + 1 + 1; omega) _).setOther (by show w.heap.size ≠ w.heap.size + 1 + 1 + 1 + 1; omega) _).setOther (by show w.heap.size ≠ w.heap.size + 1 + 1 + 1 + 1; omega) _).setOther (by show w.heap.size ≠ w.heap.size + 1 + 1 + 1 + 1; omega) _).setOther (by show w.heap.size ≠ w.heap.size + 1 + 1 + 1 + 1; omega) _, ((((((((((BX1.out).setOther (by show w.heap.size + 1 ≠ w.heap.size + 1 + 1 + 1 + 1; omega) _).setOther (by show w.heap.size + 1 ≠ w.heap.size + 1 + 1 + 1 + 1; omega) _).setOther (by show w.heap.size + 1 ≠ w.heap.size + 1 + 1 + 1 + 1; omega) _).setOther (by show w.heap.size + 1 ≠ w.heap.size + 1 + 1 + 1 + 1; omega) _).setOther (by show w.heap.size + 1 ≠ w.heap.size + 1 + 1 + 1 + 1; omega) _).setOther (by show w.heap.size + 1 ≠ w.heap.size + 1 + 1 + 1 + 1; omega) _).setOther (by show w.heap.size + 1 ≠ w.heap.size + 1 + 1 + 1 + 1; omega) _).setOther (by show w.heap.size + 1 ≠ w.heap.size + 1 + 1 + 1 + 1; omega) _).setOther (by show w.heap.size + 1 ≠ w.heap.size + 1 + 1 + 1 + 1; omega) _).setOther (by show w.heap.size + 1 ≠ w.heap.size + 1 + 1 + 1 + 1; omega) _, ((((((((((BX2.out).setOther (by show w.heap.size + 1 + 1 ≠ w.heap.size + 1 + 1 + 1 + 1; omega) _).setOther (by show w.heap.size + 1 + 1 ≠ w.heap.size + 1 + 1 + 1 + 1; omega) _).setOther (by show w.heap.size + 1 + 1 ≠ w.heap.size + 1 + 1 + 1 + 1; omega) _).setOther (by show w.heap.size + 1 + 1 ≠ w.heap.size + 1 + 1 + 1 + 1; omega) _).setOther (by show w.heap.size + 1 + 1 ≠ w.heap.size + 1 + 1 + 1 + 1; omega) _).setOther (by show w.heap.size + 1 + 1 ≠ w.heap.size + 1 + 1 + 1 + 1; omega) _).setOther (by show w.heap.size + 1 + 1 ≠ w.heap.size + 1 + 1 + 1 + 1; omega) _).setOther (by show w.heap.size + 1 + 1 ≠ w.heap.size + 1 + 1 + 1 + 1; omega) _).setOther (by show w.heap.size + 1 + 1 ≠ w.heap.size + 1 + 1 + 1 + 1; omega) _).setOther (by show w.heap.size + 1 + 1 ≠ w.heap.size + 1 + 1 + 1 + 1; omega) _, ((((((((((BX3.out).setOther (by show w.heap.size + 1 + 1 + 1 ≠ w.heap.size + 1 + 1 + 1 + 1; omega) _).setOther (by show w.heap.size + 1 + 1 + 1 ≠ w.heap.size + 1 + 1 + 1 + 1; omega) _).setOther (by show w.heap.size + 1 + 1 + 1 ≠ w.heap.size + 1 + 1 + 1 + 1; omega) _).setOther (by show w.heap.size + 1 + 1 + 1 ≠ w.heap.size + 1 + 1 + 1 + 1; omega) _).setOther (by show w.heap.size + 1 + 1 + 1 ≠ w.heap.size + 1 + 1 + 1 + 1; omega) _).setOther (by show w.heap.size + 1 + 1 + 1 ≠ w.heap.size + 1 + 1 + 1 + 1; omega) _).setOther (by show w.heap.size + 1 + 1 + 1 ≠ w.heap.size + 1 + 1 + 1 + 1; omega) _).setOther (by show w.heap.size + 1 + 1 + 1 ≠ w.heap.size + 1 + 1 + 1 + 1; omega) _).setOther (by show w.heap.size + 1 + 1 + 1 ≠ w.heap.size + 1 + 1 + 1 + 1; omega) _).setOther (by show w.heap.size + 1 + 1 + 1 ≠ w.heap.size + 1 + 1 + 1 + 1; omega) _, (((((((((((BX4.out).set 0 _).set 1 _).set 2 _).set 3 _).set 4 _).set 5 _).set 6 _).set 7 _).set 8 _).set 9 _).eq (by simp only [List.setIfInBounds_toArray, List.set_cons_zero, List.set_cons_succ]), ((((((((((HB.out.trans (HG.out.mono HB.out.size)).setCell (by show w.heap.size ≤ w.heap.size + 1 + 1 + 1 + 1; omega) _).setCell (by show w.heap.size ≤ w.heap.size + 1 + 1 + 1 + 1; omega) _).setCell (by show w.heap.size ≤ w.heap.size + 1 + 1 + 1 + 1; omega) _).setCell (by show w.heap.size ≤ w.heap.size + 1 + 1 + 1 + 1; omega) _).setCell (by show w.heap.size ≤ w.heap.size + 1 + 1 + 1 + 1; omega) _).setCell (by show w.heap.size ≤ w.heap.size + 1 + 1 + 1 + 1; omega) _).setCell (by show w.heap.size ≤ w.heap.size + 1 + 1 + 1 + 1; omega) _).setCell (by show w.heap.size ≤ w.heap.size + 1 + 1 + 1 + 1; omega) _).setCell (by show w.heap.size ≤ w.heap.size + 1 + 1 + 1 + 1; omega) _).setCell (by show w.heap.size ≤ w.heap.size + 1 + 1 + 1 + 1; omega) _⟩ ?_
      clear HB HG BX0 BX1 BX2 BX3 BX4
      rintro Wx6 ⟨bx0, bx1, bx2, bx3, bx4, HB⟩
      replace HB := Lib.hid HB
      refine wp_ret ?_
      try simp only [Exit.then, Exit.inBlock]
      have lx4 := bx4.cells
      have r0 := Gr.refl Wx6
      exact bodyPost_ret (v := .tuple #[.int .i64 0, (.agg #[.int .u64 0, .string ⟨#[]⟩, .bool false, .int .u64 0, .string ⟨#[]⟩, .int .u64 0, .string ⟨#[]⟩, .bool false, .int .u64 0, .string ⟨#[]⟩])]) (by simp [results, Try.results21, go_sem, lx4 _ r0]) rfl ⟨rfl, HB.out⟩
    · -- region 5
      have BX0 := Lib.hid bx0
      have BX1 := Lib.hid bx1
      have BX2 := Lib.hid bx2
      have BX3 := Lib.hid bx3
      have BX4 := Lib.hid bx4
      clear bx0 bx1 bx2 bx3 bx4
      refine wp_seq_k fun K hK => ?_
      replace hK := Lib.hid hK
      refine wp_region_seqplan 11 [(true, 0), (true, 1), (true, 2), (true, 3), (true, 4), (true, 5), (true, 6), (true, 7), (true, 8), (true, 9), (true, 10)] (by rfl) (by simp) (fun T hT => ?_)
      iterate 11
        refine wpPlan_takeL (v := ?_) rfl (by rfl) (fun w' hw => ?_) ?_
        rotate_left
        · go_simp
          with_reducible rfl
        simp only [Act.put, qA, qB, qC]
      refine wpPlan_nil (hT.out _ _ ?_); clear hT T
      intro vw4 hg
      simp only [puts, Act.put, qA, qB, qC, qD, qE, ↓reduceIte, Nat.reduceEqDiff]
      have HG := Lib.hid (hg)
      clear hg
      have bx0 := BX0.out.gr HG.out; clear BX0
      have bx1 := BX1.out.gr HG.out; clear BX1
      have bx2 := BX2.out.gr HG.out; clear BX2
      have bx3 := BX3.out.gr HG.out; clear BX3
      have bx4 := BX4.out.gr HG.out; clear BX4
      have r0 := Gr.refl vw4
      have BX0 := Lib.hid bx0; clear bx0
      have BX1 := Lib.hid bx1; clear bx1
      have BX2 := Lib.hid bx2; clear bx2
      have BX3 := Lib.hid bx3; clear bx3
      have BX4 := Lib.hid bx4; clear bx4
      go_wp2
      refine hK.out _ _ ?_; clear hK K
      show Code.wp _ _ _ _ _
      clear r0
      refine forgetW (fun w2 => Bx w2 (w.heap.size) 38 #[.int .u64 (lo a1.num.natAbs), .string (bg a1.num.natAbs), .bool (decide (a1.num < 0)), .int .u64 (lo (a1.den - 1)), .string (bg (a1.den - 1)), .int .u64 (lo a2.num.natAbs), .string (bg a2.num.natAbs), .bool (decide (a2.num < 0)), .int .u64 (lo (a2.den - 1)), .string (bg (a2.den - 1))] ∧ Bx w2 (w.heap.size + 1) 38 #[.int .u64 (lo b1.num.natAbs), .string (bg b1.num.natAbs), .bool (decide (b1.num < 0)), .int .u64 (lo (b1.den - 1)), .string (bg (b1.den - 1)), .int .u64 (lo b2.num.natAbs), .string (bg b2.num.natAbs), .bool (decide (b2.num < 0)), .int .u64 (lo (b2.den - 1)), .string (bg (b2.den - 1))] ∧ Bx w2 (w.heap.size + 1 + 1) 38 #[.int .u64 (lo c1.num.natAbs), .string (bg c1.num.natAbs), .bool (decide (c1.num < 0)), .int .u64 (lo (c1.den - 1)), .string (bg (c1.den - 1)), .int .u64 (lo c2.num.natAbs), .string (bg c2.num.natAbs), .bool (decide (c2.num < 0)), .int .u64 (lo (c2.den - 1)), .string (bg (c2.den - 1))] ∧ Bx w2 (w.heap.size + 1 + 1 + 1) 38 #[.int .u64 (lo d1.num.natAbs), .string (bg d1.num.natAbs), .bool (decide (d1.num < 0)), .int .u64 (lo (d1.den - 1)), .string (bg (d1.den - 1)), .int .u64 (lo d2.num.natAbs), .string (bg d2.num.natAbs), .bool (decide (d2.num < 0)), .int .u64 (lo (d2.den - 1)), .string (bg (d2.den - 1))] ∧ Bx w2 (w.heap.size + 1 + 1 + 1 + 1) 38 #[.int .u64 0, .string ⟨#[]⟩, .bool false, .int .u64 0, .string ⟨#[]⟩, .int .u64 0, .string ⟨#[]⟩, .bool false, .int .u64 0, .string ⟨#[]⟩] ∧ Below w.heap.size w w2) ⟨BX0.out, BX1.out, BX2.out, BX3.out, BX4.out, HB.out.trans (HG.out.mono HB.out.size)⟩ ?_
      clear HB HG BX0 BX1 BX2 BX3 BX4
      rintro Wx5 ⟨bx0, bx1, bx2, bx3, bx4, HB⟩
      replace HB := Lib.hid HB
      refine wp_cond_true (by rfl) ?_
      -- region 6
      have BX0 := Lib.hid bx0
      have BX1 := Lib.hid bx1
      have BX2 := Lib.hid bx2
      have BX3 := Lib.hid bx3
      have BX4 := Lib.hid bx4
      clear bx0 bx1 bx2 bx3 bx4
      refine wp_seq_k fun K hK => ?_
      replace hK := Lib.hid hK
      refine wp_region_seqplan 2 [(true, 0), (true, 1)] (by rfl) (by simp) (fun T hT => ?_)
      iterate 2
        refine wpPlan_takeL (v := ?_) rfl (by rfl) (fun w' hw => ?_) ?_
        rotate_left
        · go_simp
          with_reducible rfl
        simp only [Act.put, qA, qB, qC]
      refine wpPlan_nil (hT.out _ _ ?_); clear hT T
      intro vw5 hg
      simp only [puts, Act.put, qA, qB, qC, qD, qE, ↓reduceIte, Nat.reduceEqDiff]
      have HG := Lib.hid (hg)
      clear hg
      have bx0 := BX0.out.gr HG.out; clear BX0
      have bx1 := BX1.out.gr HG.out; clear BX1
      have bx2 := BX2.out.gr HG.out; clear BX2
      have bx3 := BX3.out.gr HG.out; clear BX3
      have bx4 := BX4.out.gr HG.out; clear BX4
      have lx4 := bx4.cells; have fx4 := bx4.free
      have r0 := Gr.refl vw5
      have BX0 := Lib.hid bx0; clear bx0
      have BX1 := Lib.hid bx1; clear bx1
      have BX2 := Lib.hid bx2; clear bx2
      have BX3 := Lib.hid bx3; clear bx3
      have BX4 := Lib.hid bx4; clear bx4
      go_wp2
      refine hK.out _ _ ?_; clear hK K
      show Code.wp _ _ _ _ _
      clear lx4 fx4
      clear r0
      refine forgetW (fun w2 => Bx w2 (w.heap.size) 38 #[.int .u64 (lo a1.num.natAbs), .string (bg a1.num.natAbs), .bool (decide (a1.num < 0)), .int .u64 (lo (a1.den - 1)), .string (bg (a1.den - 1)), .int .u64 (lo a2.num.natAbs), .string (bg a2.num.natAbs), .bool (decide (a2.num < 0)), .int .u64 (lo (a2.den - 1)), .string (bg (a2.den - 1))] ∧ Bx w2 (w.heap.size + 1) 38 #[.int .u64 (lo b1.num.natAbs), .string (bg b1.num.natAbs), .bool (decide (b1.num < 0)), .int .u64 (lo (b1.den - 1)), .string (bg (b1.den - 1)), .int .u64 (lo b2.num.natAbs), .string (bg b2.num.natAbs), .bool (decide (b2.num < 0)), .int .u64 (lo (b2.den - 1)), .string (bg (b2.den - 1))] ∧ Bx w2 (w.heap.size + 1 + 1) 38 #[.int .u64 (lo c1.num.natAbs), .string (bg c1.num.natAbs), .bool (decide (c1.num < 0)), .int .u64 (lo (c1.den - 1)), .string (bg (c1.den - 1)), .int .u64 (lo c2.num.natAbs), .string (bg c2.num.natAbs), .bool (decide (c2.num < 0)), .int .u64 (lo (c2.den - 1)), .string (bg (c2.den - 1))] ∧ Bx w2 (w.heap.size + 1 + 1 + 1) 38 #[.int .u64 (lo d1.num.natAbs), .string (bg d1.num.natAbs), .bool (decide (d1.num < 0)), .int .u64 (lo (d1.den - 1)), .string (bg (d1.den - 1)), .int .u64 (lo d2.num.natAbs), .string (bg d2.num.natAbs), .bool (decide (d2.num < 0)), .int .u64 (lo (d2.den - 1)), .string (bg (d2.den - 1))] ∧ Bx w2 (w.heap.size + 1 + 1 + 1 + 1) 38 #[.int .u64 0, .string ⟨#[]⟩, .bool false, .int .u64 0, .string ⟨#[]⟩, .int .u64 0, .string ⟨#[]⟩, .bool false, .int .u64 0, .string ⟨#[]⟩] ∧ Below w.heap.size w w2) ⟨((((((((((BX0.out).setOther (by show w.heap.size ≠ w.heap.size + 1 + 1 + 1 + 1; omega) _).setOther (by show w.heap.size ≠ w.heap.size + 1 + 1 + 1 + 1; omega) _).setOther (by show w.heap.size ≠ w.heap.size + 1 + 1 + 1 + 1; omega) _).setOther (by show w.heap.size ≠ w.heap.size + 1 + 1 + 1 + 1; omega) _).setOther (by show w.heap.size ≠ w.heap.size + 1 + 1 + 1 + 1; omega) _).setOther (by show w.heap.size ≠ w.heap.size + 1 + 1 + 1 + 1; omega) _).setOther (by show w.heap.size ≠ w.heap.size + 1 + 1 + 1 + 1; omega) _).setOther (by show w.heap.size ≠ w.heap.size + 1 + 1 + 1 + 1; omega) _).setOther (by show w.heap.size ≠ w.heap.size + 1 + 1 + 1 + 1; omega) _).setOther (by show w.heap.size ≠ w.heap.size + 1 + 1 + 1 + 1; omega) _, ((((((((((BX1.out).setOther (by show w.heap.size + 1 ≠ w.heap.size + 1 + 1 + 1 + 1; omega) _).setOther (by show w.heap.size + 1 ≠ w.heap.size + 1 + 1 + 1 + 1; omega) _).setOther (by show w.heap.size + 1 ≠ w.heap.size + 1 + 1 + 1 + 1; omega) _).setOther (by show w.heap.size + 1 ≠ w.heap.size + 1 + 1 + 1 + 1; omega) _).setOther (by show w.heap.size + 1 ≠ w.heap.size + 1 + 1 + 1 + 1; omega) _).setOther (by show w.heap.size + 1 ≠ w.heap.size + 1 + 1 + 1 + 1; omega) _).setOther (by show w.heap.size + 1 ≠ w.heap.size + 1 + 1 + 1 + 1; omega) _).setOther (by show w.heap.size + 1 ≠ w.heap.size + 1 + 1 + 1 + 1; omega) _).setOther (by show w.heap.size + 1 ≠ w.heap.size + 1 + 1 + 1 + 1; omega) _).setOther (by show w.heap.size + 1 ≠ w.heap.size + 1 + 1 + 1 + 1; omega) _, ((((((((((BX2.out).setOther (by show w.heap.size + 1 + 1 ≠ w.heap.size + 1 + 1 + 1 + 1; omega) _).setOther (by show w.heap.size + 1 + 1 ≠ w.heap.size + 1 + 1 + 1 + 1; omega) _).setOther (by show w.heap.size + 1 + 1 ≠ w.heap.size + 1 + 1 + 1 + 1; omega) _).setOther (by show w.heap.size + 1 + 1 ≠ w.heap.size + 1 + 1 + 1 + 1; omega) _).setOther (by show w.heap.size + 1 + 1 ≠ w.heap.size + 1 + 1 + 1 + 1; omega) _).setOther (by show w.heap.size + 1 + 1 ≠ w.heap.size + 1 + 1 + 1 + 1; omega) _).setOther (by show w.heap.size + 1 + 1 ≠ w.heap.size + 1 + 1 + 1 + 1; omega) _).setOther (by show w.heap.size + 1 + 1 ≠ w.heap.size + 1 + 1 + 1 + 1; omega) _).setOther (by show w.heap.size + 1 + 1 ≠ w.heap.size + 1 + 1 + 1 + 1; omega) _).setOther (by show w.heap.size + 1 + 1 ≠ w.heap.size + 1 + 1 + 1 + 1; omega) _, ((((((((((BX3.out).setOther (by show w.heap.size + 1 + 1 + 1 ≠ w.heap.size + 1 + 1 + 1 + 1; omega) _).setOther (by show w.heap.size + 1 + 1 + 1 ≠ w.heap.size + 1 + 1 + 1 + 1; omega) _).setOther (by show w.heap.size + 1 + 1 + 1 ≠ w.heap.size + 1 + 1 + 1 + 1; omega) _).setOther (by show w.heap.size + 1 + 1 + 1 ≠ w.heap.size + 1 + 1 + 1 + 1; omega) _).setOther (by show w.heap.size + 1 + 1 + 1 ≠ w.heap.size + 1 + 1 + 1 + 1; omega) _).setOther (by show w.heap.size + 1 + 1 + 1 ≠ w.heap.size + 1 + 1 + 1 + 1; omega) _).setOther (by show w.heap.size + 1 + 1 + 1 ≠ w.heap.size + 1 + 1 + 1 + 1; omega) _).setOther (by show w.heap.size + 1 + 1 + 1 ≠ w.heap.size + 1 + 1 + 1 + 1; omega) _).setOther (by show w.heap.size + 1 + 1 + 1 ≠ w.heap.size + 1 + 1 + 1 + 1; omega) _).setOther (by show w.heap.size + 1 + 1 + 1 ≠ w.heap.size + 1 + 1 + 1 + 1; omega) _, (((((((((((BX4.out).set 0 _).set 1 _).set 2 _).set 3 _).set 4 _).set 5 _).set 6 _).set 7 _).set 8 _).set 9 _).eq (by simp only [List.setIfInBounds_toArray, List.set_cons_zero, List.set_cons_succ]), ((((((((((HB.out.trans (HG.out.mono HB.out.size)).setCell (by show w.heap.size ≤ w.heap.size + 1 + 1 + 1 + 1; omega) _).setCell (by show w.heap.size ≤ w.heap.size + 1 + 1 + 1 + 1; omega) _).setCell (by show w.heap.size ≤ w.heap.size + 1 + 1 + 1 + 1; omega) _).setCell (by show w.heap.size ≤ w.heap.size + 1 + 1 + 1 + 1; omega) _).setCell (by show w.heap.size ≤ w.heap.size + 1 + 1 + 1 + 1; omega) _).setCell (by show w.heap.size ≤ w.heap.size + 1 + 1 + 1 + 1; omega) _).setCell (by show w.heap.size ≤ w.heap.size + 1 + 1 + 1 + 1; omega) _).setCell (by show w.heap.size ≤ w.heap.size + 1 + 1 + 1 + 1; omega) _).setCell (by show w.heap.size ≤ w.heap.size + 1 + 1 + 1 + 1; omega) _).setCell (by show w.heap.size ≤ w.heap.size + 1 + 1 + 1 + 1; omega) _⟩ ?_
      clear HB HG BX0 BX1 BX2 BX3 BX4
      rintro Wx6 ⟨bx0, bx1, bx2, bx3, bx4, HB⟩
      replace HB := Lib.hid HB
      refine wp_ret ?_
      try simp only [Exit.then, Exit.inBlock]
      have lx4 := bx4.cells
      have r0 := Gr.refl Wx6
      exact bodyPost_ret (v := .tuple #[.int .i64 0, (.agg #[.int .u64 0, .string ⟨#[]⟩, .bool false, .int .u64 0, .string ⟨#[]⟩, .int .u64 0, .string ⟨#[]⟩, .bool false, .int .u64 0, .string ⟨#[]⟩])]) (by simp [results, Try.results21, go_sem, lx4 _ r0]) rfl ⟨rfl, HB.out⟩
    · -- region 5
      have BX0 := Lib.hid bx0
      have BX1 := Lib.hid bx1
      have BX2 := Lib.hid bx2
      have BX3 := Lib.hid bx3
      have BX4 := Lib.hid bx4
      clear bx0 bx1 bx2 bx3 bx4
      refine wp_seq_k fun K hK => ?_
      replace hK := Lib.hid hK
      refine wp_region_seqplan 11 [(true, 0), (true, 1), (true, 2), (true, 3), (true, 4), (true, 5), (true, 6), (true, 7), (true, 8), (true, 9), (true, 10)] (by rfl) (by simp) (fun T hT => ?_)
      iterate 11
        refine wpPlan_takeL (v := ?_) rfl (by rfl) (fun w' hw => ?_) ?_
        rotate_left
        · go_simp
          with_reducible rfl
        simp only [Act.put, qA, qB, qC]
      refine wpPlan_nil (hT.out _ _ ?_); clear hT T
      intro vw4 hg
      simp only [puts, Act.put, qA, qB, qC, qD, qE, ↓reduceIte, Nat.reduceEqDiff]
      have HG := Lib.hid (hg)
      clear hg
      have bx0 := BX0.out.gr HG.out; clear BX0
      have bx1 := BX1.out.gr HG.out; clear BX1
      have bx2 := BX2.out.gr HG.out; clear BX2
      have bx3 := BX3.out.gr HG.out; clear BX3
      have bx4 := BX4.out.gr HG.out; clear BX4
      have r0 := Gr.refl vw4
      have BX0 := Lib.hid bx0; clear bx0
      have BX1 := Lib.hid bx1; clear bx1
      have BX2 := Lib.hid bx2; clear bx2
      have BX3 := Lib.hid bx3; clear bx3
      have BX4 := Lib.hid bx4; clear bx4
      go_wp2
      refine hK.out _ _ ?_; clear hK K
      show Code.wp _ _ _ _ _
      clear r0
      refine forgetW (fun w2 => Bx w2 (w.heap.size) 38 #[.int .u64 (lo a1.num.natAbs), .string (bg a1.num.natAbs), .bool (decide (a1.num < 0)), .int .u64 (lo (a1.den - 1)), .string (bg (a1.den - 1)), .int .u64 (lo a2.num.natAbs), .string (bg a2.num.natAbs), .bool (decide (a2.num < 0)), .int .u64 (lo (a2.den - 1)), .string (bg (a2.den - 1))] ∧ Bx w2 (w.heap.size + 1) 38 #[.int .u64 (lo b1.num.natAbs), .string (bg b1.num.natAbs), .bool (decide (b1.num < 0)), .int .u64 (lo (b1.den - 1)), .string (bg (b1.den - 1)), .int .u64 (lo b2.num.natAbs), .string (bg b2.num.natAbs), .bool (decide (b2.num < 0)), .int .u64 (lo (b2.den - 1)), .string (bg (b2.den - 1))] ∧ Bx w2 (w.heap.size + 1 + 1) 38 #[.int .u64 (lo c1.num.natAbs), .string (bg c1.num.natAbs), .bool (decide (c1.num < 0)), .int .u64 (lo (c1.den - 1)), .string (bg (c1.den - 1)), .int .u64 (lo c2.num.natAbs), .string (bg c2.num.natAbs), .bool (decide (c2.num < 0)), .int .u64 (lo (c2.den - 1)), .string (bg (c2.den - 1))] ∧ Bx w2 (w.heap.size + 1 + 1 + 1) 38 #[.int .u64 (lo d1.num.natAbs), .string (bg d1.num.natAbs), .bool (decide (d1.num < 0)), .int .u64 (lo (d1.den - 1)), .string (bg (d1.den - 1)), .int .u64 (lo d2.num.natAbs), .string (bg d2.num.natAbs), .bool (decide (d2.num < 0)), .int .u64 (lo (d2.den - 1)), .string (bg (d2.den - 1))] ∧ Bx w2 (w.heap.size + 1 + 1 + 1 + 1) 38 #[.int .u64 0, .string ⟨#[]⟩, .bool false, .int .u64 0, .string ⟨#[]⟩, .int .u64 0, .string ⟨#[]⟩, .bool false, .int .u64 0, .string ⟨#[]⟩] ∧ Below w.heap.size w w2) ⟨BX0.out, BX1.out, BX2.out, BX3.out, BX4.out, HB.out.trans (HG.out.mono HB.out.size)⟩ ?_
      clear HB HG BX0 BX1 BX2 BX3 BX4
      rintro Wx5 ⟨bx0, bx1, bx2, bx3, bx4, HB⟩
      replace HB := Lib.hid HB
      refine wp_cond_false (by rfl) ?_
      refine wp_skip ?_
      show Code.wp _ _ _ _ _
      -- region 7
      obtain ⟨u1, HZ1⟩ : ∃ z, Hid ((b1) - (a1) = z) := ⟨_, Lib.hid rfl⟩
      have su1 : sz u1 ≤ 20000001 := by rw [← HZ1.out]; have := sz_sub (b1) (a1); omega
      obtain ⟨u2, HZ2⟩ : ∃ z, Hid ((b2) - (a2) = z) := ⟨_, Lib.hid rfl⟩
      have su2 : sz u2 ≤ 20000001 := by rw [← HZ2.out]; have := sz_sub (b2) (a2); omega
      obtain ⟨u3, HZ3⟩ : ∃ z, Hid ((d1) - (c1) = z) := ⟨_, Lib.hid rfl⟩
      have su3 : sz u3 ≤ 20000001 := by rw [← HZ3.out]; have := sz_sub (d1) (c1); omega
      obtain ⟨u4, HZ4⟩ : ∃ z, Hid ((d2) - (c2) = z) := ⟨_, Lib.hid rfl⟩
      have su4 : sz u4 ≤ 20000001 := by rw [← HZ4.out]; have := sz_sub (d2) (c2); omega
      have lx0 := bx0.cells
      have lx1 := bx1.cells
      have lx2 := bx2.cells
      have lx3 := bx3.cells
      have BX0 := Lib.hid bx0
      have BX1 := Lib.hid bx1
      have BX2 := Lib.hid bx2
      have BX3 := Lib.hid bx3
      have BX4 := Lib.hid bx4
      clear bx0 bx1 bx2 bx3 bx4
      refine wp_seq_k fun K hK => ?_
      replace hK := Lib.hid hK
      refine wp_region_plan 8 [6, 7] [] (fun i => if i = 6 then 14 else 15) (fun i => if i = 6 then .cells #[.int .u64 0, .string ⟨#[]⟩, .bool false, .int .u64 0, .string ⟨#[]⟩, .int .u64 0, .string ⟨#[]⟩, .bool false, .int .u64 0, .string ⟨#[]⟩] 38 else .cells #[.int .u64 0, .string ⟨#[]⟩, .bool false, .int .u64 0, .string ⟨#[]⟩, .int .u64 0, .string ⟨#[]⟩, .bool false, .int .u64 0, .string ⟨#[]⟩] 38) [(true, 0), (true, 1), (true, 3), (true, 4), (true, 2), (true, 5)] (by kernel_rfl) (by kernel_rfl) (by intro i hi; simp only [List.mem_cons, List.not_mem_nil, or_false] at hi; rcases hi with rfl | rfl <;> exact ⟨_, rfl, rfl, rfl, by simp, fun ρ w => by kernel_rfl⟩) (fun i hi => by cases hi) (fun _ _ _ _ _ h => h) (fun T hT => ?_)
      iterate 4
        refine wpPlan_takeL (v := ?_) rfl (by rfl) (fun w' hw => ?_) ?_
        rotate_left
        · go_simp
          with_reducible rfl
        simp only [Act.put, qA, qB, qC]
      refine wpPlan_callL rfl (by rfl) Try.call8 (fun w' hw => psub_any (b1) (b2) (a1) (a2) (u1) (u2) _ HZ1.out HZ2.out (by omega) (by omega) (by omega) (by omega)) (by rfl) ?_
      simp only [Act.put, qA, qB, qC]
      refine wpPlan_callL rfl (by rfl) Try.call8 (fun w' hw => psub_any (d1) (d2) (c1) (c2) (u3) (u4) _ HZ3.out HZ4.out (by omega) (by omega) (by omega) (by omega)) (by rfl) ?_
      simp only [Act.put, qA, qB, qC]
      refine wpPlan_nil (hT.out _ _ ?_); clear hT T
      intro G vw5 hg hf
      simp only [puts, Act.put, qA, qB, qC, qD, qE, ↓reduceIte, Nat.reduceEqDiff]
      clear lx0 lx1 lx2 lx3
      have HG := Lib.hid (hg)
      clear hg
      have bx5 := Bx.of_fresh hf (i := 6) (by decide) rfl
      have yx5 := (hf.1 6 (by decide)).1
      have bx6 := Bx.of_fresh hf (i := 7) (by decide) rfl
      have yx6 := (hf.1 7 (by decide)).1
      have dx5_6 : G 6 ≠ G 7 := fun e => absurd (hf.2 6 (by decide) 7 (by decide) e) (by decide)
      clear hf
      generalize G 6 = gx5 at *
      generalize G 7 = gx6 at *
      have qx0_5 : w.heap.size < gx5 := Nat.lt_of_lt_of_le BX0.out.lt yx5
      have qx0_6 : w.heap.size < gx6 := Nat.lt_of_lt_of_le BX0.out.lt yx6
      have qx1_5 : w.heap.size + 1 < gx5 := Nat.lt_of_lt_of_le BX1.out.lt yx5
      have qx1_6 : w.heap.size + 1 < gx6 := Nat.lt_of_lt_of_le BX1.out.lt yx6
      have qx2_5 : w.heap.size + 1 + 1 < gx5 := Nat.lt_of_lt_of_le BX2.out.lt yx5
      have qx2_6 : w.heap.size + 1 + 1 < gx6 := Nat.lt_of_lt_of_le BX2.out.lt yx6
      have qx3_5 : w.heap.size + 1 + 1 + 1 < gx5 := Nat.lt_of_lt_of_le BX3.out.lt yx5
      have qx3_6 : w.heap.size + 1 + 1 + 1 < gx6 := Nat.lt_of_lt_of_le BX3.out.lt yx6
      have qx4_5 : w.heap.size + 1 + 1 + 1 + 1 < gx5 := Nat.lt_of_lt_of_le BX4.out.lt yx5
      have qx4_6 : w.heap.size + 1 + 1 + 1 + 1 < gx6 := Nat.lt_of_lt_of_le BX4.out.lt yx6
      replace yx5 : w.heap.size ≤ gx5 := Nat.le_trans HB.out.size yx5
      replace yx6 : w.heap.size ≤ gx6 := Nat.le_trans HB.out.size yx6
      have bx0 := BX0.out.gr HG.out; clear BX0
      have bx1 := BX1.out.gr HG.out; clear BX1
      have bx2 := BX2.out.gr HG.out; clear BX2
      have bx3 := BX3.out.gr HG.out; clear BX3
      have bx4 := BX4.out.gr HG.out; clear BX4
      have lx5 := bx5.cells; have fx5 := bx5.free
      have lx6 := bx6.cells; have fx6 := bx6.free
      have r0 := Gr.refl vw5
      have BX0 := Lib.hid bx0; clear bx0
      have BX1 := Lib.hid bx1; clear bx1
      have BX2 := Lib.hid bx2; clear bx2
      have BX3 := Lib.hid bx3; clear bx3
      have BX4 := Lib.hid bx4; clear bx4
      have BX5 := Lib.hid bx5; clear bx5
      have BX6 := Lib.hid bx6; clear bx6
      go_wp2
      refine hK.out _ _ ?_; clear hK K
      show Code.wp _ _ _ _ _
      clear lx5 fx5
      clear lx6 fx6
      clear r0
      refine forgetW (fun w2 => Bx w2 (w.heap.size) 38 #[.int .u64 (lo a1.num.natAbs), .string (bg a1.num.natAbs), .bool (decide (a1.num < 0)), .int .u64 (lo (a1.den - 1)), .string (bg (a1.den - 1)), .int .u64 (lo a2.num.natAbs), .string (bg a2.num.natAbs), .bool (decide (a2.num < 0)), .int .u64 (lo (a2.den - 1)), .string (bg (a2.den - 1))] ∧ Bx w2 (w.heap.size + 1 + 1) 38 #[.int .u64 (lo c1.num.natAbs), .string (bg c1.num.natAbs), .bool (decide (c1.num < 0)), .int .u64 (lo (c1.den - 1)), .string (bg (c1.den - 1)), .int .u64 (lo c2.num.natAbs), .string (bg c2.num.natAbs), .bool (decide (c2.num < 0)), .int .u64 (lo (c2.den - 1)), .string (bg (c2.den - 1))] ∧ Bx w2 (w.heap.size + 1 + 1 + 1 + 1) 38 #[.int .u64 0, .string ⟨#[]⟩, .bool false, .int .u64 0, .string ⟨#[]⟩, .int .u64 0, .string ⟨#[]⟩, .bool false, .int .u64 0, .string ⟨#[]⟩] ∧ Bx w2 gx5 38 #[.int .u64 (lo u1.num.natAbs), .string (bg u1.num.natAbs), .bool (decide (u1.num < 0)), .int .u64 (lo (u1.den - 1)), .string (bg (u1.den - 1)), .int .u64 (lo u2.num.natAbs), .string (bg u2.num.natAbs), .bool (decide (u2.num < 0)), .int .u64 (lo (u2.den - 1)), .string (bg (u2.den - 1))] ∧ Bx w2 gx6 38 #[.int .u64 (lo u3.num.natAbs), .string (bg u3.num.natAbs), .bool (decide (u3.num < 0)), .int .u64 (lo (u3.den - 1)), .string (bg (u3.den - 1)), .int .u64 (lo u4.num.natAbs), .string (bg u4.num.natAbs), .bool (decide (u4.num < 0)), .int .u64 (lo (u4.den - 1)), .string (bg (u4.den - 1))] ∧ Below w.heap.size w w2) ⟨((((((((((((((((((((BX0.out).setOther (by show w.heap.size ≠ gx5; omega) _).setOther (by show w.heap.size ≠ gx5; omega) _).setOther (by show w.heap.size ≠ gx5; omega) _).setOther (by show w.heap.size ≠ gx5; omega) _).setOther (by show w.heap.size ≠ gx5; omega) _).setOther (by show w.heap.size ≠ gx5; omega) _).setOther (by show w.heap.size ≠ gx5; omega) _).setOther (by show w.heap.size ≠ gx5; omega) _).setOther (by show w.heap.size ≠ gx5; omega) _).setOther (by show w.heap.size ≠ gx5; omega) _).setOther (by show w.heap.size ≠ gx6; omega) _).setOther (by show w.heap.size ≠ gx6; omega) _).setOther (by show w.heap.size ≠ gx6; omega) _).setOther (by show w.heap.size ≠ gx6; omega) _).setOther (by show w.heap.size ≠ gx6; omega) _).setOther (by show w.heap.size ≠ gx6; omega) _).setOther (by show w.heap.size ≠ gx6; omega) _).setOther (by show w.heap.size ≠ gx6; omega) _).setOther (by show w.heap.size ≠ gx6; omega) _).setOther (by show w.heap.size ≠ gx6; omega) _, ((((((((((((((((((((BX2.out).setOther (by show w.heap.size + 1 + 1 ≠ gx5; omega) _).setOther (by show w.heap.size + 1 + 1 ≠ gx5; omega) _).setOther (by show w.heap.size + 1 + 1 ≠ gx5; omega) _).setOther (by show w.heap.size + 1 + 1 ≠ gx5; omega) _).setOther (by show w.heap.size + 1 + 1 ≠ gx5; omega) _).setOther (by show w.heap.size + 1 + 1 ≠ gx5; omega) _).setOther (by show w.heap.size + 1 + 1 ≠ gx5; omega) _).setOther (by show w.heap.size + 1 + 1 ≠ gx5; omega) _).setOther (by show w.heap.size + 1 + 1 ≠ gx5; omega) _).setOther (by show w.heap.size + 1 + 1 ≠ gx5; omega) _).setOther (by show w.heap.size + 1 + 1 ≠ gx6; omega) _).setOther (by show w.heap.size + 1 + 1 ≠ gx6; omega) _).setOther (by show w.heap.size + 1 + 1 ≠ gx6; omega) _).setOther (by show w.heap.size + 1 + 1 ≠ gx6; omega) _).setOther (by show w.heap.size + 1 + 1 ≠ gx6; omega) _).setOther (by show w.heap.size + 1 + 1 ≠ gx6; omega) _).setOther (by show w.heap.size + 1 + 1 ≠ gx6; omega) _).setOther (by show w.heap.size + 1 + 1 ≠ gx6; omega) _).setOther (by show w.heap.size + 1 + 1 ≠ gx6; omega) _).setOther (by show w.heap.size + 1 + 1 ≠ gx6; omega) _, ((((((((((((((((((((BX4.out).setOther (by show w.heap.size + 1 + 1 + 1 + 1 ≠ gx5; omega) _).setOther (by show w.heap.size + 1 + 1 + 1 + 1 ≠ gx5; omega) _).setOther (by show w.heap.size + 1 + 1 + 1 + 1 ≠ gx5; omega) _).setOther (by show w.heap.size + 1 + 1 + 1 + 1 ≠ gx5; omega) _).setOther (by show w.heap.size + 1 + 1 + 1 + 1 ≠ gx5; omega) _).setOther (by show w.heap.size + 1 + 1 + 1 + 1 ≠ gx5; omega) _).setOther (by show w.heap.size + 1 + 1 + 1 + 1 ≠ gx5; omega) _).setOther (by show w.heap.size + 1 + 1 + 1 + 1 ≠ gx5; omega) _).setOther (by show w.heap.size + 1 + 1 + 1 + 1 ≠ gx5; omega) _).setOther (by show w.heap.size + 1 + 1 + 1 + 1 ≠ gx5; omega) _).setOther (by show w.heap.size + 1 + 1 + 1 + 1 ≠ gx6; omega) _).setOther (by show w.heap.size + 1 + 1 + 1 + 1 ≠ gx6; omega) _).setOther (by show w.heap.size + 1 + 1 + 1 + 1 ≠ gx6; omega) _).setOther (by show w.heap.size + 1 + 1 + 1 + 1 ≠ gx6; omega) _).setOther (by show w.heap.size + 1 + 1 + 1 + 1 ≠ gx6; omega) _).setOther (by show w.heap.size + 1 + 1 + 1 + 1 ≠ gx6; omega) _).setOther (by show w.heap.size + 1 + 1 + 1 + 1 ≠ gx6; omega) _).setOther (by show w.heap.size + 1 + 1 + 1 + 1 ≠ gx6; omega) _).setOther (by show w.heap.size + 1 + 1 + 1 + 1 ≠ gx6; omega) _).setOther (by show w.heap.size + 1 + 1 + 1 + 1 ≠ gx6; omega) _, (((((((((((((((((((((BX5.out).set 0 _).set 1 _).set 2 _).set 3 _).set 4 _).set 5 _).set 6 _).set 7 _).set 8 _).set 9 _).setOther (by show gx5 ≠ gx6; omega) _).setOther (by show gx5 ≠ gx6; omega) _).setOther (by show gx5 ≠ gx6; omega) _).setOther (by show gx5 ≠ gx6; omega) _).setOther (by show gx5 ≠ gx6; omega) _).setOther (by show gx5 ≠ gx6; omega) _).setOther (by show gx5 ≠ gx6; omega) _).setOther (by show gx5 ≠ gx6; omega) _).setOther (by show gx5 ≠ gx6; omega) _).setOther (by show gx5 ≠ gx6; omega) _).eq (by simp only [List.setIfInBounds_toArray, List.set_cons_zero, List.set_cons_succ]), (((((((((((((((((((((BX6.out).setOther (by show gx6 ≠ gx5; omega) _).setOther (by show gx6 ≠ gx5; omega) _).setOther (by show gx6 ≠ gx5; omega) _).setOther (by show gx6 ≠ gx5; omega) _).setOther (by show gx6 ≠ gx5; omega) _).setOther (by show gx6 ≠ gx5; omega) _).setOther (by show gx6 ≠ gx5; omega) _).setOther (by show gx6 ≠ gx5; omega) _).setOther (by show gx6 ≠ gx5; omega) _).setOther (by show gx6 ≠ gx5; omega) _).set 0 _).set 1 _).set 2 _).set 3 _).set 4 _).set 5 _).set 6 _).set 7 _).set 8 _).set 9 _).eq (by simp only [List.setIfInBounds_toArray, List.set_cons_zero, List.set_cons_succ]), ((((((((((((((((((((HB.out.trans (HG.out.mono HB.out.size)).setCell (by show w.heap.size ≤ gx5; omega) _).setCell (by show w.heap.size ≤ gx5; omega) _).setCell (by show w.heap.size ≤ gx5; omega) _).setCell (by show w.heap.size ≤ gx5; omega) _).setCell (by show w.heap.size ≤ gx5; omega) _).setCell (by show w.heap.size ≤ gx5; omega) _).setCell (by show w.heap.size ≤ gx5; omega) _).setCell (by show w.heap.size ≤ gx5; omega) _).setCell (by show w.heap.size ≤ gx5; omega) _).setCell (by show w.heap.size ≤ gx5; omega) _).setCell (by show w.heap.size ≤ gx6; omega) _).setCell (by show w.heap.size ≤ gx6; omega) _).setCell (by show w.heap.size ≤ gx6; omega) _).setCell (by show w.heap.size ≤ gx6; omega) _).setCell (by show w.heap.size ≤ gx6; omega) _).setCell (by show w.heap.size ≤ gx6; omega) _).setCell (by show w.heap.size ≤ gx6; omega) _).setCell (by show w.heap.size ≤ gx6; omega) _).setCell (by show w.heap.size ≤ gx6; omega) _).setCell (by show w.heap.size ≤ gx6; omega) _⟩ ?_
      clear HB HG BX0 BX1 BX2 BX3 BX4 BX5 BX6
      rintro Wx7 ⟨bx0, bx2, bx4, bx5, bx6, HB⟩
      replace HB := Lib.hid HB
      -- region 8
      obtain ⟨u5, HZ5⟩ : ∃ z, Hid ((c1) - (a1) = z) := ⟨_, Lib.hid rfl⟩
      have su5 : sz u5 ≤ 20000001 := by rw [← HZ5.out]; have := sz_sub (c1) (a1); omega
      obtain ⟨u6, HZ6⟩ : ∃ z, Hid ((c2) - (a2) = z) := ⟨_, Lib.hid rfl⟩
      have su6 : sz u6 ≤ 20000001 := by rw [← HZ6.out]; have := sz_sub (c2) (a2); omega
      obtain ⟨u7, HZ7⟩ : ∃ z, Hid ((u5) * (u4) - (u6) * (u3) = z) := ⟨_, Lib.hid rfl⟩
      have su7 : sz u7 ≤ 80000005 := by rw [← HZ7.out]; have := sz_cross (u5) (u6) (u3) (u4); omega
      have HZ8 : Hid ((u1) * (u4) - (u2) * (u3) = ((b1 - a1) * (d2 - c2) - (b2 - a2) * (d1 - c1))) := Lib.hid (by rw [← HZ1.out, ← HZ2.out, ← HZ3.out, ← HZ4.out])
      obtain ⟨u9, HZ9⟩ : ∃ z, Hid ((u7) / (((b1 - a1) * (d2 - c2) - (b2 - a2) * (d1 - c1))) = z) := ⟨_, Lib.hid rfl⟩
      have su9 : sz u9 ≤ 180000005 := by rw [← HZ9.out]; have := sz_div (u7) (((b1 - a1) * (d2 - c2) - (b2 - a2) * (d1 - c1))); omega
      have lx0 := bx0.cells
      have lx2 := bx2.cells
      have lx5 := bx5.cells
      have lx6 := bx6.cells
      have BX0 := Lib.hid bx0
      have BX2 := Lib.hid bx2
      have BX4 := Lib.hid bx4
      have BX5 := Lib.hid bx5
      have BX6 := Lib.hid bx6
      clear bx0 bx2 bx4 bx5 bx6
      refine wp_seq_k fun K hK => ?_
      replace hK := Lib.hid hK
      refine wp_region_plan 13 [12] [11] (fun _ => 16) (fun _ => .cells #[.int .u64 0, .string ⟨#[]⟩, .bool false, .int .u64 0, .string ⟨#[]⟩] 36) [(true, 0), (true, 1), (true, 3), (true, 5), (true, 6), (true, 2), (true, 4), (true, 7), (true, 8), (true, 9), (true, 10), (true, 11)] (by kernel_rfl) (by kernel_rfl) (by intro i hi; simp only [List.mem_cons, List.not_mem_nil, or_false] at hi; rcases hi with rfl <;> exact ⟨_, rfl, rfl, rfl, by simp, fun ρ w => by kernel_rfl⟩) (by intro i hi; simp only [List.mem_cons, List.not_mem_nil, or_false] at hi; rcases hi with rfl <;> exact ⟨_, rfl, pure_extract⟩) (fun _ _ _ _ _ h => h) (fun T hT => ?_)
      iterate 5
        refine wpPlan_takeL (v := ?_) rfl (by rfl) (fun w' hw => ?_) ?_
        rotate_left
        · go_simp
          with_reducible rfl
        simp only [Act.put, qA, qB, qC]
      refine wpPlan_callL rfl (by rfl) Try.call8 (fun w' hw => psub_any (c1) (c2) (a1) (a2) (u5) (u6) _ HZ5.out HZ6.out (by omega) (by omega) (by omega) (by omega)) (by rfl) ?_
      simp only [Act.put, qA, qB, qC]
      refine wpPlan_callL rfl (by rfl) Try.call11 (fun w' hw => pcross_any (u5) (u6) (u3) (u4) (u7) _ HZ7.out (by omega) (by omega) (by omega) (by omega)) (by rfl) ?_
      simp only [Act.put, qA, qB, qC]
      refine wpPlan_callL rfl (by rfl) Try.call11 (fun w' hw => pcross_any (u1) (u2) (u3) (u4) (((b1 - a1) * (d2 - c2) - (b2 - a2) * (d1 - c1))) _ HZ8.out (by omega) (by omega) (by omega) (by omega)) (by rfl) ?_
      simp only [Act.put, qA, qB, qC]
      refine wpPlan_callL rfl (by rfl) Try.call43 (fun w' hw => fdiv_any (u7) (((b1 - a1) * (d2 - c2) - (b2 - a2) * (d1 - c1))) (u9) _ HZ9.out hk0.out (by omega) (by omega)) (by rfl) ?_
      simp only [Act.put, qA, qB, qC]
      iterate 3
        refine wpPlan_takeL (v := ?_) rfl (by rfl) (fun w' hw => ?_) ?_
        rotate_left
        · go_simp
          with_reducible rfl
        simp only [Act.put, qA, qB, qC]
      refine wpPlan_nil (hT.out _ _ ?_); clear hT T
      intro G vw6 hg hf
      simp only [puts, Act.put, qA, qB, qC, qD, qE, ↓reduceIte, Nat.reduceEqDiff]
      clear lx0 lx2 lx5 lx6
      have HG := Lib.hid (hg)
      clear hg
      have bx7 := Bx.of_fresh hf (i := 12) (by decide) rfl
      have yx7 := (hf.1 12 (by decide)).1
      clear hf
      generalize G 12 = gx7 at *
      have qx0_7 : w.heap.size < gx7 := Nat.lt_of_lt_of_le BX0.out.lt yx7
      have qx2_7 : w.heap.size + 1 + 1 < gx7 := Nat.lt_of_lt_of_le BX2.out.lt yx7
      have qx4_7 : w.heap.size + 1 + 1 + 1 + 1 < gx7 := Nat.lt_of_lt_of_le BX4.out.lt yx7
      have qx5_7 : gx5 < gx7 := Nat.lt_of_lt_of_le BX5.out.lt yx7
      have qx6_7 : gx6 < gx7 := Nat.lt_of_lt_of_le BX6.out.lt yx7
      replace yx7 : w.heap.size ≤ gx7 := Nat.le_trans HB.out.size yx7
      have bx0 := BX0.out.gr HG.out; clear BX0
      have bx2 := BX2.out.gr HG.out; clear BX2
      have bx4 := BX4.out.gr HG.out; clear BX4
      have bx5 := BX5.out.gr HG.out; clear BX5
      have bx6 := BX6.out.gr HG.out; clear BX6
      have lx7 := bx7.cells; have fx7 := bx7.free
      have r0 := Gr.refl vw6
      have BX0 := Lib.hid bx0; clear bx0
      have BX2 := Lib.hid bx2; clear bx2
      have BX4 := Lib.hid bx4; clear bx4
      have BX5 := Lib.hid bx5; clear bx5
      have BX6 := Lib.hid bx6; clear bx6
      have BX7 := Lib.hid bx7; clear bx7
      go_wp2
      refine hK.out _ _ ?_; clear hK K
      show Code.wp _ _ _ _ _
      clear lx7 fx7
      clear r0
      refine forgetW (fun w2 => Bx w2 (w.heap.size) 38 #[.int .u64 (lo a1.num.natAbs), .string (bg a1.num.natAbs), .bool (decide (a1.num < 0)), .int .u64 (lo (a1.den - 1)), .string (bg (a1.den - 1)), .int .u64 (lo a2.num.natAbs), .string (bg a2.num.natAbs), .bool (decide (a2.num < 0)), .int .u64 (lo (a2.den - 1)), .string (bg (a2.den - 1))] ∧ Bx w2 (w.heap.size + 1 + 1 + 1 + 1) 38 #[.int .u64 0, .string ⟨#[]⟩, .bool false, .int .u64 0, .string ⟨#[]⟩, .int .u64 0, .string ⟨#[]⟩, .bool false, .int .u64 0, .string ⟨#[]⟩] ∧ Bx w2 gx5 38 #[.int .u64 (lo u1.num.natAbs), .string (bg u1.num.natAbs), .bool (decide (u1.num < 0)), .int .u64 (lo (u1.den - 1)), .string (bg (u1.den - 1)), .int .u64 (lo u2.num.natAbs), .string (bg u2.num.natAbs), .bool (decide (u2.num < 0)), .int .u64 (lo (u2.den - 1)), .string (bg (u2.den - 1))] ∧ Bx w2 gx7 36 #[.int .u64 (lo u9.num.natAbs), .string (bg u9.num.natAbs), .bool (decide (u9.num < 0)), .int .u64 (lo (u9.den - 1)), .string (bg (u9.den - 1))] ∧ Below w.heap.size w w2) ⟨(((((BX0.out).setOther (by show w.heap.size ≠ gx7; omega) _).setOther (by show w.heap.size ≠ gx7; omega) _).setOther (by show w.heap.size ≠ gx7; omega) _).setOther (by show w.heap.size ≠ gx7; omega) _).setOther (by show w.heap.size ≠ gx7; omega) _, (((((BX4.out).setOther (by show w.heap.size + 1 + 1 + 1 + 1 ≠ gx7; omega) _).setOther (by show w.heap.size + 1 + 1 + 1 + 1 ≠ gx7; omega) _).setOther (by show w.heap.size + 1 + 1 + 1 + 1 ≠ gx7; omega) _).setOther (by show w.heap.size + 1 + 1 + 1 + 1 ≠ gx7; omega) _).setOther (by show w.heap.size + 1 + 1 + 1 + 1 ≠ gx7; omega) _, (((((BX5.out).setOther (by show gx5 ≠ gx7; omega) _).setOther (by show gx5 ≠ gx7; omega) _).setOther (by show gx5 ≠ gx7; omega) _).setOther (by show gx5 ≠ gx7; omega) _).setOther (by show gx5 ≠ gx7; omega) _, ((((((BX7.out).set 0 _).set 1 _).set 2 _).set 3 _).set 4 _).eq (by simp only [List.setIfInBounds_toArray, List.set_cons_zero, List.set_cons_succ]), (((((HB.out.trans (HG.out.mono HB.out.size)).setCell (by show w.heap.size ≤ gx7; omega) _).setCell (by show w.heap.size ≤ gx7; omega) _).setCell (by show w.heap.size ≤ gx7; omega) _).setCell (by show w.heap.size ≤ gx7; omega) _).setCell (by show w.heap.size ≤ gx7; omega) _⟩ ?_
      clear HB HG BX0 BX2 BX4 BX5 BX6 BX7
      rintro Wx8 ⟨bx0, bx4, bx5, bx7, HB⟩
      replace HB := Lib.hid HB
      -- region 9
      obtain ⟨u10, HZ10⟩ : ∃ z, Hid ((u1) * (u9) = z) := ⟨_, Lib.hid rfl⟩
      have su10 : sz u10 ≤ 200000006 := by rw [← HZ10.out]; have := sz_mul (u1) (u9); omega
      obtain ⟨u11, HZ11⟩ : ∃ z, Hid ((u2) * (u9) = z) := ⟨_, Lib.hid rfl⟩
      have su11 : sz u11 ≤ 200000006 := by rw [← HZ11.out]; have := sz_mul (u2) (u9); omega
      have HZ12 : Hid ((a1) + (u10) = m1) := Lib.hid (by rw [← HZ10.out, ← HZ9.out, ← HZ7.out, ← HZ6.out, ← HZ5.out, ← HZ4.out, ← HZ3.out, ← HZ1.out]; exact hm1.out)
      have HZ13 : Hid ((a2) + (u11) = m2) := Lib.hid (by rw [← HZ11.out, ← HZ9.out, ← HZ7.out, ← HZ6.out, ← HZ5.out, ← HZ4.out, ← HZ3.out, ← HZ2.out]; exact hm2.out)
      have lx0 := bx0.cells
      have lx5 := bx5.cells
      have lx7 := bx7.cells
      have BX0 := Lib.hid bx0
      have BX4 := Lib.hid bx4
      have BX5 := Lib.hid bx5
      have BX7 := Lib.hid bx7
      clear bx0 bx4 bx5 bx7
      refine wp_seq_k fun K hK => ?_
      replace hK := Lib.hid hK
      refine wp_region_plan 6 [] [] (fun _ => 0) (fun _ => .cells #[] 0) [(true, 0), (true, 1), (true, 2), (true, 3), (true, 4), (true, 5)] (by kernel_rfl) (by kernel_rfl) (fun i hi => by cases hi) (fun i hi => by cases hi) (fun _ _ _ _ _ h => h) (fun T hT => ?_)
      iterate 3
        refine wpPlan_takeL (v := ?_) rfl (by rfl) (fun w' hw => ?_) ?_
        rotate_left
        · go_simp
          with_reducible rfl
        simp only [Act.put, qA, qB, qC]
      refine wpPlan_callL rfl (by rfl) Try.call18 (fun w' hw => pscale_any (u1) (u2) (u9) (u10) (u11) _ HZ10.out HZ11.out (by omega) (by omega) (by omega)) (by rfl) ?_
      simp only [Act.put, qA, qB, qC]
      refine wpPlan_callL rfl (by rfl) Try.call14 (fun w' hw => padd_any (a1) (a2) (u10) (u11) (m1) (m2) _ HZ12.out HZ13.out (by omega) (by omega) (by omega) (by omega)) (by rfl) ?_
      simp only [Act.put, qA, qB, qC]
      iterate 1
        refine wpPlan_takeL (v := ?_) rfl (by rfl) (fun w' hw => ?_) ?_
        rotate_left
        · go_simp
          with_reducible rfl
        simp only [Act.put, qA, qB, qC]
      refine wpPlan_nil (hT.out _ _ ?_); clear hT T
      intro G vw7 hg hf
      simp only [puts, Act.put, qA, qB, qC, qD, qE, ↓reduceIte, Nat.reduceEqDiff]
      clear lx0 lx5 lx7
      have HG := Lib.hid (hg)
      clear hg
      have bx0 := BX0.out.gr HG.out; clear BX0
      have bx4 := BX4.out.gr HG.out; clear BX4
      have bx5 := BX5.out.gr HG.out; clear BX5
      have bx7 := BX7.out.gr HG.out; clear BX7
      have lx4 := bx4.cells; have fx4 := bx4.free
      have r0 := Gr.refl vw7
      have BX0 := Lib.hid bx0; clear bx0
      have BX4 := Lib.hid bx4; clear bx4
      have BX5 := Lib.hid bx5; clear bx5
      have BX7 := Lib.hid bx7; clear bx7
      go_wp2
      refine hK.out _ _ ?_; clear hK K
      show Code.wp _ _ _ _ _
      clear lx4 fx4
      clear r0
      refine forgetW (fun w2 => Bx w2 (w.heap.size + 1 + 1 + 1 + 1) 38 #[.int .u64 (lo m1.num.natAbs), .string (bg m1.num.natAbs), .bool (decide (m1.num < 0)), .int .u64 (lo (m1.den - 1)), .string (bg (m1.den - 1)), .int .u64 (lo m2.num.natAbs), .string (bg m2.num.natAbs), .bool (decide (m2.num < 0)), .int .u64 (lo (m2.den - 1)), .string (bg (m2.den - 1))] ∧ Below w.heap.size w w2) ⟨(((((((((((BX4.out).set 0 _).set 1 _).set 2 _).set 3 _).set 4 _).set 5 _).set 6 _).set 7 _).set 8 _).set 9 _).eq (by simp only [List.setIfInBounds_toArray, List.set_cons_zero, List.set_cons_succ]), ((((((((((HB.out.trans (HG.out.mono HB.out.size)).setCell (by show w.heap.size ≤ w.heap.size + 1 + 1 + 1 + 1; omega) _).setCell (by show w.heap.size ≤ w.heap.size + 1 + 1 + 1 + 1; omega) _).setCell (by show w.heap.size ≤ w.heap.size + 1 + 1 + 1 + 1; omega) _).setCell (by show w.heap.size ≤ w.heap.size + 1 + 1 + 1 + 1; omega) _).setCell (by show w.heap.size ≤ w.heap.size + 1 + 1 + 1 + 1; omega) _).setCell (by show w.heap.size ≤ w.heap.size + 1 + 1 + 1 + 1; omega) _).setCell (by show w.heap.size ≤ w.heap.size + 1 + 1 + 1 + 1; omega) _).setCell (by show w.heap.size ≤ w.heap.size + 1 + 1 + 1 + 1; omega) _).setCell (by show w.heap.size ≤ w.heap.size + 1 + 1 + 1 + 1; omega) _).setCell (by show w.heap.size ≤ w.heap.size + 1 + 1 + 1 + 1; omega) _⟩ ?_
      clear HB HG BX0 BX4 BX5 BX7
      rintro Wx9 ⟨bx4, HB⟩
      replace HB := Lib.hid HB
      refine wp_ret ?_
      try simp only [Exit.then, Exit.inBlock]
      have lx4 := bx4.cells
      have r0 := Gr.refl Wx9
      exact bodyPost_ret (v := .tuple #[.int .i64 1, (.agg #[.int .u64 (lo m1.num.natAbs), .string (bg m1.num.natAbs), .bool (decide (m1.num < 0)), .int .u64 (lo (m1.den - 1)), .string (bg (m1.den - 1)), .int .u64 (lo m2.num.natAbs), .string (bg m2.num.natAbs), .bool (decide (m2.num < 0)), .int .u64 (lo (m2.den - 1)), .string (bg (m2.den - 1))])]) (by simp [results, Try.results21, go_sem, lx4 _ r0]) rfl ⟨rfl, HB.out⟩

end Go.Proofs.Ytenpbnmmadbkdaa
