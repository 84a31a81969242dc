/- The row's proof: 8 texts in one. No condition but those stated. -/
import Derived.Test.YtenpbnmmadbkdaaGreatG6

/- points.Cut: collinear; one point. -/
namespace Go.Proofs.YtenpbnmmadbkdaaGreat
open Go.RowKit
-- short cells
set_option linter.unusedSimpArgs false
set_option linter.unusedVariables false
attribute [local go_sem ↓] Go.wp_at_zero Go.wp_at_succ
attribute [local go_sem ↓] eq_nat eq_nat_zero eq_int eq_frac eq_pt
set_option maxHeartbeats 4000000 in
theorem pcut_piece (a1 a2 b1 b2 c1 c2 d1 d2 : Rat) (t1 t2 t3 t4 : Int) (n : Int) (m1 m2 : Rat) (w : World) (ht1 : Hid (turn a1 a2 b1 b2 c1 c2 = t1)) (ht2 : Hid (turn a1 a2 b1 b2 d1 d2 = t2)) (ht3 : Hid (turn c1 c2 d1 d2 a1 a2 = t3)) (ht4 : Hid (turn c1 c2 d1 d2 b1 b2 = t4)) (z1 : (t1 == 0) = true) (z2 : (t2 == 0) = true) (z3 : (t3 == 0) = true) (z4 : (t4 == 0) = true) (h : Hid (pieceV (a1, a2) (b1, b2) (c1, c2) (d1, d2) = (n, (m1, m2)))) (hs_a1 : sz a1 ≤ 10000000) (hs_a2 : sz a2 ≤ 10000000) (hs_b1 : sz b1 ≤ 10000000) (hs_b2 : sz b2 ≤ 10000000) (hs_c1 : sz c1 ≤ 10000000) (hs_c2 : sz c2 ≤ 10000000) (hs_d1 : sz d1 ≤ 10000000) (hs_d2 : sz d2 ≤ 10000000) :
    Calls Tryz.prog 32 #[(Value.agg #[.int .u64 (lo a1.num.natAbs), .string (bg a1.num.natAbs), .bool (decide (a1.num < 0)), .int .u64 (lo (a1.den - 1)), .string (bg (a1.den - 1)), .int .u64 (lo a2.num.natAbs), .string (bg a2.num.natAbs), .bool (decide (a2.num < 0)), .int .u64 (lo (a2.den - 1)), .string (bg (a2.den - 1))]), (Value.agg #[.int .u64 (lo b1.num.natAbs), .string (bg b1.num.natAbs), .bool (decide (b1.num < 0)), .int .u64 (lo (b1.den - 1)), .string (bg (b1.den - 1)), .int .u64 (lo b2.num.natAbs), .string (bg b2.num.natAbs), .bool (decide (b2.num < 0)), .int .u64 (lo (b2.den - 1)), .string (bg (b2.den - 1))]), (Value.agg #[.int .u64 (lo c1.num.natAbs), .string (bg c1.num.natAbs), .bool (decide (c1.num < 0)), .int .u64 (lo (c1.den - 1)), .string (bg (c1.den - 1)), .int .u64 (lo c2.num.natAbs), .string (bg c2.num.natAbs), .bool (decide (c2.num < 0)), .int .u64 (lo (c2.den - 1)), .string (bg (c2.den - 1))]), (Value.agg #[.int .u64 (lo d1.num.natAbs), .string (bg d1.num.natAbs), .bool (decide (d1.num < 0)), .int .u64 (lo (d1.den - 1)), .string (bg (d1.den - 1)), .int .u64 (lo d2.num.natAbs), .string (bg d2.num.natAbs), .bool (decide (d2.num < 0)), .int .u64 (lo (d2.den - 1)), .string (bg (d2.den - 1))])] w fun e w' => e = .returned (.tuple #[.int .i64 (n), (.agg #[.int .u64 (lo m1.num.natAbs), .string (bg m1.num.natAbs), .bool (decide (m1.num < 0)), .int .u64 (lo (m1.den - 1)), .string (bg (m1.den - 1)), .int .u64 (lo m2.num.natAbs), .string (bg m2.num.natAbs), .bool (decide (m2.num < 0)), .int .u64 (lo (m2.den - 1)), .string (bg (m2.den - 1))])]) ∧ Below w.heap.size w w' := by
  go_enter Tryz.func32, Tryz.ntmps32
  -- region 0
  refine wp_seq_k fun K hK => ?_
  replace hK := Lib.hid hK
  refine wp_region_lit ?_
  go_wp2
  refine hK.out _ _ ?_; clear hK K
  show Code.wp _ _ _ _ _
  refine forgetW (fun w2 => Bx w2 (w.heap.size) 38 #[.int .u64 (lo a1.num.natAbs), .string (bg a1.num.natAbs), .bool (decide (a1.num < 0)), .int .u64 (lo (a1.den - 1)), .string (bg (a1.den - 1)), .int .u64 (lo a2.num.natAbs), .string (bg a2.num.natAbs), .bool (decide (a2.num < 0)), .int .u64 (lo (a2.den - 1)), .string (bg (a2.den - 1))] ∧ Bx w2 (w.heap.size + 1) 38 #[.int .u64 (lo b1.num.natAbs), .string (bg b1.num.natAbs), .bool (decide (b1.num < 0)), .int .u64 (lo (b1.den - 1)), .string (bg (b1.den - 1)), .int .u64 (lo b2.num.natAbs), .string (bg b2.num.natAbs), .bool (decide (b2.num < 0)), .int .u64 (lo (b2.den - 1)), .string (bg (b2.den - 1))] ∧ Bx w2 (w.heap.size + 1 + 1) 38 #[.int .u64 (lo c1.num.natAbs), .string (bg c1.num.natAbs), .bool (decide (c1.num < 0)), .int .u64 (lo (c1.den - 1)), .string (bg (c1.den - 1)), .int .u64 (lo c2.num.natAbs), .string (bg c2.num.natAbs), .bool (decide (c2.num < 0)), .int .u64 (lo (c2.den - 1)), .string (bg (c2.den - 1))] ∧ Bx w2 (w.heap.size + 1 + 1 + 1) 38 #[.int .u64 (lo d1.num.natAbs), .string (bg d1.num.natAbs), .bool (decide (d1.num < 0)), .int .u64 (lo (d1.den - 1)), .string (bg (d1.den - 1)), .int .u64 (lo d2.num.natAbs), .string (bg d2.num.natAbs), .bool (decide (d2.num < 0)), .int .u64 (lo (d2.den - 1)), .string (bg (d2.den - 1))] ∧ Bx w2 (w.heap.size + 1 + 1 + 1 + 1) 38 #[.int .u64 0, .string ⟨#[]⟩, .bool false, .int .u64 0, .string ⟨#[]⟩, .int .u64 0, .string ⟨#[]⟩, .bool false, .int .u64 0, .string ⟨#[]⟩] ∧ Below w.heap.size w w2) ⟨((((Bx.at rfl).alloc _).alloc _).alloc _).alloc _, (((Bx.at (by simp)).alloc _).alloc _).alloc _, ((Bx.at (by simp)).alloc _).alloc _, (Bx.at (by simp)).alloc _, Bx.at (by simp), (((((Below.refl _ _).alloc (Nat.le_refl _) _).alloc (by simp) _).alloc (by simp; omega) _).alloc (by simp; omega) _).alloc (by simp; omega) _⟩ ?_
  rintro Wx ⟨bx0, bx1, bx2, bx3, bx4, HB⟩
  replace HB := Lib.hid HB
  -- region 1
  have lx0 := bx0.cells
  have lx1 := bx1.cells
  have lx2 := bx2.cells
  have lx3 := bx3.cells
  have BX0 := Lib.hid bx0
  have BX1 := Lib.hid bx1
  have BX2 := Lib.hid bx2
  have BX3 := Lib.hid bx3
  have BX4 := Lib.hid bx4
  clear bx0 bx1 bx2 bx3 bx4
  refine wp_seq_k fun K hK => ?_
  replace hK := Lib.hid hK
  refine wp_region_plan 9 [] [] (fun _ => 0) (fun _ => .cells #[] 0) [(true, 0), (true, 1), (true, 2), (true, 4), (true, 5), (true, 6), (true, 3), (true, 7), (true, 8)] (by kernel_rfl) (by kernel_rfl) (fun i hi => by cases hi) (fun i hi => by cases hi) (fun _ _ _ _ _ h => h) (fun T hT => ?_)
  iterate 6
    refine wpPlan_takeL (v := ?_) rfl (by rfl) (fun w' hw => ?_) ?_
    rotate_left
    · go_simp
      with_reducible rfl
    simp only [Act.put, qA, qB, qC]
  refine wpPlan_callL rfl (by rfl) Tryz.call6 (fun w' hw => pturn_any (a1) (a2) (b1) (b2) (c1) (c2) (t1) _ (ht1.out) (by omega) (by omega) (by omega) (by omega) (by omega) (by omega)) (by rfl) ?_
  simp only [Act.put, qA, qB, qC]
  refine wpPlan_callL rfl (by rfl) Tryz.call6 (fun w' hw => pturn_any (a1) (a2) (b1) (b2) (d1) (d2) (t2) _ (ht2.out) (by omega) (by omega) (by omega) (by omega) (by omega) (by omega)) (by rfl) ?_
  simp only [Act.put, qA, qB, qC]
  iterate 1
    refine wpPlan_takeL (v := ?_) rfl (by rfl) (fun w' hw => ?_) ?_
    rotate_left
    · go_simp
      with_reducible rfl
    simp only [Act.put, qA, qB, qC]
  refine wpPlan_nil (hT.out _ _ ?_); clear hT T
  intro G vw1 hg hf
  simp only [puts, Act.put, qA, qB, qC, qD, qE, ↓reduceIte, Nat.reduceEqDiff]
  clear lx0 lx1 lx2 lx3
  have HG := Lib.hid (hg)
  clear hg
  replace BX0 := bG BX0 HG
  replace BX1 := bG BX1 HG
  replace BX2 := bG BX2 HG
  replace BX3 := bG BX3 HG
  replace BX4 := bG BX4 HG
  have r0 := Gr.refl vw1
  go_wp2
  refine hK.out _ _ ?_; clear hK K
  show Code.wp _ _ _ _ _
  clear r0
  refine forgetW (fun w2 => Bx w2 (w.heap.size) 38 #[.int .u64 (lo a1.num.natAbs), .string (bg a1.num.natAbs), .bool (decide (a1.num < 0)), .int .u64 (lo (a1.den - 1)), .string (bg (a1.den - 1)), .int .u64 (lo a2.num.natAbs), .string (bg a2.num.natAbs), .bool (decide (a2.num < 0)), .int .u64 (lo (a2.den - 1)), .string (bg (a2.den - 1))] ∧ Bx w2 (w.heap.size + 1) 38 #[.int .u64 (lo b1.num.natAbs), .string (bg b1.num.natAbs), .bool (decide (b1.num < 0)), .int .u64 (lo (b1.den - 1)), .string (bg (b1.den - 1)), .int .u64 (lo b2.num.natAbs), .string (bg b2.num.natAbs), .bool (decide (b2.num < 0)), .int .u64 (lo (b2.den - 1)), .string (bg (b2.den - 1))] ∧ Bx w2 (w.heap.size + 1 + 1) 38 #[.int .u64 (lo c1.num.natAbs), .string (bg c1.num.natAbs), .bool (decide (c1.num < 0)), .int .u64 (lo (c1.den - 1)), .string (bg (c1.den - 1)), .int .u64 (lo c2.num.natAbs), .string (bg c2.num.natAbs), .bool (decide (c2.num < 0)), .int .u64 (lo (c2.den - 1)), .string (bg (c2.den - 1))] ∧ Bx w2 (w.heap.size + 1 + 1 + 1) 38 #[.int .u64 (lo d1.num.natAbs), .string (bg d1.num.natAbs), .bool (decide (d1.num < 0)), .int .u64 (lo (d1.den - 1)), .string (bg (d1.den - 1)), .int .u64 (lo d2.num.natAbs), .string (bg d2.num.natAbs), .bool (decide (d2.num < 0)), .int .u64 (lo (d2.den - 1)), .string (bg (d2.den - 1))] ∧ Bx w2 (w.heap.size + 1 + 1 + 1 + 1) 38 #[.int .u64 0, .string ⟨#[]⟩, .bool false, .int .u64 0, .string ⟨#[]⟩, .int .u64 0, .string ⟨#[]⟩, .bool false, .int .u64 0, .string ⟨#[]⟩] ∧ Below w.heap.size w w2) ⟨BX0.out, BX1.out, BX2.out, BX3.out, BX4.out, HB.out.trans (HG.out.mono HB.out.size)⟩ ?_
  clear HB HG BX0 BX1 BX2 BX3 BX4
  rintro Wx1 ⟨bx0, bx1, bx2, bx3, bx4, HB⟩
  replace HB := Lib.hid HB
  -- region 2
  have lx0 := bx0.cells
  have lx1 := bx1.cells
  have lx2 := bx2.cells
  have lx3 := bx3.cells
  have BX0 := Lib.hid bx0
  have BX1 := Lib.hid bx1
  have BX2 := Lib.hid bx2
  have BX3 := Lib.hid bx3
  have BX4 := Lib.hid bx4
  clear bx0 bx1 bx2 bx3 bx4
  refine wp_seq_k fun K hK => ?_
  replace hK := Lib.hid hK
  refine wp_region_plan 9 [] [] (fun _ => 0) (fun _ => .cells #[] 0) [(true, 0), (true, 1), (true, 2), (true, 4), (true, 5), (true, 6), (true, 3), (true, 7), (true, 8)] (by kernel_rfl) (by kernel_rfl) (fun i hi => by cases hi) (fun i hi => by cases hi) (fun _ _ _ _ _ h => h) (fun T hT => ?_)
  iterate 6
    refine wpPlan_takeL (v := ?_) rfl (by rfl) (fun w' hw => ?_) ?_
    rotate_left
    · go_simp
      with_reducible rfl
    simp only [Act.put, qA, qB, qC]
  refine wpPlan_callL rfl (by rfl) Tryz.call6 (fun w' hw => pturn_any (c1) (c2) (d1) (d2) (a1) (a2) (t3) _ (ht3.out) (by omega) (by omega) (by omega) (by omega) (by omega) (by omega)) (by rfl) ?_
  simp only [Act.put, qA, qB, qC]
  refine wpPlan_callL rfl (by rfl) Tryz.call6 (fun w' hw => pturn_any (c1) (c2) (d1) (d2) (b1) (b2) (t4) _ (ht4.out) (by omega) (by omega) (by omega) (by omega) (by omega) (by omega)) (by rfl) ?_
  simp only [Act.put, qA, qB, qC]
  iterate 1
    refine wpPlan_takeL (v := ?_) rfl (by rfl) (fun w' hw => ?_) ?_
    rotate_left
    · go_simp
      with_reducible rfl
    simp only [Act.put, qA, qB, qC]
  refine wpPlan_nil (hT.out _ _ ?_); clear hT T
  intro G vw2 hg hf
  simp only [puts, Act.put, qA, qB, qC, qD, qE, ↓reduceIte, Nat.reduceEqDiff]
  clear lx0 lx1 lx2 lx3
  have HG := Lib.hid (hg)
  clear hg
  replace BX0 := bG BX0 HG
  replace BX1 := bG BX1 HG
  replace BX2 := bG BX2 HG
  replace BX3 := bG BX3 HG
  replace BX4 := bG BX4 HG
  have r0 := Gr.refl vw2
  go_wp2
  refine hK.out _ _ ?_; clear hK K
  show Code.wp _ _ _ _ _
  clear r0
  refine forgetW (fun w2 => Bx w2 (w.heap.size) 38 #[.int .u64 (lo a1.num.natAbs), .string (bg a1.num.natAbs), .bool (decide (a1.num < 0)), .int .u64 (lo (a1.den - 1)), .string (bg (a1.den - 1)), .int .u64 (lo a2.num.natAbs), .string (bg a2.num.natAbs), .bool (decide (a2.num < 0)), .int .u64 (lo (a2.den - 1)), .string (bg (a2.den - 1))] ∧ Bx w2 (w.heap.size + 1) 38 #[.int .u64 (lo b1.num.natAbs), .string (bg b1.num.natAbs), .bool (decide (b1.num < 0)), .int .u64 (lo (b1.den - 1)), .string (bg (b1.den - 1)), .int .u64 (lo b2.num.natAbs), .string (bg b2.num.natAbs), .bool (decide (b2.num < 0)), .int .u64 (lo (b2.den - 1)), .string (bg (b2.den - 1))] ∧ Bx w2 (w.heap.size + 1 + 1) 38 #[.int .u64 (lo c1.num.natAbs), .string (bg c1.num.natAbs), .bool (decide (c1.num < 0)), .int .u64 (lo (c1.den - 1)), .string (bg (c1.den - 1)), .int .u64 (lo c2.num.natAbs), .string (bg c2.num.natAbs), .bool (decide (c2.num < 0)), .int .u64 (lo (c2.den - 1)), .string (bg (c2.den - 1))] ∧ Bx w2 (w.heap.size + 1 + 1 + 1) 38 #[.int .u64 (lo d1.num.natAbs), .string (bg d1.num.natAbs), .bool (decide (d1.num < 0)), .int .u64 (lo (d1.den - 1)), .string (bg (d1.den - 1)), .int .u64 (lo d2.num.natAbs), .string (bg d2.num.natAbs), .bool (decide (d2.num < 0)), .int .u64 (lo (d2.den - 1)), .string (bg (d2.den - 1))] ∧ Bx w2 (w.heap.size + 1 + 1 + 1 + 1) 38 #[.int .u64 0, .string ⟨#[]⟩, .bool false, .int .u64 0, .string ⟨#[]⟩, .int .u64 0, .string ⟨#[]⟩, .bool false, .int .u64 0, .string ⟨#[]⟩] ∧ Below w.heap.size w w2) ⟨BX0.out, BX1.out, BX2.out, BX3.out, BX4.out, HB.out.trans (HG.out.mono HB.out.size)⟩ ?_
  clear HB HG BX0 BX1 BX2 BX3 BX4
  rintro Wx2 ⟨bx0, bx1, bx2, bx3, bx4, HB⟩
  replace HB := Lib.hid HB
  refine wp_seq ?_
  refine wp_block ?_
  -- region 3
  have BX0 := Lib.hid bx0
  have BX1 := Lib.hid bx1
  have BX2 := Lib.hid bx2
  have BX3 := Lib.hid bx3
  have BX4 := Lib.hid bx4
  clear bx0 bx1 bx2 bx3 bx4
  refine wp_seq_k fun K hK => ?_
  replace hK := Lib.hid hK
  refine wp_region_seqplan 15 [(true, 0), (true, 1), (true, 2), (true, 3), (true, 4), (true, 5), (true, 6), (true, 7), (true, 8), (true, 9), (true, 10), (true, 11), (true, 12), (true, 13), (true, 14)] (by rfl) (by simp) (fun T hT => ?_)
  iterate 15
    refine wpPlan_takeL (v := ?_) rfl (by rfl) (fun w' hw => ?_) ?_
    rotate_left
    · go_simp
      with_reducible rfl
    simp only [Act.put, qA, qB, qC]
  refine wpPlan_nil (hT.out _ _ ?_); clear hT T
  intro vw3 hg
  simp only [puts, Act.put, qA, qB, qC, qD, qE, ↓reduceIte, Nat.reduceEqDiff]
  have HG := Lib.hid (hg)
  clear hg
  replace BX0 := bG BX0 HG
  replace BX1 := bG BX1 HG
  replace BX2 := bG BX2 HG
  replace BX3 := bG BX3 HG
  replace BX4 := bG BX4 HG
  have r0 := Gr.refl vw3
  go_wp2
  refine hK.out _ _ ?_; clear hK K
  show Code.wp _ _ _ _ _
  clear r0
  refine forgetW (fun w2 => Bx w2 (w.heap.size) 38 #[.int .u64 (lo a1.num.natAbs), .string (bg a1.num.natAbs), .bool (decide (a1.num < 0)), .int .u64 (lo (a1.den - 1)), .string (bg (a1.den - 1)), .int .u64 (lo a2.num.natAbs), .string (bg a2.num.natAbs), .bool (decide (a2.num < 0)), .int .u64 (lo (a2.den - 1)), .string (bg (a2.den - 1))] ∧ Bx w2 (w.heap.size + 1) 38 #[.int .u64 (lo b1.num.natAbs), .string (bg b1.num.natAbs), .bool (decide (b1.num < 0)), .int .u64 (lo (b1.den - 1)), .string (bg (b1.den - 1)), .int .u64 (lo b2.num.natAbs), .string (bg b2.num.natAbs), .bool (decide (b2.num < 0)), .int .u64 (lo (b2.den - 1)), .string (bg (b2.den - 1))] ∧ Bx w2 (w.heap.size + 1 + 1) 38 #[.int .u64 (lo c1.num.natAbs), .string (bg c1.num.natAbs), .bool (decide (c1.num < 0)), .int .u64 (lo (c1.den - 1)), .string (bg (c1.den - 1)), .int .u64 (lo c2.num.natAbs), .string (bg c2.num.natAbs), .bool (decide (c2.num < 0)), .int .u64 (lo (c2.den - 1)), .string (bg (c2.den - 1))] ∧ Bx w2 (w.heap.size + 1 + 1 + 1) 38 #[.int .u64 (lo d1.num.natAbs), .string (bg d1.num.natAbs), .bool (decide (d1.num < 0)), .int .u64 (lo (d1.den - 1)), .string (bg (d1.den - 1)), .int .u64 (lo d2.num.natAbs), .string (bg d2.num.natAbs), .bool (decide (d2.num < 0)), .int .u64 (lo (d2.den - 1)), .string (bg (d2.den - 1))] ∧ Bx w2 (w.heap.size + 1 + 1 + 1 + 1) 38 #[.int .u64 0, .string ⟨#[]⟩, .bool false, .int .u64 0, .string ⟨#[]⟩, .int .u64 0, .string ⟨#[]⟩, .bool false, .int .u64 0, .string ⟨#[]⟩] ∧ Below w.heap.size w w2) ⟨BX0.out, BX1.out, BX2.out, BX3.out, BX4.out, HB.out.trans (HG.out.mono HB.out.size)⟩ ?_
  clear HB HG BX0 BX1 BX2 BX3 BX4
  rintro Wx3 ⟨bx0, bx1, bx2, bx3, bx4, HB⟩
  replace HB := Lib.hid HB
  refine wp_cond_true (by rfl) ?_
  -- region 4
  have lx0 := bx0.cells
  have lx1 := bx1.cells
  have lx2 := bx2.cells
  have lx3 := bx3.cells
  have BX0 := Lib.hid bx0
  have BX1 := Lib.hid bx1
  have BX2 := Lib.hid bx2
  have BX3 := Lib.hid bx3
  have BX4 := Lib.hid bx4
  clear bx0 bx1 bx2 bx3 bx4
  refine wp_seq_k fun K hK => ?_
  replace hK := Lib.hid hK
  refine wp_region_seqplan 8 [(true, 0), (true, 1), (true, 2), (true, 3), (true, 4), (true, 5), (true, 6), (true, 7)] (by rfl) (by simp) (fun T hT => ?_)
  iterate 4
    refine wpPlan_takeL (v := ?_) rfl (by rfl) (fun w' hw => ?_) ?_
    rotate_left
    · go_simp
      with_reducible rfl
    simp only [Act.put, qA, qB, qC]
  refine wpPlan_callL rfl (by rfl) Tryz.call56 (fun w' hw => ppiece_any (a1, a2) (b1, b2) (c1, c2) (d1, d2) (n) (m1, m2) _ (h.out) ⟨by show sz (a1) ≤ 100000000; omega, by show sz (a2) ≤ 100000000; omega⟩ ⟨by show sz (b1) ≤ 100000000; omega, by show sz (b2) ≤ 100000000; omega⟩ ⟨by show sz (c1) ≤ 100000000; omega, by show sz (c2) ≤ 100000000; omega⟩ ⟨by show sz (d1) ≤ 100000000; omega, by show sz (d2) ≤ 100000000; omega⟩) (by rfl) ?_
  simp only [Act.put, qA, qB, qC]
  iterate 3
    refine wpPlan_takeL (v := ?_) rfl (by rfl) (fun w' hw => ?_) ?_
    rotate_left
    · go_simp
      with_reducible rfl
    simp only [Act.put, qA, qB, qC]
  refine wpPlan_nil (hT.out _ _ ?_); clear hT T
  intro vw4 hg
  simp only [puts, Act.put, qA, qB, qC, qD, qE, ↓reduceIte, Nat.reduceEqDiff]
  clear lx0 lx1 lx2 lx3
  have HG := Lib.hid (hg)
  clear hg
  replace BX0 := bG BX0 HG
  replace BX1 := bG BX1 HG
  replace BX2 := bG BX2 HG
  replace BX3 := bG BX3 HG
  replace BX4 := bG BX4 HG
  have lx4 := BX4.out.cells; have fx4 := BX4.out.free
  have r0 := Gr.refl vw4
  go_wp2
  refine hK.out _ _ ?_; clear hK K
  show Code.wp _ _ _ _ _
  clear lx4 fx4
  clear r0
  refine forgetW (fun w2 => Bx w2 (w.heap.size) 38 #[.int .u64 (lo a1.num.natAbs), .string (bg a1.num.natAbs), .bool (decide (a1.num < 0)), .int .u64 (lo (a1.den - 1)), .string (bg (a1.den - 1)), .int .u64 (lo a2.num.natAbs), .string (bg a2.num.natAbs), .bool (decide (a2.num < 0)), .int .u64 (lo (a2.den - 1)), .string (bg (a2.den - 1))] ∧ Bx w2 (w.heap.size + 1) 38 #[.int .u64 (lo b1.num.natAbs), .string (bg b1.num.natAbs), .bool (decide (b1.num < 0)), .int .u64 (lo (b1.den - 1)), .string (bg (b1.den - 1)), .int .u64 (lo b2.num.natAbs), .string (bg b2.num.natAbs), .bool (decide (b2.num < 0)), .int .u64 (lo (b2.den - 1)), .string (bg (b2.den - 1))] ∧ Bx w2 (w.heap.size + 1 + 1) 38 #[.int .u64 (lo c1.num.natAbs), .string (bg c1.num.natAbs), .bool (decide (c1.num < 0)), .int .u64 (lo (c1.den - 1)), .string (bg (c1.den - 1)), .int .u64 (lo c2.num.natAbs), .string (bg c2.num.natAbs), .bool (decide (c2.num < 0)), .int .u64 (lo (c2.den - 1)), .string (bg (c2.den - 1))] ∧ Bx w2 (w.heap.size + 1 + 1 + 1) 38 #[.int .u64 (lo d1.num.natAbs), .string (bg d1.num.natAbs), .bool (decide (d1.num < 0)), .int .u64 (lo (d1.den - 1)), .string (bg (d1.den - 1)), .int .u64 (lo d2.num.natAbs), .string (bg d2.num.natAbs), .bool (decide (d2.num < 0)), .int .u64 (lo (d2.den - 1)), .string (bg (d2.den - 1))] ∧ Bx w2 (w.heap.size + 1 + 1 + 1 + 1) 38 #[.int .u64 (lo m1.num.natAbs), .string (bg m1.num.natAbs), .bool (decide (m1.num < 0)), .int .u64 (lo (m1.den - 1)), .string (bg (m1.den - 1)), .int .u64 (lo m2.num.natAbs), .string (bg m2.num.natAbs), .bool (decide (m2.num < 0)), .int .u64 (lo (m2.den - 1)), .string (bg (m2.den - 1))] ∧ Below w.heap.size w w2) ⟨so10 (BX0.out) (by show w.heap.size ≠ w.heap.size + 1 + 1 + 1 + 1; omega), so10 (BX1.out) (by show w.heap.size + 1 ≠ w.heap.size + 1 + 1 + 1 + 1; omega), so10 (BX2.out) (by show w.heap.size + 1 + 1 ≠ w.heap.size + 1 + 1 + 1 + 1; omega), so10 (BX3.out) (by show w.heap.size + 1 + 1 + 1 ≠ w.heap.size + 1 + 1 + 1 + 1; omega), (((((((((((BX4.out).set 0 _).set 1 _).set 2 _).set 3 _).set 4 _).set 5 _).set 6 _).set 7 _).set 8 _).set 9 _).eq (by simp only [rA, rB, rC]), sc10 (HB.out.trans (HG.out.mono HB.out.size)) (by show w.heap.size ≤ w.heap.size + 1 + 1 + 1 + 1; omega)⟩ ?_
  clear HB HG BX0 BX1 BX2 BX3 BX4
  rintro Wx4 ⟨bx0, bx1, bx2, bx3, bx4, HB⟩
  replace HB := Lib.hid HB
  refine wp_ret ?_
  try simp only [Exit.then, Exit.inBlock]
  have lx4 := bx4.cells
  have r0 := Gr.refl Wx4
  exact bodyPost_ret (v := .tuple #[.int .i64 (n), (.agg #[.int .u64 (lo m1.num.natAbs), .string (bg m1.num.natAbs), .bool (decide (m1.num < 0)), .int .u64 (lo (m1.den - 1)), .string (bg (m1.den - 1)), .int .u64 (lo m2.num.natAbs), .string (bg m2.num.natAbs), .bool (decide (m2.num < 0)), .int .u64 (lo (m2.den - 1)), .string (bg (m2.den - 1))])]) (by simp [results, Tryz.results32, go_sem, lx4 _ r0]) rfl ⟨rfl, HB.out⟩

set_option maxHeartbeats 4000000 in
theorem pcut_one_0 (a1 a2 b1 b2 c1 c2 d1 d2 : Rat) (t1 t2 t3 t4 : Int) (p : Int) (q : Int) (k m1 m2 : Rat) (w : World) (ht1 : Hid (turn a1 a2 b1 b2 c1 c2 = t1)) (ht2 : Hid (turn a1 a2 b1 b2 d1 d2 = t2)) (ht3 : Hid (turn c1 c2 d1 d2 a1 a2 = t3)) (ht4 : Hid (turn c1 c2 d1 d2 b1 b2 = t4)) (z1 : (t1 == 0) = false) (hp : IntKind.i64.wrap (t1 * t2) = p) (hq : IntKind.i64.wrap (t3 * t4) = q) (g1 : decide (0 < p) = false) (g2 : decide (0 < q) = false) (hk : Hid ((b1 - a1) * (d2 - c2) - (b2 - a2) * (d1 - c1) = k)) (hk0 : Hid (k ≠ 0)) (hs_k : sz k ≤ 100000000) (hm1 : Hid (a1 + (b1 - a1) * (((c1 - a1) * (d2 - c2) - (c2 - a2) * (d1 - c1)) / k) = m1)) (hm2 : Hid (a2 + (b2 - a2) * (((c1 - a1) * (d2 - c2) - (c2 - a2) * (d1 - c1)) / k) = m2)) (hs_a1 : sz a1 ≤ 10000000) (hs_a2 : sz a2 ≤ 10000000) (hs_b1 : sz b1 ≤ 10000000) (hs_b2 : sz b2 ≤ 10000000) (hs_c1 : sz c1 ≤ 10000000) (hs_c2 : sz c2 ≤ 10000000) (hs_d1 : sz d1 ≤ 10000000) (hs_d2 : sz d2 ≤ 10000000) :
    Calls Tryz.prog 32 #[(Value.agg #[.int .u64 (lo a1.num.natAbs), .string (bg a1.num.natAbs), .bool (decide (a1.num < 0)), .int .u64 (lo (a1.den - 1)), .string (bg (a1.den - 1)), .int .u64 (lo a2.num.natAbs), .string (bg a2.num.natAbs), .bool (decide (a2.num < 0)), .int .u64 (lo (a2.den - 1)), .string (bg (a2.den - 1))]), (Value.agg #[.int .u64 (lo b1.num.natAbs), .string (bg b1.num.natAbs), .bool (decide (b1.num < 0)), .int .u64 (lo (b1.den - 1)), .string (bg (b1.den - 1)), .int .u64 (lo b2.num.natAbs), .string (bg b2.num.natAbs), .bool (decide (b2.num < 0)), .int .u64 (lo (b2.den - 1)), .string (bg (b2.den - 1))]), (Value.agg #[.int .u64 (lo c1.num.natAbs), .string (bg c1.num.natAbs), .bool (decide (c1.num < 0)), .int .u64 (lo (c1.den - 1)), .string (bg (c1.den - 1)), .int .u64 (lo c2.num.natAbs), .string (bg c2.num.natAbs), .bool (decide (c2.num < 0)), .int .u64 (lo (c2.den - 1)), .string (bg (c2.den - 1))]), (Value.agg #[.int .u64 (lo d1.num.natAbs), .string (bg d1.num.natAbs), .bool (decide (d1.num < 0)), .int .u64 (lo (d1.den - 1)), .string (bg (d1.den - 1)), .int .u64 (lo d2.num.natAbs), .string (bg d2.num.natAbs), .bool (decide (d2.num < 0)), .int .u64 (lo (d2.den - 1)), .string (bg (d2.den - 1))])] w fun e w' => e = .returned (.tuple #[.int .i64 1, (.agg #[.int .u64 (lo m1.num.natAbs), .string (bg m1.num.natAbs), .bool (decide (m1.num < 0)), .int .u64 (lo (m1.den - 1)), .string (bg (m1.den - 1)), .int .u64 (lo m2.num.natAbs), .string (bg m2.num.natAbs), .bool (decide (m2.num < 0)), .int .u64 (lo (m2.den - 1)), .string (bg (m2.den - 1))])]) ∧ Below w.heap.size w w' := by
  go_enter Tryz.func32, Tryz.ntmps32
  -- region 0
  refine wp_seq_k fun K hK => ?_
  replace hK := Lib.hid hK
  refine wp_region_lit ?_
  go_wp2
  refine hK.out _ _ ?_; clear hK K
  show Code.wp _ _ _ _ _
  refine forgetW (fun w2 => Bx w2 (w.heap.size) 38 #[.int .u64 (lo a1.num.natAbs), .string (bg a1.num.natAbs), .bool (decide (a1.num < 0)), .int .u64 (lo (a1.den - 1)), .string (bg (a1.den - 1)), .int .u64 (lo a2.num.natAbs), .string (bg a2.num.natAbs), .bool (decide (a2.num < 0)), .int .u64 (lo (a2.den - 1)), .string (bg (a2.den - 1))] ∧ Bx w2 (w.heap.size + 1) 38 #[.int .u64 (lo b1.num.natAbs), .string (bg b1.num.natAbs), .bool (decide (b1.num < 0)), .int .u64 (lo (b1.den - 1)), .string (bg (b1.den - 1)), .int .u64 (lo b2.num.natAbs), .string (bg b2.num.natAbs), .bool (decide (b2.num < 0)), .int .u64 (lo (b2.den - 1)), .string (bg (b2.den - 1))] ∧ Bx w2 (w.heap.size + 1 + 1) 38 #[.int .u64 (lo c1.num.natAbs), .string (bg c1.num.natAbs), .bool (decide (c1.num < 0)), .int .u64 (lo (c1.den - 1)), .string (bg (c1.den - 1)), .int .u64 (lo c2.num.natAbs), .string (bg c2.num.natAbs), .bool (decide (c2.num < 0)), .int .u64 (lo (c2.den - 1)), .string (bg (c2.den - 1))] ∧ Bx w2 (w.heap.size + 1 + 1 + 1) 38 #[.int .u64 (lo d1.num.natAbs), .string (bg d1.num.natAbs), .bool (decide (d1.num < 0)), .int .u64 (lo (d1.den - 1)), .string (bg (d1.den - 1)), .int .u64 (lo d2.num.natAbs), .string (bg d2.num.natAbs), .bool (decide (d2.num < 0)), .int .u64 (lo (d2.den - 1)), .string (bg (d2.den - 1))] ∧ Bx w2 (w.heap.size + 1 + 1 + 1 + 1) 38 #[.int .u64 0, .string ⟨#[]⟩, .bool false, .int .u64 0, .string ⟨#[]⟩, .int .u64 0, .string ⟨#[]⟩, .bool false, .int .u64 0, .string ⟨#[]⟩] ∧ Below w.heap.size w w2) ⟨((((Bx.at rfl).alloc _).alloc _).alloc _).alloc _, (((Bx.at (by simp)).alloc _).alloc _).alloc _, ((Bx.at (by simp)).alloc _).alloc _, (Bx.at (by simp)).alloc _, Bx.at (by simp), (((((Below.refl _ _).alloc (Nat.le_refl _) _).alloc (by simp) _).alloc (by simp; omega) _).alloc (by simp; omega) _).alloc (by simp; omega) _⟩ ?_
  rintro Wx ⟨bx0, bx1, bx2, bx3, bx4, HB⟩
  replace HB := Lib.hid HB
  -- region 1
  have lx0 := bx0.cells
  have lx1 := bx1.cells
  have lx2 := bx2.cells
  have lx3 := bx3.cells
  have BX0 := Lib.hid bx0
  have BX1 := Lib.hid bx1
  have BX2 := Lib.hid bx2
  have BX3 := Lib.hid bx3
  have BX4 := Lib.hid bx4
  clear bx0 bx1 bx2 bx3 bx4
  refine wp_seq_k fun K hK => ?_
  replace hK := Lib.hid hK
  refine wp_region_plan 9 [] [] (fun _ => 0) (fun _ => .cells #[] 0) [(true, 0), (true, 1), (true, 2), (true, 4), (true, 5), (true, 6), (true, 3), (true, 7), (true, 8)] (by kernel_rfl) (by kernel_rfl) (fun i hi => by cases hi) (fun i hi => by cases hi) (fun _ _ _ _ _ h => h) (fun T hT => ?_)
  iterate 6
    refine wpPlan_takeL (v := ?_) rfl (by rfl) (fun w' hw => ?_) ?_
    rotate_left
    · go_simp
      with_reducible rfl
    simp only [Act.put, qA, qB, qC]
  refine wpPlan_callL rfl (by rfl) Tryz.call6 (fun w' hw => pturn_any (a1) (a2) (b1) (b2) (c1) (c2) (t1) _ (ht1.out) (by omega) (by omega) (by omega) (by omega) (by omega) (by omega)) (by rfl) ?_
  simp only [Act.put, qA, qB, qC]
  refine wpPlan_callL rfl (by rfl) Tryz.call6 (fun w' hw => pturn_any (a1) (a2) (b1) (b2) (d1) (d2) (t2) _ (ht2.out) (by omega) (by omega) (by omega) (by omega) (by omega) (by omega)) (by rfl) ?_
  simp only [Act.put, qA, qB, qC]
  iterate 1
    refine wpPlan_takeL (v := ?_) rfl (by rfl) (fun w' hw => ?_) ?_
    rotate_left
    · go_simp
      with_reducible rfl
    simp only [Act.put, qA, qB, qC]
  refine wpPlan_nil (hT.out _ _ ?_); clear hT T
  intro G vw1 hg hf
  simp only [puts, Act.put, qA, qB, qC, qD, qE, ↓reduceIte, Nat.reduceEqDiff]
  clear lx0 lx1 lx2 lx3
  have HG := Lib.hid (hg)
  clear hg
  replace BX0 := bG BX0 HG
  replace BX1 := bG BX1 HG
  replace BX2 := bG BX2 HG
  replace BX3 := bG BX3 HG
  replace BX4 := bG BX4 HG
  have r0 := Gr.refl vw1
  go_wp2
  refine hK.out _ _ ?_; clear hK K
  show Code.wp _ _ _ _ _
  clear r0
  refine forgetW (fun w2 => Bx w2 (w.heap.size) 38 #[.int .u64 (lo a1.num.natAbs), .string (bg a1.num.natAbs), .bool (decide (a1.num < 0)), .int .u64 (lo (a1.den - 1)), .string (bg (a1.den - 1)), .int .u64 (lo a2.num.natAbs), .string (bg a2.num.natAbs), .bool (decide (a2.num < 0)), .int .u64 (lo (a2.den - 1)), .string (bg (a2.den - 1))] ∧ Bx w2 (w.heap.size + 1) 38 #[.int .u64 (lo b1.num.natAbs), .string (bg b1.num.natAbs), .bool (decide (b1.num < 0)), .int .u64 (lo (b1.den - 1)), .string (bg (b1.den - 1)), .int .u64 (lo b2.num.natAbs), .string (bg b2.num.natAbs), .bool (decide (b2.num < 0)), .int .u64 (lo (b2.den - 1)), .string (bg (b2.den - 1))] ∧ Bx w2 (w.heap.size + 1 + 1) 38 #[.int .u64 (lo c1.num.natAbs), .string (bg c1.num.natAbs), .bool (decide (c1.num < 0)), .int .u64 (lo (c1.den - 1)), .string (bg (c1.den - 1)), .int .u64 (lo c2.num.natAbs), .string (bg c2.num.natAbs), .bool (decide (c2.num < 0)), .int .u64 (lo (c2.den - 1)), .string (bg (c2.den - 1))] ∧ Bx w2 (w.heap.size + 1 + 1 + 1) 38 #[.int .u64 (lo d1.num.natAbs), .string (bg d1.num.natAbs), .bool (decide (d1.num < 0)), .int .u64 (lo (d1.den - 1)), .string (bg (d1.den - 1)), .int .u64 (lo d2.num.natAbs), .string (bg d2.num.natAbs), .bool (decide (d2.num < 0)), .int .u64 (lo (d2.den - 1)), .string (bg (d2.den - 1))] ∧ Bx w2 (w.heap.size + 1 + 1 + 1 + 1) 38 #[.int .u64 0, .string ⟨#[]⟩, .bool false, .int .u64 0, .string ⟨#[]⟩, .int .u64 0, .string ⟨#[]⟩, .bool false, .int .u64 0, .string ⟨#[]⟩] ∧ Below w.heap.size w w2) ⟨BX0.out, BX1.out, BX2.out, BX3.out, BX4.out, HB.out.trans (HG.out.mono HB.out.size)⟩ ?_
  clear HB HG BX0 BX1 BX2 BX3 BX4
  rintro Wx1 ⟨bx0, bx1, bx2, bx3, bx4, HB⟩
  replace HB := Lib.hid HB
  -- region 2
  have lx0 := bx0.cells
  have lx1 := bx1.cells
  have lx2 := bx2.cells
  have lx3 := bx3.cells
  have BX0 := Lib.hid bx0
  have BX1 := Lib.hid bx1
  have BX2 := Lib.hid bx2
  have BX3 := Lib.hid bx3
  have BX4 := Lib.hid bx4
  clear bx0 bx1 bx2 bx3 bx4
  refine wp_seq_k fun K hK => ?_
  replace hK := Lib.hid hK
  refine wp_region_plan 9 [] [] (fun _ => 0) (fun _ => .cells #[] 0) [(true, 0), (true, 1), (true, 2), (true, 4), (true, 5), (true, 6), (true, 3), (true, 7), (true, 8)] (by kernel_rfl) (by kernel_rfl) (fun i hi => by cases hi) (fun i hi => by cases hi) (fun _ _ _ _ _ h => h) (fun T hT => ?_)
  iterate 6
    refine wpPlan_takeL (v := ?_) rfl (by rfl) (fun w' hw => ?_) ?_
    rotate_left
    · go_simp
      with_reducible rfl
    simp only [Act.put, qA, qB, qC]
  refine wpPlan_callL rfl (by rfl) Tryz.call6 (fun w' hw => pturn_any (c1) (c2) (d1) (d2) (a1) (a2) (t3) _ (ht3.out) (by omega) (by omega) (by omega) (by omega) (by omega) (by omega)) (by rfl) ?_
  simp only [Act.put, qA, qB, qC]
  refine wpPlan_callL rfl (by rfl) Tryz.call6 (fun w' hw => pturn_any (c1) (c2) (d1) (d2) (b1) (b2) (t4) _ (ht4.out) (by omega) (by omega) (by omega) (by omega) (by omega) (by omega)) (by rfl) ?_
  simp only [Act.put, qA, qB, qC]
  iterate 1
    refine wpPlan_takeL (v := ?_) rfl (by rfl) (fun w' hw => ?_) ?_
    rotate_left
    · go_simp
      with_reducible rfl
    simp only [Act.put, qA, qB, qC]
  refine wpPlan_nil (hT.out _ _ ?_); clear hT T
  intro G vw2 hg hf
  simp only [puts, Act.put, qA, qB, qC, qD, qE, ↓reduceIte, Nat.reduceEqDiff]
  clear lx0 lx1 lx2 lx3
  have HG := Lib.hid (hg)
  clear hg
  replace BX0 := bG BX0 HG
  replace BX1 := bG BX1 HG
  replace BX2 := bG BX2 HG
  replace BX3 := bG BX3 HG
  replace BX4 := bG BX4 HG
  have r0 := Gr.refl vw2
  go_wp2
  refine hK.out _ _ ?_; clear hK K
  show Code.wp _ _ _ _ _
  clear r0
  refine forgetW (fun w2 => Bx w2 (w.heap.size) 38 #[.int .u64 (lo a1.num.natAbs), .string (bg a1.num.natAbs), .bool (decide (a1.num < 0)), .int .u64 (lo (a1.den - 1)), .string (bg (a1.den - 1)), .int .u64 (lo a2.num.natAbs), .string (bg a2.num.natAbs), .bool (decide (a2.num < 0)), .int .u64 (lo (a2.den - 1)), .string (bg (a2.den - 1))] ∧ Bx w2 (w.heap.size + 1) 38 #[.int .u64 (lo b1.num.natAbs), .string (bg b1.num.natAbs), .bool (decide (b1.num < 0)), .int .u64 (lo (b1.den - 1)), .string (bg (b1.den - 1)), .int .u64 (lo b2.num.natAbs), .string (bg b2.num.natAbs), .bool (decide (b2.num < 0)), .int .u64 (lo (b2.den - 1)), .string (bg (b2.den - 1))] ∧ Bx w2 (w.heap.size + 1 + 1) 38 #[.int .u64 (lo c1.num.natAbs), .string (bg c1.num.natAbs), .bool (decide (c1.num < 0)), .int .u64 (lo (c1.den - 1)), .string (bg (c1.den - 1)), .int .u64 (lo c2.num.natAbs), .string (bg c2.num.natAbs), .bool (decide (c2.num < 0)), .int .u64 (lo (c2.den - 1)), .string (bg (c2.den - 1))] ∧ Bx w2 (w.heap.size + 1 + 1 + 1) 38 #[.int .u64 (lo d1.num.natAbs), .string (bg d1.num.natAbs), .bool (decide (d1.num < 0)), .int .u64 (lo (d1.den - 1)), .string (bg (d1.den - 1)), .int .u64 (lo d2.num.natAbs), .string (bg d2.num.natAbs), .bool (decide (d2.num < 0)), .int .u64 (lo (d2.den - 1)), .string (bg (d2.den - 1))] ∧ Bx w2 (w.heap.size + 1 + 1 + 1 + 1) 38 #[.int .u64 0, .string ⟨#[]⟩, .bool false, .int .u64 0, .string ⟨#[]⟩, .int .u64 0, .string ⟨#[]⟩, .bool false, .int .u64 0, .string ⟨#[]⟩] ∧ Below w.heap.size w w2) ⟨BX0.out, BX1.out, BX2.out, BX3.out, BX4.out, HB.out.trans (HG.out.mono HB.out.size)⟩ ?_
  clear HB HG BX0 BX1 BX2 BX3 BX4
  rintro Wx2 ⟨bx0, bx1, bx2, bx3, bx4, HB⟩
  replace HB := Lib.hid HB
  refine wp_seq ?_
  refine wp_block ?_
  -- region 3
  have BX0 := Lib.hid bx0
  have BX1 := Lib.hid bx1
  have BX2 := Lib.hid bx2
  have BX3 := Lib.hid bx3
  have BX4 := Lib.hid bx4
  clear bx0 bx1 bx2 bx3 bx4
  refine wp_seq_k fun K hK => ?_
  replace hK := Lib.hid hK
  refine wp_region_seqplan 15 [(true, 0), (true, 1), (true, 2), (true, 3), (true, 4), (true, 5), (true, 6), (true, 7), (true, 8), (true, 9), (true, 10), (true, 11), (true, 12), (true, 13), (true, 14)] (by rfl) (by simp) (fun T hT => ?_)
  iterate 3
    refine wpPlan_takeL (v := ?_) rfl (by rfl) (fun w' hw => ?_) ?_
    rotate_left
    · go_simp
      with_reducible rfl
    simp only [Act.put, qA, qB, qC]
  refine wpPlan_skipL rfl (by rfl) ?_
  simp only [Act.put, qA, qB, qC]
  refine wpPlan_skipL rfl (by rfl) ?_
  simp only [Act.put, qA, qB, qC]
  iterate 2
    refine wpPlan_takeL (v := ?_) rfl (by rfl) (fun w' hw => ?_) ?_
    rotate_left
    · go_simp
      with_reducible rfl
    simp only [Act.put, qA, qB, qC]
  refine wpPlan_skipL rfl (by rfl) ?_
  simp only [Act.put, qA, qB, qC]
  refine wpPlan_skipL rfl (by rfl) ?_
  simp only [Act.put, qA, qB, qC]
  iterate 2
    refine wpPlan_takeL (v := ?_) rfl (by rfl) (fun w' hw => ?_) ?_
    rotate_left
    · go_simp
      with_reducible rfl
    simp only [Act.put, qA, qB, qC]
  refine wpPlan_skipL rfl (by rfl) ?_
  simp only [Act.put, qA, qB, qC]
  refine wpPlan_skipL rfl (by rfl) ?_
  simp only [Act.put, qA, qB, qC]
  iterate 2
    refine wpPlan_takeL (v := ?_) rfl (by rfl) (fun w' hw => ?_) ?_
    rotate_left
    · go_simp
      with_reducible rfl
    simp only [Act.put, qA, qB, qC]
  refine wpPlan_nil (hT.out _ _ ?_); clear hT T
  intro vw3 hg
  simp only [puts, Act.put, qA, qB, qC, qD, qE, ↓reduceIte, Nat.reduceEqDiff]
  have HG := Lib.hid (hg)
  clear hg
  replace BX0 := bG BX0 HG
  replace BX1 := bG BX1 HG
  replace BX2 := bG BX2 HG
  replace BX3 := bG BX3 HG
  replace BX4 := bG BX4 HG
  have r0 := Gr.refl vw3
  go_wp2
  refine hK.out _ _ ?_; clear hK K
  show Code.wp _ _ _ _ _
  clear r0
  refine forgetW (fun w2 => Bx w2 (w.heap.size) 38 #[.int .u64 (lo a1.num.natAbs), .string (bg a1.num.natAbs), .bool (decide (a1.num < 0)), .int .u64 (lo (a1.den - 1)), .string (bg (a1.den - 1)), .int .u64 (lo a2.num.natAbs), .string (bg a2.num.natAbs), .bool (decide (a2.num < 0)), .int .u64 (lo (a2.den - 1)), .string (bg (a2.den - 1))] ∧ Bx w2 (w.heap.size + 1) 38 #[.int .u64 (lo b1.num.natAbs), .string (bg b1.num.natAbs), .bool (decide (b1.num < 0)), .int .u64 (lo (b1.den - 1)), .string (bg (b1.den - 1)), .int .u64 (lo b2.num.natAbs), .string (bg b2.num.natAbs), .bool (decide (b2.num < 0)), .int .u64 (lo (b2.den - 1)), .string (bg (b2.den - 1))] ∧ Bx w2 (w.heap.size + 1 + 1) 38 #[.int .u64 (lo c1.num.natAbs), .string (bg c1.num.natAbs), .bool (decide (c1.num < 0)), .int .u64 (lo (c1.den - 1)), .string (bg (c1.den - 1)), .int .u64 (lo c2.num.natAbs), .string (bg c2.num.natAbs), .bool (decide (c2.num < 0)), .int .u64 (lo (c2.den - 1)), .string (bg (c2.den - 1))] ∧ Bx w2 (w.heap.size + 1 + 1 + 1) 38 #[.int .u64 (lo d1.num.natAbs), .string (bg d1.num.natAbs), .bool (decide (d1.num < 0)), .int .u64 (lo (d1.den - 1)), .string (bg (d1.den - 1)), .int .u64 (lo d2.num.natAbs), .string (bg d2.num.natAbs), .bool (decide (d2.num < 0)), .int .u64 (lo (d2.den - 1)), .string (bg (d2.den - 1))] ∧ Bx w2 (w.heap.size + 1 + 1 + 1 + 1) 38 #[.int .u64 0, .string ⟨#[]⟩, .bool false, .int .u64 0, .string ⟨#[]⟩, .int .u64 0, .string ⟨#[]⟩, .bool false, .int .u64 0, .string ⟨#[]⟩] ∧ Below w.heap.size w w2) ⟨BX0.out, BX1.out, BX2.out, BX3.out, BX4.out, HB.out.trans (HG.out.mono HB.out.size)⟩ ?_
  clear HB HG BX0 BX1 BX2 BX3 BX4
  rintro Wx3 ⟨bx0, bx1, bx2, bx3, bx4, HB⟩
  replace HB := Lib.hid HB
  refine wp_cond_false (by rfl) ?_
  -- region 5
  have BX0 := Lib.hid bx0
  have BX1 := Lib.hid bx1
  have BX2 := Lib.hid bx2
  have BX3 := Lib.hid bx3
  have BX4 := Lib.hid bx4
  clear bx0 bx1 bx2 bx3 bx4
  refine wp_seq_k fun K hK => ?_
  replace hK := Lib.hid hK
  refine wp_region_seqplan 11 [(true, 0), (true, 1), (true, 2), (true, 3), (true, 4), (true, 5), (true, 6), (true, 7), (true, 8), (true, 9), (true, 10)] (by rfl) (by simp) (fun T hT => ?_)
  iterate 11
    refine wpPlan_takeL (v := ?_) rfl (by rfl) (fun w' hw => ?_) ?_
    rotate_left
    · go_simp
      with_reducible rfl
    simp only [Act.put, qA, qB, qC]
  refine wpPlan_nil (hT.out _ _ ?_); clear hT T
  intro vw4 hg
  simp only [puts, Act.put, qA, qB, qC, qD, qE, ↓reduceIte, Nat.reduceEqDiff]
  have HG := Lib.hid (hg)
  clear hg
  replace BX0 := bG BX0 HG
  replace BX1 := bG BX1 HG
  replace BX2 := bG BX2 HG
  replace BX3 := bG BX3 HG
  replace BX4 := bG BX4 HG
  have r0 := Gr.refl vw4
  go_wp2
  refine hK.out _ _ ?_; clear hK K
  show Code.wp _ _ _ _ _
  clear r0
  refine forgetW (fun w2 => Bx w2 (w.heap.size) 38 #[.int .u64 (lo a1.num.natAbs), .string (bg a1.num.natAbs), .bool (decide (a1.num < 0)), .int .u64 (lo (a1.den - 1)), .string (bg (a1.den - 1)), .int .u64 (lo a2.num.natAbs), .string (bg a2.num.natAbs), .bool (decide (a2.num < 0)), .int .u64 (lo (a2.den - 1)), .string (bg (a2.den - 1))] ∧ Bx w2 (w.heap.size + 1) 38 #[.int .u64 (lo b1.num.natAbs), .string (bg b1.num.natAbs), .bool (decide (b1.num < 0)), .int .u64 (lo (b1.den - 1)), .string (bg (b1.den - 1)), .int .u64 (lo b2.num.natAbs), .string (bg b2.num.natAbs), .bool (decide (b2.num < 0)), .int .u64 (lo (b2.den - 1)), .string (bg (b2.den - 1))] ∧ Bx w2 (w.heap.size + 1 + 1) 38 #[.int .u64 (lo c1.num.natAbs), .string (bg c1.num.natAbs), .bool (decide (c1.num < 0)), .int .u64 (lo (c1.den - 1)), .string (bg (c1.den - 1)), .int .u64 (lo c2.num.natAbs), .string (bg c2.num.natAbs), .bool (decide (c2.num < 0)), .int .u64 (lo (c2.den - 1)), .string (bg (c2.den - 1))] ∧ Bx w2 (w.heap.size + 1 + 1 + 1) 38 #[.int .u64 (lo d1.num.natAbs), .string (bg d1.num.natAbs), .bool (decide (d1.num < 0)), .int .u64 (lo (d1.den - 1)), .string (bg (d1.den - 1)), .int .u64 (lo d2.num.natAbs), .string (bg d2.num.natAbs), .bool (decide (d2.num < 0)), .int .u64 (lo (d2.den - 1)), .string (bg (d2.den - 1))] ∧ Bx w2 (w.heap.size + 1 + 1 + 1 + 1) 38 #[.int .u64 0, .string ⟨#[]⟩, .bool false, .int .u64 0, .string ⟨#[]⟩, .int .u64 0, .string ⟨#[]⟩, .bool false, .int .u64 0, .string ⟨#[]⟩] ∧ Below w.heap.size w w2) ⟨BX0.out, BX1.out, BX2.out, BX3.out, BX4.out, HB.out.trans (HG.out.mono HB.out.size)⟩ ?_
  clear HB HG BX0 BX1 BX2 BX3 BX4
  rintro Wx5 ⟨bx0, bx1, bx2, bx3, bx4, HB⟩
  replace HB := Lib.hid HB
  refine wp_cond_false (by rfl) ?_
  refine wp_skip ?_
  show Code.wp _ _ _ _ _
  -- region 7
  obtain ⟨u1, HZ1⟩ : ∃ z, Hid ((b1) - (a1) = z) := ⟨_, Lib.hid rfl⟩
  have su1 : sz u1 ≤ 20000001 := by rw [← HZ1.out]; have := sz_sub (b1) (a1); omega
  obtain ⟨u2, HZ2⟩ : ∃ z, Hid ((b2) - (a2) = z) := ⟨_, Lib.hid rfl⟩
  have su2 : sz u2 ≤ 20000001 := by rw [← HZ2.out]; have := sz_sub (b2) (a2); omega
  obtain ⟨u3, HZ3⟩ : ∃ z, Hid ((d1) - (c1) = z) := ⟨_, Lib.hid rfl⟩
  have su3 : sz u3 ≤ 20000001 := by rw [← HZ3.out]; have := sz_sub (d1) (c1); omega
  obtain ⟨u4, HZ4⟩ : ∃ z, Hid ((d2) - (c2) = z) := ⟨_, Lib.hid rfl⟩
  have su4 : sz u4 ≤ 20000001 := by rw [← HZ4.out]; have := sz_sub (d2) (c2); omega
  have lx0 := bx0.cells
  have lx1 := bx1.cells
  have lx2 := bx2.cells
  have lx3 := bx3.cells
  have BX0 := Lib.hid bx0
  have BX1 := Lib.hid bx1
  have BX2 := Lib.hid bx2
  have BX3 := Lib.hid bx3
  have BX4 := Lib.hid bx4
  clear bx0 bx1 bx2 bx3 bx4
  refine wp_seq_k fun K hK => ?_
  replace hK := Lib.hid hK
  refine wp_region_plan 8 [6, 7] [] (fun i => if i = 6 then 14 else 15) (fun i => if i = 6 then .cells #[.int .u64 0, .string ⟨#[]⟩, .bool false, .int .u64 0, .string ⟨#[]⟩, .int .u64 0, .string ⟨#[]⟩, .bool false, .int .u64 0, .string ⟨#[]⟩] 38 else .cells #[.int .u64 0, .string ⟨#[]⟩, .bool false, .int .u64 0, .string ⟨#[]⟩, .int .u64 0, .string ⟨#[]⟩, .bool false, .int .u64 0, .string ⟨#[]⟩] 38) [(true, 0), (true, 1), (true, 3), (true, 4), (true, 2), (true, 5)] (by kernel_rfl) (by kernel_rfl) (by intro i hi; simp only [List.mem_cons, List.not_mem_nil, or_false] at hi; rcases hi with rfl | rfl <;> exact ⟨_, rfl, rfl, rfl, by simp, fun ρ w => by kernel_rfl⟩) (fun i hi => by cases hi) (fun _ _ _ _ _ h => h) (fun T hT => ?_)
  iterate 4
    refine wpPlan_takeL (v := ?_) rfl (by rfl) (fun w' hw => ?_) ?_
    rotate_left
    · go_simp
      with_reducible rfl
    simp only [Act.put, qA, qB, qC]
  refine wpPlan_callL rfl (by rfl) Tryz.call17 (fun w' hw => psub_any (b1) (b2) (a1) (a2) (u1) (u2) _ HZ1.out HZ2.out (by omega) (by omega) (by omega) (by omega)) (by rfl) ?_
  simp only [Act.put, qA, qB, qC]
  refine wpPlan_callL rfl (by rfl) Tryz.call17 (fun w' hw => psub_any (d1) (d2) (c1) (c2) (u3) (u4) _ HZ3.out HZ4.out (by omega) (by omega) (by omega) (by omega)) (by rfl) ?_
  simp only [Act.put, qA, qB, qC]
  refine wpPlan_nil (hT.out _ _ ?_); clear hT T
  intro G vw5 hg hf
  simp only [puts, Act.put, qA, qB, qC, qD, qE, ↓reduceIte, Nat.reduceEqDiff]
  clear lx0 lx1 lx2 lx3
  have HG := Lib.hid (hg)
  clear hg
  have bx5 := Bx.of_fresh hf (i := 6) (by decide) rfl
  have yx5 := (hf.1 6 (by decide)).1
  have bx6 := Bx.of_fresh hf (i := 7) (by decide) rfl
  have yx6 := (hf.1 7 (by decide)).1
  have dx5_6 : G 6 ≠ G 7 := fun e => absurd (hf.2 6 (by decide) 7 (by decide) e) (by decide)
  clear hf
  generalize G 6 = gx5 at *
  generalize G 7 = gx6 at *
  have qx0_5 : w.heap.size < gx5 := Nat.lt_of_lt_of_le BX0.out.lt yx5
  have qx0_6 : w.heap.size < gx6 := Nat.lt_of_lt_of_le BX0.out.lt yx6
  have qx1_5 : w.heap.size + 1 < gx5 := Nat.lt_of_lt_of_le BX1.out.lt yx5
  have qx1_6 : w.heap.size + 1 < gx6 := Nat.lt_of_lt_of_le BX1.out.lt yx6
  have qx2_5 : w.heap.size + 1 + 1 < gx5 := Nat.lt_of_lt_of_le BX2.out.lt yx5
  have qx2_6 : w.heap.size + 1 + 1 < gx6 := Nat.lt_of_lt_of_le BX2.out.lt yx6
  have qx3_5 : w.heap.size + 1 + 1 + 1 < gx5 := Nat.lt_of_lt_of_le BX3.out.lt yx5
  have qx3_6 : w.heap.size + 1 + 1 + 1 < gx6 := Nat.lt_of_lt_of_le BX3.out.lt yx6
  have qx4_5 : w.heap.size + 1 + 1 + 1 + 1 < gx5 := Nat.lt_of_lt_of_le BX4.out.lt yx5
  have qx4_6 : w.heap.size + 1 + 1 + 1 + 1 < gx6 := Nat.lt_of_lt_of_le BX4.out.lt yx6
  replace yx5 : w.heap.size ≤ gx5 := Nat.le_trans HB.out.size yx5
  replace yx6 : w.heap.size ≤ gx6 := Nat.le_trans HB.out.size yx6
  replace BX0 := bG BX0 HG
  replace BX1 := bG BX1 HG
  replace BX2 := bG BX2 HG
  replace BX3 := bG BX3 HG
  replace BX4 := bG BX4 HG
  have lx5 := bx5.cells; have fx5 := bx5.free
  have lx6 := bx6.cells; have fx6 := bx6.free
  have r0 := Gr.refl vw5
  have BX5 := Lib.hid bx5; clear bx5
  have BX6 := Lib.hid bx6; clear bx6
  go_wp2
  refine hK.out _ _ ?_; clear hK K
  show Code.wp _ _ _ _ _
  clear lx5 fx5
  clear lx6 fx6
  clear r0
  refine forgetW (fun w2 => Bx w2 (w.heap.size) 38 #[.int .u64 (lo a1.num.natAbs), .string (bg a1.num.natAbs), .bool (decide (a1.num < 0)), .int .u64 (lo (a1.den - 1)), .string (bg (a1.den - 1)), .int .u64 (lo a2.num.natAbs), .string (bg a2.num.natAbs), .bool (decide (a2.num < 0)), .int .u64 (lo (a2.den - 1)), .string (bg (a2.den - 1))] ∧ Bx w2 (w.heap.size + 1 + 1) 38 #[.int .u64 (lo c1.num.natAbs), .string (bg c1.num.natAbs), .bool (decide (c1.num < 0)), .int .u64 (lo (c1.den - 1)), .string (bg (c1.den - 1)), .int .u64 (lo c2.num.natAbs), .string (bg c2.num.natAbs), .bool (decide (c2.num < 0)), .int .u64 (lo (c2.den - 1)), .string (bg (c2.den - 1))] ∧ Bx w2 (w.heap.size + 1 + 1 + 1 + 1) 38 #[.int .u64 0, .string ⟨#[]⟩, .bool false, .int .u64 0, .string ⟨#[]⟩, .int .u64 0, .string ⟨#[]⟩, .bool false, .int .u64 0, .string ⟨#[]⟩] ∧ Bx w2 gx5 38 #[.int .u64 (lo u1.num.natAbs), .string (bg u1.num.natAbs), .bool (decide (u1.num < 0)), .int .u64 (lo (u1.den - 1)), .string (bg (u1.den - 1)), .int .u64 (lo u2.num.natAbs), .string (bg u2.num.natAbs), .bool (decide (u2.num < 0)), .int .u64 (lo (u2.den - 1)), .string (bg (u2.den - 1))] ∧ Bx w2 gx6 38 #[.int .u64 (lo u3.num.natAbs), .string (bg u3.num.natAbs), .bool (decide (u3.num < 0)), .int .u64 (lo (u3.den - 1)), .string (bg (u3.den - 1)), .int .u64 (lo u4.num.natAbs), .string (bg u4.num.natAbs), .bool (decide (u4.num < 0)), .int .u64 (lo (u4.den - 1)), .string (bg (u4.den - 1))] ∧ Below w.heap.size w w2) ⟨so10 (so10 (BX0.out) (by show w.heap.size ≠ gx5; omega)) (by show w.heap.size ≠ gx6; omega), so10 (so10 (BX2.out) (by show w.heap.size + 1 + 1 ≠ gx5; omega)) (by show w.heap.size + 1 + 1 ≠ gx6; omega), so10 (so10 (BX4.out) (by show w.heap.size + 1 + 1 + 1 + 1 ≠ gx5; omega)) (by show w.heap.size + 1 + 1 + 1 + 1 ≠ gx6; omega), (so10 (((((((((((BX5.out).set 0 _).set 1 _).set 2 _).set 3 _).set 4 _).set 5 _).set 6 _).set 7 _).set 8 _).set 9 _) (by show gx5 ≠ gx6; omega)).eq (by simp only [rA, rB, rC]), (((((((((((so10 (BX6.out) (by show gx6 ≠ gx5; omega)).set 0 _).set 1 _).set 2 _).set 3 _).set 4 _).set 5 _).set 6 _).set 7 _).set 8 _).set 9 _).eq (by simp only [rA, rB, rC]), sc10 (sc10 (HB.out.trans (HG.out.mono HB.out.size)) (by show w.heap.size ≤ gx5; omega)) (by show w.heap.size ≤ gx6; omega)⟩ ?_
  clear HB HG BX0 BX1 BX2 BX3 BX4 BX5 BX6
  rintro Wx7 ⟨bx0, bx2, bx4, bx5, bx6, HB⟩
  replace HB := Lib.hid HB
  -- region 8
  obtain ⟨u5, HZ5⟩ : ∃ z, Hid ((c1) - (a1) = z) := ⟨_, Lib.hid rfl⟩
  have su5 : sz u5 ≤ 20000001 := by rw [← HZ5.out]; have := sz_sub (c1) (a1); omega
  obtain ⟨u6, HZ6⟩ : ∃ z, Hid ((c2) - (a2) = z) := ⟨_, Lib.hid rfl⟩
  have su6 : sz u6 ≤ 20000001 := by rw [← HZ6.out]; have := sz_sub (c2) (a2); omega
  obtain ⟨u7, HZ7⟩ : ∃ z, Hid ((u5) * (u4) - (u6) * (u3) = z) := ⟨_, Lib.hid rfl⟩
  have su7 : sz u7 ≤ 80000005 := by rw [← HZ7.out]; have := sz_cross (u5) (u6) (u3) (u4); omega
  have HZ8 : Hid ((u1) * (u4) - (u2) * (u3) = k) := Lib.hid (by rw [← HZ1.out, ← HZ2.out, ← HZ3.out, ← HZ4.out]; exact hk.out)
  obtain ⟨u9, HZ9⟩ : ∃ z, Hid ((u7) / (k) = z) := ⟨_, Lib.hid rfl⟩
  have su9 : sz u9 ≤ 180000005 := by rw [← HZ9.out]; have := sz_div (u7) (k); omega
  have lx0 := bx0.cells
  have lx2 := bx2.cells
  have lx5 := bx5.cells
  have lx6 := bx6.cells
  have BX0 := Lib.hid bx0
  have BX2 := Lib.hid bx2
  have BX4 := Lib.hid bx4
  have BX5 := Lib.hid bx5
  have BX6 := Lib.hid bx6
  clear bx0 bx2 bx4 bx5 bx6
  refine wp_seq_k fun K hK => ?_
  replace hK := Lib.hid hK
  refine wp_region_plan 13 [12] [11] (fun _ => 16) (fun _ => .cells #[.int .u64 0, .string ⟨#[]⟩, .bool false, .int .u64 0, .string ⟨#[]⟩] 36) [(true, 0), (true, 1), (true, 3), (true, 5), (true, 6), (true, 2), (true, 4), (true, 7), (true, 8), (true, 9), (true, 10), (true, 11)] (by kernel_rfl) (by kernel_rfl) (by intro i hi; simp only [List.mem_cons, List.not_mem_nil, or_false] at hi; rcases hi with rfl <;> exact ⟨_, rfl, rfl, rfl, by simp, fun ρ w => by kernel_rfl⟩) (by intro i hi; simp only [List.mem_cons, List.not_mem_nil, or_false] at hi; rcases hi with rfl <;> exact ⟨_, rfl, pure_extract⟩) (fun _ _ _ _ _ h => h) (fun T hT => ?_)
  iterate 5
    refine wpPlan_takeL (v := ?_) rfl (by rfl) (fun w' hw => ?_) ?_
    rotate_left
    · go_simp
      with_reducible rfl
    simp only [Act.put, qA, qB, qC]
  refine wpPlan_callL rfl (by rfl) Tryz.call17 (fun w' hw => psub_any (c1) (c2) (a1) (a2) (u5) (u6) _ HZ5.out HZ6.out (by omega) (by omega) (by omega) (by omega)) (by rfl) ?_
  simp only [Act.put, qA, qB, qC]
  refine wpPlan_callL rfl (by rfl) Tryz.call16 (fun w' hw => pcross_any (u5) (u6) (u3) (u4) (u7) _ HZ7.out (by omega) (by omega) (by omega) (by omega)) (by rfl) ?_
  simp only [Act.put, qA, qB, qC]
  refine wpPlan_callL rfl (by rfl) Tryz.call16 (fun w' hw => pcross_any (u1) (u2) (u3) (u4) (k) _ HZ8.out (by omega) (by omega) (by omega) (by omega)) (by rfl) ?_
  simp only [Act.put, qA, qB, qC]
  refine wpPlan_callL rfl (by rfl) Tryz.call57 (fun w' hw => fdiv_any (u7) (k) (u9) _ HZ9.out hk0.out (by omega) (by omega)) (by rfl) ?_
  simp only [Act.put, qA, qB, qC]
  iterate 3
    refine wpPlan_takeL (v := ?_) rfl (by rfl) (fun w' hw => ?_) ?_
    rotate_left
    · go_simp
      with_reducible rfl
    simp only [Act.put, qA, qB, qC]
  refine wpPlan_nil (hT.out _ _ ?_); clear hT T
  intro G vw6 hg hf
  simp only [puts, Act.put, qA, qB, qC, qD, qE, ↓reduceIte, Nat.reduceEqDiff]
  clear lx0 lx2 lx5 lx6
  have HG := Lib.hid (hg)
  clear hg
  have bx7 := Bx.of_fresh hf (i := 12) (by decide) rfl
  have yx7 := (hf.1 12 (by decide)).1
  clear hf
  generalize G 12 = gx7 at *
  have qx0_7 : w.heap.size < gx7 := Nat.lt_of_lt_of_le BX0.out.lt yx7
  have qx2_7 : w.heap.size + 1 + 1 < gx7 := Nat.lt_of_lt_of_le BX2.out.lt yx7
  have qx4_7 : w.heap.size + 1 + 1 + 1 + 1 < gx7 := Nat.lt_of_lt_of_le BX4.out.lt yx7
  have qx5_7 : gx5 < gx7 := Nat.lt_of_lt_of_le BX5.out.lt yx7
  have qx6_7 : gx6 < gx7 := Nat.lt_of_lt_of_le BX6.out.lt yx7
  replace yx7 : w.heap.size ≤ gx7 := Nat.le_trans HB.out.size yx7
  replace BX0 := bG BX0 HG
  replace BX2 := bG BX2 HG
  replace BX4 := bG BX4 HG
  replace BX5 := bG BX5 HG
  replace BX6 := bG BX6 HG
  have lx7 := bx7.cells; have fx7 := bx7.free
  have r0 := Gr.refl vw6
  have BX7 := Lib.hid bx7; clear bx7
  go_wp2
  refine hK.out _ _ ?_; clear hK K
  show Code.wp _ _ _ _ _
  clear lx7 fx7
  clear r0
  refine forgetW (fun w2 => Bx w2 (w.heap.size) 38 #[.int .u64 (lo a1.num.natAbs), .string (bg a1.num.natAbs), .bool (decide (a1.num < 0)), .int .u64 (lo (a1.den - 1)), .string (bg (a1.den - 1)), .int .u64 (lo a2.num.natAbs), .string (bg a2.num.natAbs), .bool (decide (a2.num < 0)), .int .u64 (lo (a2.den - 1)), .string (bg (a2.den - 1))] ∧ Bx w2 (w.heap.size + 1 + 1 + 1 + 1) 38 #[.int .u64 0, .string ⟨#[]⟩, .bool false, .int .u64 0, .string ⟨#[]⟩, .int .u64 0, .string ⟨#[]⟩, .bool false, .int .u64 0, .string ⟨#[]⟩] ∧ Bx w2 gx5 38 #[.int .u64 (lo u1.num.natAbs), .string (bg u1.num.natAbs), .bool (decide (u1.num < 0)), .int .u64 (lo (u1.den - 1)), .string (bg (u1.den - 1)), .int .u64 (lo u2.num.natAbs), .string (bg u2.num.natAbs), .bool (decide (u2.num < 0)), .int .u64 (lo (u2.den - 1)), .string (bg (u2.den - 1))] ∧ Bx w2 gx7 36 #[.int .u64 (lo u9.num.natAbs), .string (bg u9.num.natAbs), .bool (decide (u9.num < 0)), .int .u64 (lo (u9.den - 1)), .string (bg (u9.den - 1))] ∧ Below w.heap.size w w2) ⟨so5 (BX0.out) (by show w.heap.size ≠ gx7; omega), so5 (BX4.out) (by show w.heap.size + 1 + 1 + 1 + 1 ≠ gx7; omega), so5 (BX5.out) (by show gx5 ≠ gx7; omega), ((((((BX7.out).set 0 _).set 1 _).set 2 _).set 3 _).set 4 _).eq (by simp only [rA, rB, rC]), sc5 (HB.out.trans (HG.out.mono HB.out.size)) (by show w.heap.size ≤ gx7; omega)⟩ ?_
  clear HB HG BX0 BX2 BX4 BX5 BX6 BX7
  rintro Wx8 ⟨bx0, bx4, bx5, bx7, HB⟩
  replace HB := Lib.hid HB
  -- region 9
  obtain ⟨u10, HZ10⟩ : ∃ z, Hid ((u1) * (u9) = z) := ⟨_, Lib.hid rfl⟩
  have su10 : sz u10 ≤ 200000006 := by rw [← HZ10.out]; have := sz_mul (u1) (u9); omega
  obtain ⟨u11, HZ11⟩ : ∃ z, Hid ((u2) * (u9) = z) := ⟨_, Lib.hid rfl⟩
  have su11 : sz u11 ≤ 200000006 := by rw [← HZ11.out]; have := sz_mul (u2) (u9); omega
  have HZ12 : Hid ((a1) + (u10) = m1) := Lib.hid (by rw [← HZ10.out, ← HZ9.out, ← HZ7.out, ← HZ6.out, ← HZ5.out, ← HZ4.out, ← HZ3.out, ← HZ1.out]; exact hm1.out)
  have HZ13 : Hid ((a2) + (u11) = m2) := Lib.hid (by rw [← HZ11.out, ← HZ9.out, ← HZ7.out, ← HZ6.out, ← HZ5.out, ← HZ4.out, ← HZ3.out, ← HZ2.out]; exact hm2.out)
  have lx0 := bx0.cells
  have lx5 := bx5.cells
  have lx7 := bx7.cells
  have BX0 := Lib.hid bx0
  have BX4 := Lib.hid bx4
  have BX5 := Lib.hid bx5
  have BX7 := Lib.hid bx7
  clear bx0 bx4 bx5 bx7
  refine wp_seq_k fun K hK => ?_
  replace hK := Lib.hid hK
  refine wp_region_plan 6 [] [] (fun _ => 0) (fun _ => .cells #[] 0) [(true, 0), (true, 1), (true, 2), (true, 3), (true, 4), (true, 5)] (by kernel_rfl) (by kernel_rfl) (fun i hi => by cases hi) (fun i hi => by cases hi) (fun _ _ _ _ _ h => h) (fun T hT => ?_)
  iterate 3
    refine wpPlan_takeL (v := ?_) rfl (by rfl) (fun w' hw => ?_) ?_
    rotate_left
    · go_simp
      with_reducible rfl
    simp only [Act.put, qA, qB, qC]
  refine wpPlan_callL rfl (by rfl) Tryz.call59 (fun w' hw => pscale_any (u1) (u2) (u9) (u10) (u11) _ HZ10.out HZ11.out (by omega) (by omega) (by omega)) (by rfl) ?_
  simp only [Act.put, qA, qB, qC]
  refine wpPlan_callL rfl (by rfl) Tryz.call58 (fun w' hw => padd_any (a1) (a2) (u10) (u11) (m1) (m2) _ HZ12.out HZ13.out (by omega) (by omega) (by omega) (by omega)) (by rfl) ?_
  simp only [Act.put, qA, qB, qC]
  iterate 1
    refine wpPlan_takeL (v := ?_) rfl (by rfl) (fun w' hw => ?_) ?_
    rotate_left
    · go_simp
      with_reducible rfl
    simp only [Act.put, qA, qB, qC]
  refine wpPlan_nil (hT.out _ _ ?_); clear hT T
  intro G vw7 hg hf
  simp only [puts, Act.put, qA, qB, qC, qD, qE, ↓reduceIte, Nat.reduceEqDiff]
  clear lx0 lx5 lx7
  have HG := Lib.hid (hg)
  clear hg
  replace BX0 := bG BX0 HG
  replace BX4 := bG BX4 HG
  replace BX5 := bG BX5 HG
  replace BX7 := bG BX7 HG
  have lx4 := BX4.out.cells; have fx4 := BX4.out.free
  have r0 := Gr.refl vw7
  go_wp2
  refine hK.out _ _ ?_; clear hK K
  show Code.wp _ _ _ _ _
  clear lx4 fx4
  clear r0
  refine forgetW (fun w2 => Bx w2 (w.heap.size + 1 + 1 + 1 + 1) 38 #[.int .u64 (lo m1.num.natAbs), .string (bg m1.num.natAbs), .bool (decide (m1.num < 0)), .int .u64 (lo (m1.den - 1)), .string (bg (m1.den - 1)), .int .u64 (lo m2.num.natAbs), .string (bg m2.num.natAbs), .bool (decide (m2.num < 0)), .int .u64 (lo (m2.den - 1)), .string (bg (m2.den - 1))] ∧ Below w.heap.size w w2) ⟨(((((((((((BX4.out).set 0 _).set 1 _).set 2 _).set 3 _).set 4 _).set 5 _).set 6 _).set 7 _).set 8 _).set 9 _).eq (by simp only [rA, rB, rC]), sc10 (HB.out.trans (HG.out.mono HB.out.size)) (by show w.heap.size ≤ w.heap.size + 1 + 1 + 1 + 1; omega)⟩ ?_
  clear HB HG BX0 BX4 BX5 BX7
  rintro Wx9 ⟨bx4, HB⟩
  replace HB := Lib.hid HB
  refine wp_ret ?_
  try simp only [Exit.then, Exit.inBlock]
  have lx4 := bx4.cells
  have r0 := Gr.refl Wx9
  exact bodyPost_ret (v := .tuple #[.int .i64 1, (.agg #[.int .u64 (lo m1.num.natAbs), .string (bg m1.num.natAbs), .bool (decide (m1.num < 0)), .int .u64 (lo (m1.den - 1)), .string (bg (m1.den - 1)), .int .u64 (lo m2.num.natAbs), .string (bg m2.num.natAbs), .bool (decide (m2.num < 0)), .int .u64 (lo (m2.den - 1)), .string (bg (m2.den - 1))])]) (by simp [results, Tryz.results32, go_sem, lx4 _ r0]) rfl ⟨rfl, HB.out⟩

end Go.Proofs.YtenpbnmmadbkdaaGreat


/- the examples of the chapter. -/
namespace Go.Proofs.YtenpbnmmadbkdaaGreat
open Go.RowKit
set_option linter.unusedSimpArgs false
set_option linter.unusedVariables false
attribute [local go_sem ↓] Go.wp_at_zero Go.wp_at_succ
attribute [local go_sem ↓] eq_nat eq_nat_zero eq_int eq_frac eq_pt
/-- an integer as a number -/
def qn (n : Int) : Rat := (n : Rat)
theorem sz_qn (n : Int) (h1 : -9223372036854775808 ≤ n := by decide) (h2 : n ≤ 9223372036854775807 := by decide) : sz (qn n) ≤ 2 := sz_int64 h1 h2

set_option maxHeartbeats 4000000 in
theorem lives_any (w : World) :
    Calls Tryz.prog 12 #[] w fun e w' => e = .returned (.bool true) ∧ Below w.heap.size w w' := by
  go_enter Tryz.func12, Tryz.ntmps12
  -- region 0
  refine wp_seq_k fun K hK => ?_
  replace hK := Lib.hid hK
  refine wp_region_lit ?_
  go_wp2
  refine hK.out _ _ ?_; clear hK K
  show Code.wp _ _ _ _ _
  refine forgetW (fun w2 => Below w.heap.size w w2) (Below.refl _ _) ?_
  rintro Wx HB
  replace HB := Lib.hid HB
  -- region 1
  have hqn_0 : sz (qn 0) ≤ 2 := sz_qn 0
  refine wp_seq_k fun K hK => ?_
  replace hK := Lib.hid hK
  refine wp_region_seqplan 1 [(true, 0)] (by rfl) (by simp) (fun T hT => ?_)
  refine wpPlan_callL rfl (by rfl) Tryz.call31 (fun w' hw => ppint_any 0 0 (qn 0) (qn 0) _ rfl rfl (by decide) (by decide) (by decide) (by decide)) (by rfl) ?_
  simp only [Act.put, rA, rB, rC]
  refine wpPlan_nil (hT.out _ _ ?_); clear hT T
  intro vw1 hg
  simp only [puts, Act.put, rA, rB, rC, rD, rE, ↓reduceIte, Nat.reduceEqDiff]
  have HG := Lib.hid (hg)
  clear hg
  have r0 := Gr.refl vw1
  go_wp2
  refine hK.out _ _ ?_; clear hK K
  show Code.wp _ _ _ _ _
  clear r0
  have hsz : w.heap.size ≤ vw1.heap.size := Nat.le_trans HB.out.size HG.out.size
  refine forgetW (fun w2 => Bx w2 (vw1.heap.size) 38 #[.int .u64 ((lo (Int.natAbs ((qn 0).num)) : Nat) : Int), .string (bg (Int.natAbs ((qn 0).num))), .bool (decide (((qn 0).num) < 0)), .int .u64 (lo ((qn 0).den - 1)), .string (bg ((qn 0).den - 1)), .int .u64 ((lo (Int.natAbs ((qn 0).num)) : Nat) : Int), .string (bg (Int.natAbs ((qn 0).num))), .bool (decide (((qn 0).num) < 0)), .int .u64 (lo ((qn 0).den - 1)), .string (bg ((qn 0).den - 1))] ∧ Below w.heap.size w w2) ⟨(Bx.at (by simp) : Bx _ (vw1.heap.size) _ _), (HB.out.trans (HG.out.mono HB.out.size)).alloc (by first | omega | (simp; omega)) _⟩ ?_
  clear HB HG
  rintro Wx1 ⟨bx0, HB⟩
  replace HB := Lib.hid HB
  have yx0 : w.heap.size ≤ vw1.heap.size := by omega
  generalize hx0 : vw1.heap.size = gx0 at *
  clear hx0
  clear hsz
  -- region 2
  have hqn_2 : sz (qn 2) ≤ 2 := sz_qn 2
  have lx0 := bx0.cells
  have BX0 := Lib.hid bx0
  clear bx0
  refine wp_seq_k fun K hK => ?_
  replace hK := Lib.hid hK
  refine wp_region_plan 10 [8] [] (fun _ => 3) (fun _ => .cells #[.int .u64 0, .string ⟨#[]⟩, .bool false, .int .u64 0, .string ⟨#[]⟩, .int .u64 0, .string ⟨#[]⟩, .bool false, .int .u64 0, .string ⟨#[]⟩] 38) [(true, 0), (true, 1), (true, 2), (true, 3), (true, 4), (true, 5), (true, 6), (true, 7), (true, 9)] (by kernel_rfl) (by kernel_rfl) (by intro i hi; simp only [List.mem_cons, List.not_mem_nil, or_false] at hi; rcases hi with rfl <;> exact ⟨_, rfl, rfl, rfl, by simp, fun ρ w => by kernel_rfl⟩) (fun i hi => by cases hi) (fun _ _ _ _ _ h => h) (fun T hT => ?_)
  iterate 1
    refine wpPlan_takeL (v := ?_) rfl (by rfl) (fun w' hw => ?_) ?_
    rotate_left
    · go_simp
      with_reducible rfl
    simp only [Act.put, rA, rB, rC]
  refine wpPlan_callL rfl (by rfl) Tryz.call31 (fun w' hw => ppint_any 2 2 (qn 2) (qn 2) _ rfl rfl (by decide) (by decide) (by decide) (by decide)) (by rfl) ?_
  simp only [Act.put, rA, rB, rC]
  refine wpPlan_callL rfl (by rfl) Tryz.call31 (fun w' hw => ppint_any 0 2 (qn 0) (qn 2) _ rfl rfl (by decide) (by decide) (by decide) (by decide)) (by rfl) ?_
  simp only [Act.put, rA, rB, rC]
  refine wpPlan_callL rfl (by rfl) Tryz.call31 (fun w' hw => ppint_any 2 0 (qn 2) (qn 0) _ rfl rfl (by decide) (by decide) (by decide) (by decide)) (by rfl) ?_
  simp only [Act.put, rA, rB, rC]
  refine wpPlan_callL rfl (by rfl) Tryz.call32 (fun w' hw => pcut_one_0 (qn 0) (qn 0) (qn 2) (qn 2) (qn 0) (qn 2) (qn 2) (qn 0) 1 (-1) (-1) 1 (-1) (-1) (qn (-8)) (qn 1) (qn 1) _ (Lib.hid (by decide +kernel)) (Lib.hid (by decide +kernel)) (Lib.hid (by decide +kernel)) (Lib.hid (by decide +kernel)) rfl (by decide) (by decide) (by decide) (by decide) (Lib.hid (by decide +kernel)) (Lib.hid (by decide +kernel)) (Nat.le_trans (sz_qn (-8)) (by decide)) (Lib.hid (by decide +kernel)) (Lib.hid (by decide +kernel)) (by omega) (by omega) (by omega) (by omega) (by omega) (by omega) (by omega) (by omega)) (by rfl) ?_
  simp only [Act.put, rA, rB, rC]
  iterate 4
    refine wpPlan_takeL (v := ?_) rfl (by rfl) (fun w' hw => ?_) ?_
    rotate_left
    · go_simp
      with_reducible rfl
    simp only [Act.put, rA, rB, rC]
  refine wpPlan_nil (hT.out _ _ ?_); clear hT T
  intro G vw2 hg hf
  simp only [puts, Act.put, rA, rB, rC, rD, rE, ↓reduceIte, Nat.reduceEqDiff]
  clear lx0
  have HG := Lib.hid (hg)
  clear hg
  have bx1 := Bx.of_fresh hf (i := 8) (by decide) rfl
  have yx1 := (hf.1 8 (by decide)).1
  clear hf
  generalize G 8 = gx1 at *
  have qx0_1 : gx0 < gx1 := Nat.lt_of_lt_of_le BX0.out.lt yx1
  replace yx1 : w.heap.size ≤ gx1 := Nat.le_trans HB.out.size yx1
  replace BX0 := bG BX0 HG
  have lx1 := bx1.cells; have fx1 := bx1.free
  have r0 := Gr.refl vw2
  have BX1 := Lib.hid bx1; clear bx1
  go_wp2
  refine hK.out _ _ ?_; clear hK K
  show Code.wp _ _ _ _ _
  clear lx1 fx1
  clear r0
  refine forgetW (fun w2 => Bx w2 gx0 38 #[.int .u64 ((lo (Int.natAbs ((qn 0).num)) : Nat) : Int), .string (bg (Int.natAbs ((qn 0).num))), .bool (decide (((qn 0).num) < 0)), .int .u64 (lo ((qn 0).den - 1)), .string (bg ((qn 0).den - 1)), .int .u64 ((lo (Int.natAbs ((qn 0).num)) : Nat) : Int), .string (bg (Int.natAbs ((qn 0).num))), .bool (decide (((qn 0).num) < 0)), .int .u64 (lo ((qn 0).den - 1)), .string (bg ((qn 0).den - 1))] ∧ Bx w2 gx1 38 #[.int .u64 ((lo (Int.natAbs ((qn 1).num)) : Nat) : Int), .string (bg (Int.natAbs ((qn 1).num))), .bool (decide (((qn 1).num) < 0)), .int .u64 (lo ((qn 1).den - 1)), .string (bg ((qn 1).den - 1)), .int .u64 ((lo (Int.natAbs ((qn 1).num)) : Nat) : Int), .string (bg (Int.natAbs ((qn 1).num))), .bool (decide (((qn 1).num) < 0)), .int .u64 (lo ((qn 1).den - 1)), .string (bg ((qn 1).den - 1))] ∧ Below w.heap.size w w2) ⟨so10 (BX0.out) (by show gx0 ≠ gx1; omega), (((((((((((BX1.out).set 0 _).set 1 _).set 2 _).set 3 _).set 4 _).set 5 _).set 6 _).set 7 _).set 8 _).set 9 _).eq (by simp only [rA, rB, rC]), sc10 (HB.out.trans (HG.out.mono HB.out.size)) (by show w.heap.size ≤ gx1; omega)⟩ ?_
  clear HB HG BX0 BX1
  rintro Wx2 ⟨bx0, bx1, HB⟩
  replace HB := Lib.hid HB
  -- region 3
  have hqn_1 : sz (qn 1) ≤ 2 := sz_qn 1
  have hqn_3 : sz (qn 3) ≤ 2 := sz_qn 3
  have lx0 := bx0.cells
  have BX0 := Lib.hid bx0
  have BX1 := Lib.hid bx1
  clear bx0 bx1
  refine wp_seq_k fun K hK => ?_
  replace hK := Lib.hid hK
  refine wp_region_plan 10 [8] [] (fun _ => 5) (fun _ => .cells #[.int .u64 0, .string ⟨#[]⟩, .bool false, .int .u64 0, .string ⟨#[]⟩, .int .u64 0, .string ⟨#[]⟩, .bool false, .int .u64 0, .string ⟨#[]⟩] 38) [(true, 0), (true, 1), (true, 2), (true, 3), (true, 4), (true, 5), (true, 6), (true, 7), (true, 9)] (by kernel_rfl) (by kernel_rfl) (by intro i hi; simp only [List.mem_cons, List.not_mem_nil, or_false] at hi; rcases hi with rfl <;> exact ⟨_, rfl, rfl, rfl, by simp, fun ρ w => by kernel_rfl⟩) (fun i hi => by cases hi) (fun _ _ _ _ _ h => h) (fun T hT => ?_)
  iterate 1
    refine wpPlan_takeL (v := ?_) rfl (by rfl) (fun w' hw => ?_) ?_
    rotate_left
    · go_simp
      with_reducible rfl
    simp only [Act.put, rA, rB, rC]
  refine wpPlan_callL rfl (by rfl) Tryz.call31 (fun w' hw => ppint_any 2 0 (qn 2) (qn 0) _ rfl rfl (by decide) (by decide) (by decide) (by decide)) (by rfl) ?_
  simp only [Act.put, rA, rB, rC]
  refine wpPlan_callL rfl (by rfl) Tryz.call31 (fun w' hw => ppint_any 1 0 (qn 1) (qn 0) _ rfl rfl (by decide) (by decide) (by decide) (by decide)) (by rfl) ?_
  simp only [Act.put, rA, rB, rC]
  refine wpPlan_callL rfl (by rfl) Tryz.call31 (fun w' hw => ppint_any 3 0 (qn 3) (qn 0) _ rfl rfl (by decide) (by decide) (by decide) (by decide)) (by rfl) ?_
  simp only [Act.put, rA, rB, rC]
  refine wpPlan_callL rfl (by rfl) Tryz.call32 (fun w' hw => pcut_piece (qn 0) (qn 0) (qn 2) (qn 0) (qn 1) (qn 0) (qn 3) (qn 0) 0 0 0 0 2 (qn 1) (qn 0) _ (Lib.hid (by decide +kernel)) (Lib.hid (by decide +kernel)) (Lib.hid (by decide +kernel)) (Lib.hid (by decide +kernel)) rfl rfl rfl rfl (Lib.hid (by decide +kernel)) (by omega) (by omega) (by omega) (by omega) (by omega) (by omega) (by omega) (by omega)) (by rfl) ?_
  simp only [Act.put, rA, rB, rC]
  iterate 4
    refine wpPlan_takeL (v := ?_) rfl (by rfl) (fun w' hw => ?_) ?_
    rotate_left
    · go_simp
      with_reducible rfl
    simp only [Act.put, rA, rB, rC]
  refine wpPlan_nil (hT.out _ _ ?_); clear hT T
  intro G vw3 hg hf
  simp only [puts, Act.put, rA, rB, rC, rD, rE, ↓reduceIte, Nat.reduceEqDiff]
  clear lx0
  have HG := Lib.hid (hg)
  clear hg
  have bx2 := Bx.of_fresh hf (i := 8) (by decide) rfl
  have yx2 := (hf.1 8 (by decide)).1
  clear hf
  generalize G 8 = gx2 at *
  have qx0_2 : gx0 < gx2 := Nat.lt_of_lt_of_le BX0.out.lt yx2
  have qx1_2 : gx1 < gx2 := Nat.lt_of_lt_of_le BX1.out.lt yx2
  replace yx2 : w.heap.size ≤ gx2 := Nat.le_trans HB.out.size yx2
  replace BX0 := bG BX0 HG
  replace BX1 := bG BX1 HG
  have lx2 := bx2.cells; have fx2 := bx2.free
  have r0 := Gr.refl vw3
  have BX2 := Lib.hid bx2; clear bx2
  go_wp2
  refine hK.out _ _ ?_; clear hK K
  show Code.wp _ _ _ _ _
  clear lx2 fx2
  clear r0
  refine forgetW (fun w2 => Bx w2 gx0 38 #[.int .u64 ((lo (Int.natAbs ((qn 0).num)) : Nat) : Int), .string (bg (Int.natAbs ((qn 0).num))), .bool (decide (((qn 0).num) < 0)), .int .u64 (lo ((qn 0).den - 1)), .string (bg ((qn 0).den - 1)), .int .u64 ((lo (Int.natAbs ((qn 0).num)) : Nat) : Int), .string (bg (Int.natAbs ((qn 0).num))), .bool (decide (((qn 0).num) < 0)), .int .u64 (lo ((qn 0).den - 1)), .string (bg ((qn 0).den - 1))] ∧ Bx w2 gx1 38 #[.int .u64 ((lo (Int.natAbs ((qn 1).num)) : Nat) : Int), .string (bg (Int.natAbs ((qn 1).num))), .bool (decide (((qn 1).num) < 0)), .int .u64 (lo ((qn 1).den - 1)), .string (bg ((qn 1).den - 1)), .int .u64 ((lo (Int.natAbs ((qn 1).num)) : Nat) : Int), .string (bg (Int.natAbs ((qn 1).num))), .bool (decide (((qn 1).num) < 0)), .int .u64 (lo ((qn 1).den - 1)), .string (bg ((qn 1).den - 1))] ∧ Bx w2 gx2 38 #[.int .u64 ((lo (Int.natAbs ((qn 1).num)) : Nat) : Int), .string (bg (Int.natAbs ((qn 1).num))), .bool (decide (((qn 1).num) < 0)), .int .u64 (lo ((qn 1).den - 1)), .string (bg ((qn 1).den - 1)), .int .u64 ((lo (Int.natAbs ((qn 0).num)) : Nat) : Int), .string (bg (Int.natAbs ((qn 0).num))), .bool (decide (((qn 0).num) < 0)), .int .u64 (lo ((qn 0).den - 1)), .string (bg ((qn 0).den - 1))] ∧ Below w.heap.size w w2) ⟨so10 (BX0.out) (by show gx0 ≠ gx2; omega), so10 (BX1.out) (by show gx1 ≠ gx2; omega), (((((((((((BX2.out).set 0 _).set 1 _).set 2 _).set 3 _).set 4 _).set 5 _).set 6 _).set 7 _).set 8 _).set 9 _).eq (by simp only [rA, rB, rC]), sc10 (HB.out.trans (HG.out.mono HB.out.size)) (by show w.heap.size ≤ gx2; omega)⟩ ?_
  clear HB HG BX0 BX1 BX2
  rintro Wx3 ⟨bx0, bx1, bx2, HB⟩
  replace HB := Lib.hid HB
  -- region 4
  have BX0 := Lib.hid bx0
  have BX1 := Lib.hid bx1
  have BX2 := Lib.hid bx2
  clear bx0 bx1 bx2
  refine wp_seq_k fun K hK => ?_
  replace hK := Lib.hid hK
  refine wp_region_seqplan 1 [(true, 0)] (by rfl) (by simp) (fun T hT => ?_)
  refine wpPlan_callL rfl (by rfl) Tryz.call31 (fun w' hw => ppint_any 2 0 (qn 2) (qn 0) _ rfl rfl (by decide) (by decide) (by decide) (by decide)) (by rfl) ?_
  simp only [Act.put, rA, rB, rC]
  refine wpPlan_nil (hT.out _ _ ?_); clear hT T
  intro vw4 hg
  simp only [puts, Act.put, rA, rB, rC, rD, rE, ↓reduceIte, Nat.reduceEqDiff]
  have HG := Lib.hid (hg)
  clear hg
  replace BX0 := bG BX0 HG
  replace BX1 := bG BX1 HG
  replace BX2 := bG BX2 HG
  have r0 := Gr.refl vw4
  go_wp2
  refine hK.out _ _ ?_; clear hK K
  show Code.wp _ _ _ _ _
  clear r0
  have hsz : w.heap.size ≤ vw4.heap.size := Nat.le_trans HB.out.size HG.out.size
  have mx0 : gx0 < vw4.heap.size := BX0.out.lt
  have mx1 : gx1 < vw4.heap.size := BX1.out.lt
  have mx2 : gx2 < vw4.heap.size := BX2.out.lt
  refine forgetW (fun w2 => Bx w2 gx0 38 #[.int .u64 ((lo (Int.natAbs ((qn 0).num)) : Nat) : Int), .string (bg (Int.natAbs ((qn 0).num))), .bool (decide (((qn 0).num) < 0)), .int .u64 (lo ((qn 0).den - 1)), .string (bg ((qn 0).den - 1)), .int .u64 ((lo (Int.natAbs ((qn 0).num)) : Nat) : Int), .string (bg (Int.natAbs ((qn 0).num))), .bool (decide (((qn 0).num) < 0)), .int .u64 (lo ((qn 0).den - 1)), .string (bg ((qn 0).den - 1))] ∧ Bx w2 gx1 38 #[.int .u64 ((lo (Int.natAbs ((qn 1).num)) : Nat) : Int), .string (bg (Int.natAbs ((qn 1).num))), .bool (decide (((qn 1).num) < 0)), .int .u64 (lo ((qn 1).den - 1)), .string (bg ((qn 1).den - 1)), .int .u64 ((lo (Int.natAbs ((qn 1).num)) : Nat) : Int), .string (bg (Int.natAbs ((qn 1).num))), .bool (decide (((qn 1).num) < 0)), .int .u64 (lo ((qn 1).den - 1)), .string (bg ((qn 1).den - 1))] ∧ Bx w2 gx2 38 #[.int .u64 ((lo (Int.natAbs ((qn 1).num)) : Nat) : Int), .string (bg (Int.natAbs ((qn 1).num))), .bool (decide (((qn 1).num) < 0)), .int .u64 (lo ((qn 1).den - 1)), .string (bg ((qn 1).den - 1)), .int .u64 ((lo (Int.natAbs ((qn 0).num)) : Nat) : Int), .string (bg (Int.natAbs ((qn 0).num))), .bool (decide (((qn 0).num) < 0)), .int .u64 (lo ((qn 0).den - 1)), .string (bg ((qn 0).den - 1))] ∧ Bx w2 (vw4.heap.size) 38 #[.int .u64 ((lo (Int.natAbs ((qn 2).num)) : Nat) : Int), .string (bg (Int.natAbs ((qn 2).num))), .bool (decide (((qn 2).num) < 0)), .int .u64 (lo ((qn 2).den - 1)), .string (bg ((qn 2).den - 1)), .int .u64 ((lo (Int.natAbs ((qn 0).num)) : Nat) : Int), .string (bg (Int.natAbs ((qn 0).num))), .bool (decide (((qn 0).num) < 0)), .int .u64 (lo ((qn 0).den - 1)), .string (bg ((qn 0).den - 1))] ∧ Below w.heap.size w w2) ⟨(BX0.out).alloc _, (BX1.out).alloc _, (BX2.out).alloc _, (Bx.at (by simp) : Bx _ (vw4.heap.size) _ _), (HB.out.trans (HG.out.mono HB.out.size)).alloc (by first | omega | (simp; omega)) _⟩ ?_
  clear HB HG BX0 BX1 BX2
  rintro Wx4 ⟨bx0, bx1, bx2, bx3, HB⟩
  replace HB := Lib.hid HB
  have yx3 : w.heap.size ≤ vw4.heap.size := by omega
  have qx0_3 : gx0 < vw4.heap.size := by omega
  have qx1_3 : gx1 < vw4.heap.size := by omega
  have qx2_3 : gx2 < vw4.heap.size := by omega
  generalize hx3 : vw4.heap.size = gx3 at *
  clear hx3
  clear hsz mx0 mx1 mx2
  -- region 5
  have BX0 := Lib.hid bx0
  have BX1 := Lib.hid bx1
  have BX2 := Lib.hid bx2
  have BX3 := Lib.hid bx3
  clear bx0 bx1 bx2 bx3
  refine wp_seq_k fun K hK => ?_
  replace hK := Lib.hid hK
  refine wp_region_seqplan 1 [(true, 0)] (by rfl) (by simp) (fun T hT => ?_)
  refine wpPlan_callL rfl (by rfl) Tryz.call31 (fun w' hw => ppint_any 0 2 (qn 0) (qn 2) _ rfl rfl (by decide) (by decide) (by decide) (by decide)) (by rfl) ?_
  simp only [Act.put, rA, rB, rC]
  refine wpPlan_nil (hT.out _ _ ?_); clear hT T
  intro vw5 hg
  simp only [puts, Act.put, rA, rB, rC, rD, rE, ↓reduceIte, Nat.reduceEqDiff]
  have HG := Lib.hid (hg)
  clear hg
  replace BX0 := bG BX0 HG
  replace BX1 := bG BX1 HG
  replace BX2 := bG BX2 HG
  replace BX3 := bG BX3 HG
  have r0 := Gr.refl vw5
  go_wp2
  refine hK.out _ _ ?_; clear hK K
  show Code.wp _ _ _ _ _
  clear r0
  have hsz : w.heap.size ≤ vw5.heap.size := Nat.le_trans HB.out.size HG.out.size
  have mx0 : gx0 < vw5.heap.size := BX0.out.lt
  have mx1 : gx1 < vw5.heap.size := BX1.out.lt
  have mx2 : gx2 < vw5.heap.size := BX2.out.lt
  have mx3 : gx3 < vw5.heap.size := BX3.out.lt
  refine forgetW (fun w2 => Bx w2 gx0 38 #[.int .u64 ((lo (Int.natAbs ((qn 0).num)) : Nat) : Int), .string (bg (Int.natAbs ((qn 0).num))), .bool (decide (((qn 0).num) < 0)), .int .u64 (lo ((qn 0).den - 1)), .string (bg ((qn 0).den - 1)), .int .u64 ((lo (Int.natAbs ((qn 0).num)) : Nat) : Int), .string (bg (Int.natAbs ((qn 0).num))), .bool (decide (((qn 0).num) < 0)), .int .u64 (lo ((qn 0).den - 1)), .string (bg ((qn 0).den - 1))] ∧ Bx w2 gx1 38 #[.int .u64 ((lo (Int.natAbs ((qn 1).num)) : Nat) : Int), .string (bg (Int.natAbs ((qn 1).num))), .bool (decide (((qn 1).num) < 0)), .int .u64 (lo ((qn 1).den - 1)), .string (bg ((qn 1).den - 1)), .int .u64 ((lo (Int.natAbs ((qn 1).num)) : Nat) : Int), .string (bg (Int.natAbs ((qn 1).num))), .bool (decide (((qn 1).num) < 0)), .int .u64 (lo ((qn 1).den - 1)), .string (bg ((qn 1).den - 1))] ∧ Bx w2 gx2 38 #[.int .u64 ((lo (Int.natAbs ((qn 1).num)) : Nat) : Int), .string (bg (Int.natAbs ((qn 1).num))), .bool (decide (((qn 1).num) < 0)), .int .u64 (lo ((qn 1).den - 1)), .string (bg ((qn 1).den - 1)), .int .u64 ((lo (Int.natAbs ((qn 0).num)) : Nat) : Int), .string (bg (Int.natAbs ((qn 0).num))), .bool (decide (((qn 0).num) < 0)), .int .u64 (lo ((qn 0).den - 1)), .string (bg ((qn 0).den - 1))] ∧ Bx w2 gx3 38 #[.int .u64 ((lo (Int.natAbs ((qn 2).num)) : Nat) : Int), .string (bg (Int.natAbs ((qn 2).num))), .bool (decide (((qn 2).num) < 0)), .int .u64 (lo ((qn 2).den - 1)), .string (bg ((qn 2).den - 1)), .int .u64 ((lo (Int.natAbs ((qn 0).num)) : Nat) : Int), .string (bg (Int.natAbs ((qn 0).num))), .bool (decide (((qn 0).num) < 0)), .int .u64 (lo ((qn 0).den - 1)), .string (bg ((qn 0).den - 1))] ∧ Bx w2 (vw5.heap.size) 38 #[.int .u64 ((lo (Int.natAbs ((qn 0).num)) : Nat) : Int), .string (bg (Int.natAbs ((qn 0).num))), .bool (decide (((qn 0).num) < 0)), .int .u64 (lo ((qn 0).den - 1)), .string (bg ((qn 0).den - 1)), .int .u64 ((lo (Int.natAbs ((qn 2).num)) : Nat) : Int), .string (bg (Int.natAbs ((qn 2).num))), .bool (decide (((qn 2).num) < 0)), .int .u64 (lo ((qn 2).den - 1)), .string (bg ((qn 2).den - 1))] ∧ Below w.heap.size w w2) ⟨(BX0.out).alloc _, (BX1.out).alloc _, (BX2.out).alloc _, (BX3.out).alloc _, (Bx.at (by simp) : Bx _ (vw5.heap.size) _ _), (HB.out.trans (HG.out.mono HB.out.size)).alloc (by first | omega | (simp; omega)) _⟩ ?_
  clear HB HG BX0 BX1 BX2 BX3
  rintro Wx5 ⟨bx0, bx1, bx2, bx3, bx4, HB⟩
  replace HB := Lib.hid HB
  have yx4 : w.heap.size ≤ vw5.heap.size := by omega
  have qx0_4 : gx0 < vw5.heap.size := by omega
  have qx1_4 : gx1 < vw5.heap.size := by omega
  have qx2_4 : gx2 < vw5.heap.size := by omega
  have qx3_4 : gx3 < vw5.heap.size := by omega
  generalize hx4 : vw5.heap.size = gx4 at *
  clear hx4
  clear hsz mx0 mx1 mx2 mx3
  -- region 6
  have lx0 := bx0.cells
  have lx3 := bx3.cells
  have lx4 := bx4.cells
  have BX0 := Lib.hid bx0
  have BX1 := Lib.hid bx1
  have BX2 := Lib.hid bx2
  have BX3 := Lib.hid bx3
  have BX4 := Lib.hid bx4
  clear bx0 bx1 bx2 bx3 bx4
  refine wp_seq_k fun K hK => ?_
  replace hK := Lib.hid hK
  refine wp_region_plan 22 [] [] (fun _ => 0) (fun _ => .cells #[] 0) [(true, 0), (true, 1), (true, 2), (true, 3), (true, 4), (true, 5), (true, 6), (true, 7), (true, 8), (true, 9), (true, 10), (true, 11), (true, 12), (true, 13), (true, 14), (true, 15), (true, 16), (true, 17), (true, 18), (true, 19), (true, 20), (true, 21)] (by kernel_rfl) (by kernel_rfl) (fun i hi => by cases hi) (fun i hi => by cases hi) (fun _ _ _ _ _ h => h) (fun T hT => ?_)
  iterate 3
    refine wpPlan_takeL (v := ?_) rfl (by rfl) (fun w' hw => ?_) ?_
    rotate_left
    · go_simp
      with_reducible rfl
    simp only [Act.put, rA, rB, rC]
  refine wpPlan_callL rfl (by rfl) Tryz.call31 (fun w' hw => ppint_any 2 2 (qn 2) (qn 2) _ rfl rfl (by decide) (by decide) (by decide) (by decide)) (by rfl) ?_
  simp only [Act.put, rA, rB, rC]
  refine wpPlan_callL rfl (by rfl) Tryz.call10 (fun w' hw => pcircle_any (qn 0) (qn 0) (qn 2) (qn 0) (qn 0) (qn 2) (qn 2) (qn 2) (0) (1) (0) _ (by decide +kernel) (by decide +kernel) (by decide) (by omega) (by omega) (by omega) (by omega) (by omega) (by omega) (by omega) (by omega)) (by rfl) ?_
  simp only [Act.put, rA, rB, rC]
  iterate 5
    refine wpPlan_takeL (v := ?_) rfl (by rfl) (fun w' hw => ?_) ?_
    rotate_left
    · go_simp
      with_reducible rfl
    simp only [Act.put, rA, rB, rC]
  refine wpPlan_callL rfl (by rfl) Tryz.call31 (fun w' hw => ppint_any 1 1 (qn 1) (qn 1) _ rfl rfl (by decide) (by decide) (by decide) (by decide)) (by rfl) ?_
  simp only [Act.put, rA, rB, rC]
  refine wpPlan_callL rfl (by rfl) Tryz.call10 (fun w' hw => pcircle_any (qn 0) (qn 0) (qn 2) (qn 0) (qn 0) (qn 2) (qn 1) (qn 1) (1) (1) (1) _ (by decide +kernel) (by decide +kernel) (by decide) (by omega) (by omega) (by omega) (by omega) (by omega) (by omega) (by omega) (by omega)) (by rfl) ?_
  simp only [Act.put, rA, rB, rC]
  iterate 6
    refine wpPlan_takeL (v := ?_) rfl (by rfl) (fun w' hw => ?_) ?_
    rotate_left
    · go_simp
      with_reducible rfl
    simp only [Act.put, rA, rB, rC]
  refine wpPlan_callL rfl (by rfl) Tryz.call31 (fun w' hw => ppint_any 3 3 (qn 3) (qn 3) _ rfl rfl (by decide) (by decide) (by decide) (by decide)) (by rfl) ?_
  simp only [Act.put, rA, rB, rC]
  refine wpPlan_callL rfl (by rfl) Tryz.call10 (fun w' hw => pcircle_any (qn 0) (qn 0) (qn 2) (qn 0) (qn 0) (qn 2) (qn 3) (qn 3) (-1) (1) (-1) _ (by decide +kernel) (by decide +kernel) (by decide) (by omega) (by omega) (by omega) (by omega) (by omega) (by omega) (by omega) (by omega)) (by rfl) ?_
  simp only [Act.put, rA, rB, rC]
  iterate 2
    refine wpPlan_takeL (v := ?_) rfl (by rfl) (fun w' hw => ?_) ?_
    rotate_left
    · go_simp
      with_reducible rfl
    simp only [Act.put, rA, rB, rC]
  refine wpPlan_nil (hT.out _ _ ?_); clear hT T
  intro G vw6 hg hf
  simp only [puts, Act.put, rA, rB, rC, rD, rE, ↓reduceIte, Nat.reduceEqDiff]
  clear lx0 lx3 lx4
  have HG := Lib.hid (hg)
  clear hg
  replace BX0 := bG BX0 HG
  replace BX1 := bG BX1 HG
  replace BX2 := bG BX2 HG
  replace BX3 := bG BX3 HG
  replace BX4 := bG BX4 HG
  have r0 := Gr.refl vw6
  go_wp2
  refine hK.out _ _ ?_; clear hK K
  show Code.wp _ _ _ _ _
  clear r0
  refine forgetW (fun w2 => Bx w2 gx0 38 #[.int .u64 ((lo (Int.natAbs ((qn 0).num)) : Nat) : Int), .string (bg (Int.natAbs ((qn 0).num))), .bool (decide (((qn 0).num) < 0)), .int .u64 (lo ((qn 0).den - 1)), .string (bg ((qn 0).den - 1)), .int .u64 ((lo (Int.natAbs ((qn 0).num)) : Nat) : Int), .string (bg (Int.natAbs ((qn 0).num))), .bool (decide (((qn 0).num) < 0)), .int .u64 (lo ((qn 0).den - 1)), .string (bg ((qn 0).den - 1))] ∧ Bx w2 gx1 38 #[.int .u64 ((lo (Int.natAbs ((qn 1).num)) : Nat) : Int), .string (bg (Int.natAbs ((qn 1).num))), .bool (decide (((qn 1).num) < 0)), .int .u64 (lo ((qn 1).den - 1)), .string (bg ((qn 1).den - 1)), .int .u64 ((lo (Int.natAbs ((qn 1).num)) : Nat) : Int), .string (bg (Int.natAbs ((qn 1).num))), .bool (decide (((qn 1).num) < 0)), .int .u64 (lo ((qn 1).den - 1)), .string (bg ((qn 1).den - 1))] ∧ Bx w2 gx2 38 #[.int .u64 ((lo (Int.natAbs ((qn 1).num)) : Nat) : Int), .string (bg (Int.natAbs ((qn 1).num))), .bool (decide (((qn 1).num) < 0)), .int .u64 (lo ((qn 1).den - 1)), .string (bg ((qn 1).den - 1)), .int .u64 ((lo (Int.natAbs ((qn 0).num)) : Nat) : Int), .string (bg (Int.natAbs ((qn 0).num))), .bool (decide (((qn 0).num) < 0)), .int .u64 (lo ((qn 0).den - 1)), .string (bg ((qn 0).den - 1))] ∧ Below w.heap.size w w2) ⟨BX0.out, BX1.out, BX2.out, HB.out.trans (HG.out.mono HB.out.size)⟩ ?_
  clear HB HG BX0 BX1 BX2 BX3 BX4
  rintro Wx6 ⟨bx0, bx1, bx2, HB⟩
  replace HB := Lib.hid HB
  -- region 7
  have lx0 := bx0.cells
  have lx1 := bx1.cells
  have lx2 := bx2.cells
  have BX0 := Lib.hid bx0
  have BX1 := Lib.hid bx1
  have BX2 := Lib.hid bx2
  clear bx0 bx1 bx2
  refine wp_seq_k fun K hK => ?_
  replace hK := Lib.hid hK
  refine wp_region_plan 26 [] [] (fun _ => 0) (fun _ => .cells #[] 0) [(true, 0), (true, 1), (true, 2), (true, 3), (true, 4), (true, 5), (true, 6), (true, 7), (true, 8), (true, 9), (true, 10), (true, 11), (true, 12), (true, 13), (true, 14), (true, 15), (true, 16), (true, 17), (true, 18), (true, 19), (true, 20), (true, 21), (true, 22), (true, 23), (true, 24), (true, 25)] (by kernel_rfl) (by kernel_rfl) (fun i hi => by cases hi) (fun i hi => by cases hi) (fun _ _ _ _ _ h => h) (fun T hT => ?_)
  iterate 1
    refine wpPlan_takeL (v := ?_) rfl (by rfl) (fun w' hw => ?_) ?_
    rotate_left
    · go_simp
      with_reducible rfl
    simp only [Act.put, rA, rB, rC]
  refine wpPlan_callL rfl (by rfl) Tryz.call31 (fun w' hw => ppint_any 1 0 (qn 1) (qn 0) _ rfl rfl (by decide) (by decide) (by decide) (by decide)) (by rfl) ?_
  simp only [Act.put, rA, rB, rC]
  refine wpPlan_callL rfl (by rfl) Tryz.call31 (fun w' hw => ppint_any 0 1 (qn 0) (qn 1) _ rfl rfl (by decide) (by decide) (by decide) (by decide)) (by rfl) ?_
  simp only [Act.put, rA, rB, rC]
  refine wpPlan_callL rfl (by rfl) Tryz.call6 (fun w' hw => pturn_any (qn 0) (qn 0) (qn 1) (qn 0) (qn 0) (qn 1) (1) _ (by decide +kernel) (by omega) (by omega) (by omega) (by omega) (by omega) (by omega)) (by rfl) ?_
  simp only [Act.put, rA, rB, rC]
  iterate 10
    refine wpPlan_takeL (v := ?_) rfl (by rfl) (fun w' hw => ?_) ?_
    rotate_left
    · go_simp
      with_reducible rfl
    simp only [Act.put, rA, rB, rC]
  refine wpPlan_callL rfl (by rfl) Tryz.call31 (fun w' hw => ppint_any 1 1 (qn 1) (qn 1) _ rfl rfl (by decide) (by decide) (by decide) (by decide)) (by rfl) ?_
  simp only [Act.put, rA, rB, rC]
  iterate 8
    refine wpPlan_takeL (v := ?_) rfl (by rfl) (fun w' hw => ?_) ?_
    rotate_left
    · go_simp
      with_reducible rfl
    simp only [Act.put, rA, rB, rC]
  refine wpPlan_callL rfl (by rfl) Tryz.call31 (fun w' hw => ppint_any 1 0 (qn 1) (qn 0) _ rfl rfl (by decide) (by decide) (by decide) (by decide)) (by rfl) ?_
  simp only [Act.put, rA, rB, rC]
  iterate 2
    refine wpPlan_takeL (v := ?_) rfl (by rfl) (fun w' hw => ?_) ?_
    rotate_left
    · go_simp
      with_reducible rfl
    simp only [Act.put, rA, rB, rC]
  refine wpPlan_nil (hT.out _ _ ?_); clear hT T
  intro G vw7 hg hf
  simp only [puts, Act.put, rA, rB, rC, rD, rE, ↓reduceIte, Nat.reduceEqDiff]
  clear lx0 lx1 lx2
  have HG := Lib.hid (hg)
  clear hg
  replace BX0 := bG BX0 HG
  replace BX1 := bG BX1 HG
  replace BX2 := bG BX2 HG
  have r0 := Gr.refl vw7
  go_wp2
  refine hK.out _ _ ?_; clear hK K
  show Code.wp _ _ _ _ _
  clear r0
  refine forgetW (fun w2 => Below w.heap.size w w2) (HB.out.trans (HG.out.mono HB.out.size)) ?_
  clear HB HG BX0 BX1 BX2
  rintro Wx7 HB
  replace HB := Lib.hid HB
  refine wp_ret ?_
  try simp only [Exit.then, Exit.inBlock]
  have r0 := Gr.refl Wx7
  exact bodyPost_ret (v := .bool true) (by simp [results, Tryz.results12, go_sem]) rfl ⟨rfl, HB.out⟩

end Go.Proofs.YtenpbnmmadbkdaaGreat


/- gussetlaw03.Q.Of, gussetlaw23.P.Of; plain facts on orientation. -/
namespace Go.Proofs.YtenpbnmmadbkdaaGreat
open Go.RowKit
set_option linter.unusedSimpArgs false
set_option linter.unusedVariables false
attribute [local go_sem ↓] Go.wp_at_zero Go.wp_at_succ
attribute [local go_sem ↓] eq_nat eq_nat_zero eq_int eq_frac eq_pt
set_option maxHeartbeats 1000000 in
theorem qof_any (n d m : Int) (z : Rat) (w : World) (hm : max d 1 = m) (hz : (n : Rat) / (m : Rat) = z) (h1 : -9223372036854775808 ≤ n) (h2 : n ≤ 9223372036854775807) (h3 : 0 ≤ d) (h4 : d ≤ 4294967295) :
    Calls Tryz.prog 13 #[(Value.agg #[.int .i64 (n), .int .u32 (d)])] w fun e w' => e = .returned (.agg #[.int .u64 (lo z.num.natAbs), .string (bg z.num.natAbs), .bool (decide (z.num < 0)), .int .u64 (lo (z.den - 1)), .string (bg (z.den - 1))]) ∧ Below w.heap.size w w' := by
  have hm1 : 1 ≤ m := by omega
  have hm2 : m ≤ 4294967295 := by omega
  have hwm : IntKind.i64.wrap m = m := by rw [IntKind.wrap_i64]; omega
  replace hz := Lib.hid hz
  go_enter Tryz.func13, Tryz.ntmps13
  -- region 0
  refine wp_seq_k fun K hK => ?_
  replace hK := Lib.hid hK
  refine wp_region_lit ?_
  go_wp2
  refine hK.out _ _ ?_; clear hK K
  show Code.wp _ _ _ _ _
  refine forgetW (fun w2 => Bx w2 (w.heap.size) 24 #[.int .i64 (n), .int .u32 (d)] ∧ Bx w2 (w.heap.size + 1) 36 #[.int .u64 0, .string ⟨#[]⟩, .bool false, .int .u64 0, .string ⟨#[]⟩] ∧ Below w.heap.size w w2) ⟨(Bx.at rfl).alloc _, Bx.at (by simp), ((Below.refl _ _).alloc (Nat.le_refl _) _).alloc (by simp) _⟩ ?_
  rintro Wx ⟨bx0, bx1, HB⟩
  replace HB := Lib.hid HB
  -- region 1
  have HZ1 : Hid (((n : Int) : Rat) / ((m : Int) : Rat) = z) := Lib.hid (hz.out)
  have lx0 := bx0.cells
  have BX0 := Lib.hid bx0
  have BX1 := Lib.hid bx1
  clear bx0 bx1
  refine wp_seq_k fun K hK => ?_
  replace hK := Lib.hid hK
  refine wp_region_seqplan 10 [(true, 0), (true, 1), (true, 2), (true, 3), (true, 4), (true, 5), (true, 6), (true, 7), (true, 8), (true, 9)] (by rfl) (by simp) (fun T hT => ?_)
  iterate 6
    refine wpPlan_takeL (v := ?_) rfl (by rfl) (fun w' hw => ?_) ?_
    rotate_left
    · go_simp
      with_reducible rfl
    simp only [Act.put, rA, rB, rC]
  refine wpPlan_callL rfl (by rfl) Tryz.call33 (fun w' hw => fof_any (n) (m) (z) _ HZ1.out (by omega) (by omega) (by omega) (by omega) (by omega)) (by rfl) ?_
  simp only [Act.put, rA, rB, rC]
  iterate 3
    refine wpPlan_takeL (v := ?_) rfl (by rfl) (fun w' hw => ?_) ?_
    rotate_left
    · go_simp
      with_reducible rfl
    simp only [Act.put, rA, rB, rC]
  refine wpPlan_nil (hT.out _ _ ?_); clear hT T
  intro vw1 hg
  simp only [puts, Act.put, rA, rB, rC, rD, rE, ↓reduceIte, Nat.reduceEqDiff]
  clear lx0
  have HG := Lib.hid (hg)
  clear hg
  replace BX0 := bG BX0 HG
  replace BX1 := bG BX1 HG
  have r0 := Gr.refl vw1
  go_wp2
  refine hK.out _ _ ?_; clear hK K
  show Code.wp _ _ _ _ _
  clear r0
  have hsz : w.heap.size ≤ vw1.heap.size := Nat.le_trans HB.out.size HG.out.size
  have mx0 : w.heap.size < vw1.heap.size := BX0.out.lt
  have mx1 : w.heap.size + 1 < vw1.heap.size := BX1.out.lt
  refine forgetW (fun w2 => Bx w2 (w.heap.size + 1) 36 #[.int .u64 0, .string ⟨#[]⟩, .bool false, .int .u64 0, .string ⟨#[]⟩] ∧ Bx w2 (vw1.heap.size) 36 #[.int .u64 (lo z.num.natAbs), .string (bg z.num.natAbs), .bool (decide (z.num < 0)), .int .u64 (lo (z.den - 1)), .string (bg (z.den - 1))] ∧ Below w.heap.size w w2) ⟨(BX1.out).alloc _, (Bx.at (by simp) : Bx _ (vw1.heap.size) _ _), (HB.out.trans (HG.out.mono HB.out.size)).alloc (by first | omega | (simp; omega)) _⟩ ?_
  clear HB HG BX0 BX1
  rintro Wx1 ⟨bx1, bx2, HB⟩
  replace HB := Lib.hid HB
  have yx2 : w.heap.size ≤ vw1.heap.size := by omega
  have qx0_2 : w.heap.size < vw1.heap.size := by omega
  have qx1_2 : w.heap.size + 1 < vw1.heap.size := by omega
  generalize hx2 : vw1.heap.size = gx2 at *
  clear hx2
  clear hsz mx0 mx1
  -- region 2
  have lx2 := bx2.cells
  have BX1 := Lib.hid bx1
  have BX2 := Lib.hid bx2
  clear bx1 bx2
  refine wp_seq_k fun K hK => ?_
  replace hK := Lib.hid hK
  refine wp_region_seqplan 1 [(true, 0)] (by rfl) (by simp) (fun T hT => ?_)
  iterate 1
    refine wpPlan_takeL (v := ?_) rfl (by rfl) (fun w' hw => ?_) ?_
    rotate_left
    · go_simp
      with_reducible rfl
    simp only [Act.put, rA, rB, rC]
  refine wpPlan_nil (hT.out _ _ ?_); clear hT T
  intro vw2 hg
  simp only [puts, Act.put, rA, rB, rC, rD, rE, ↓reduceIte, Nat.reduceEqDiff]
  clear lx2
  have HG := Lib.hid (hg)
  clear hg
  replace BX1 := bG BX1 HG
  replace BX2 := bG BX2 HG
  have lx1 := BX1.out.cells; have fx1 := BX1.out.free
  have r0 := Gr.refl vw2
  go_wp2
  refine hK.out _ _ ?_; clear hK K
  show Code.wp _ _ _ _ _
  clear lx1 fx1
  clear r0
  refine forgetW (fun w2 => Bx w2 (w.heap.size + 1) 36 #[.int .u64 (lo z.num.natAbs), .string (bg z.num.natAbs), .bool (decide (z.num < 0)), .int .u64 (lo (z.den - 1)), .string (bg (z.den - 1))] ∧ Below w.heap.size w w2) ⟨((((((BX1.out).set 0 _).set 1 _).set 2 _).set 3 _).set 4 _).eq (by simp only [rA, rB, rC]), sc5 (HB.out.trans (HG.out.mono HB.out.size)) (by show w.heap.size ≤ w.heap.size + 1; omega)⟩ ?_
  clear HB HG BX1 BX2
  rintro Wx2 ⟨bx1, HB⟩
  replace HB := Lib.hid HB
  refine wp_ret ?_
  try simp only [Exit.then, Exit.inBlock]
  have lx1 := bx1.cells
  have r0 := Gr.refl Wx2
  exact bodyPost_ret (v := .agg #[.int .u64 (lo z.num.natAbs), .string (bg z.num.natAbs), .bool (decide (z.num < 0)), .int .u64 (lo (z.den - 1)), .string (bg (z.den - 1))]) (by simp [results, Tryz.results13, go_sem, lx1 _ r0]) rfl ⟨rfl, HB.out⟩

/-- the number that a pair stands for -/
def qv (n d : Int) : Rat := (n : Rat) / ((max d 1 : Int) : Rat)
theorem qv_any (n d : Int) (z : Rat) (w : World) (hz : qv n d = z) (h1 : -9223372036854775808 ≤ n) (h2 : n ≤ 9223372036854775807) (h3 : 0 ≤ d) (h4 : d ≤ 4294967295) :
    Calls Tryz.prog 13 #[.agg #[.int .i64 n, .int .u32 d]] w fun e w' => e = .returned (Value.agg #[.int .u64 (lo z.num.natAbs), .string (bg z.num.natAbs), .bool (decide (z.num < 0)), .int .u64 (lo (z.den - 1)), .string (bg (z.den - 1))]) ∧ Below w.heap.size w w' := qof_any n d (max d 1) z w rfl hz h1 h2 h3 h4
theorem sz_qv (n d : Int) (h1 : -9223372036854775808 ≤ n) (h2 : n ≤ 9223372036854775807) (h3 : 0 ≤ d) (h4 : d ≤ 4294967295) : sz (qv n d) ≤ 4 := sz_quot n (max d 1) h1 h2 (by omega) (by omega)

set_option maxHeartbeats 1000000 in
theorem pof_any (n0x d0x n0y d0y : Int) (z1 z2 : Rat) (w : World) (hz1 : qv n0x d0x = z1) (hz2 : qv n0y d0y = z2) (h1_0x : -9223372036854775808 ≤ n0x) (h2_0x : n0x ≤ 9223372036854775807) (h3_0x : 0 ≤ d0x) (h4_0x : d0x ≤ 4294967295) (h1_0y : -9223372036854775808 ≤ n0y) (h2_0y : n0y ≤ 9223372036854775807) (h3_0y : 0 ≤ d0y) (h4_0y : d0y ≤ 4294967295) :
    Calls Tryz.prog 4 #[(Value.agg #[.int .i64 (n0x), .int .u32 (d0x), .int .i64 (n0y), .int .u32 (d0y)])] w fun e w' => e = .returned (.agg #[.int .u64 (lo z1.num.natAbs), .string (bg z1.num.natAbs), .bool (decide (z1.num < 0)), .int .u64 (lo (z1.den - 1)), .string (bg (z1.den - 1)), .int .u64 (lo z2.num.natAbs), .string (bg z2.num.natAbs), .bool (decide (z2.num < 0)), .int .u64 (lo (z2.den - 1)), .string (bg (z2.den - 1))]) ∧ Below w.heap.size w w' := by
  replace hz1 := Lib.hid hz1
  replace hz2 := Lib.hid hz2
  go_enter Tryz.func4, Tryz.ntmps4
  -- region 0
  refine wp_seq_k fun K hK => ?_
  replace hK := Lib.hid hK
  refine wp_region_lit ?_
  go_wp2
  refine hK.out _ _ ?_; clear hK K
  show Code.wp _ _ _ _ _
  refine forgetW (fun w2 => Bx w2 (w.heap.size) 26 #[.int .i64 (n0x), .int .u32 (d0x), .int .i64 (n0y), .int .u32 (d0y)] ∧ Bx w2 (w.heap.size + 1) 38 #[.int .u64 0, .string ⟨#[]⟩, .bool false, .int .u64 0, .string ⟨#[]⟩, .int .u64 0, .string ⟨#[]⟩, .bool false, .int .u64 0, .string ⟨#[]⟩] ∧ Below w.heap.size w w2) ⟨(Bx.at rfl).alloc _, Bx.at (by simp), ((Below.refl _ _).alloc (Nat.le_refl _) _).alloc (by simp) _⟩ ?_
  rintro Wx ⟨bx0, bx1, HB⟩
  replace HB := Lib.hid HB
  -- region 1
  have HZ1 : Hid (qv (n0x) (d0x) = z1) := Lib.hid (hz1.out)
  have HZ2 : Hid (qv (n0y) (d0y) = z2) := Lib.hid (hz2.out)
  have lx0 := bx0.cells
  have BX0 := Lib.hid bx0
  have BX1 := Lib.hid bx1
  clear bx0 bx1
  refine wp_seq_k fun K hK => ?_
  replace hK := Lib.hid hK
  refine wp_region_plan 7 [] [] (fun _ => 0) (fun _ => .cells #[] 0) [(true, 0), (true, 1), (true, 3), (true, 4), (true, 2), (true, 5), (true, 6)] (by kernel_rfl) (by kernel_rfl) (fun i hi => by cases hi) (fun i hi => by cases hi) (fun _ _ _ _ _ h => h) (fun T hT => ?_)
  iterate 4
    refine wpPlan_takeL (v := ?_) rfl (by rfl) (fun w' hw => ?_) ?_
    rotate_left
    · go_simp
      with_reducible rfl
    simp only [Act.put, rA, rB, rC]
  refine wpPlan_callL rfl (by rfl) Tryz.call13 (fun w' hw => qv_any (n0x) (d0x) (z1) _ HZ1.out (by omega) (by omega) (by omega) (by omega)) (by rfl) ?_
  simp only [Act.put, rA, rB, rC]
  refine wpPlan_callL rfl (by rfl) Tryz.call13 (fun w' hw => qv_any (n0y) (d0y) (z2) _ HZ2.out (by omega) (by omega) (by omega) (by omega)) (by rfl) ?_
  simp only [Act.put, rA, rB, rC]
  iterate 1
    refine wpPlan_takeL (v := ?_) rfl (by rfl) (fun w' hw => ?_) ?_
    rotate_left
    · go_simp
      with_reducible rfl
    simp only [Act.put, rA, rB, rC]
  refine wpPlan_nil (hT.out _ _ ?_); clear hT T
  intro G vw1 hg hf
  simp only [puts, Act.put, rA, rB, rC, rD, rE, ↓reduceIte, Nat.reduceEqDiff]
  clear lx0
  have HG := Lib.hid (hg)
  clear hg
  replace BX0 := bG BX0 HG
  replace BX1 := bG BX1 HG
  have lx1 := BX1.out.cells; have fx1 := BX1.out.free
  have r0 := Gr.refl vw1
  go_wp2
  refine hK.out _ _ ?_; clear hK K
  show Code.wp _ _ _ _ _
  clear lx1 fx1
  clear r0
  refine forgetW (fun w2 => Bx w2 (w.heap.size + 1) 38 #[.int .u64 (lo z1.num.natAbs), .string (bg z1.num.natAbs), .bool (decide (z1.num < 0)), .int .u64 (lo (z1.den - 1)), .string (bg (z1.den - 1)), .int .u64 (lo z2.num.natAbs), .string (bg z2.num.natAbs), .bool (decide (z2.num < 0)), .int .u64 (lo (z2.den - 1)), .string (bg (z2.den - 1))] ∧ Below w.heap.size w w2) ⟨(((((((((((BX1.out).set 0 _).set 1 _).set 2 _).set 3 _).set 4 _).set 5 _).set 6 _).set 7 _).set 8 _).set 9 _).eq (by simp only [rA, rB, rC]), sc10 (HB.out.trans (HG.out.mono HB.out.size)) (by show w.heap.size ≤ w.heap.size + 1; omega)⟩ ?_
  clear HB HG BX0 BX1
  rintro Wx1 ⟨bx1, HB⟩
  replace HB := Lib.hid HB
  refine wp_ret ?_
  try simp only [Exit.then, Exit.inBlock]
  have lx1 := bx1.cells
  have r0 := Gr.refl Wx1
  exact bodyPost_ret (v := .agg #[.int .u64 (lo z1.num.natAbs), .string (bg z1.num.natAbs), .bool (decide (z1.num < 0)), .int .u64 (lo (z1.den - 1)), .string (bg (z1.den - 1)), .int .u64 (lo z2.num.natAbs), .string (bg z2.num.natAbs), .bool (decide (z2.num < 0)), .int .u64 (lo (z2.den - 1)), .string (bg (z2.den - 1))]) (by simp [results, Tryz.results4, go_sem, lx1 _ r0]) rfl ⟨rfl, HB.out⟩

theorem sgQ_bd (q : Rat) : -1 ≤ sgQ q ∧ sgQ q ≤ 1 := by unfold sgQ; split; decide; split <;> decide
theorem sgQ_negate (q : Rat) : sgQ (-q) = -sgQ q := by
  unfold sgQ
  by_cases h : q = 0
  · subst h; simp
  · have h2 : ¬ (-q = 0) := by grind
    rw [if_neg h, if_neg h2]
    by_cases h3 : q < 0
    · have : ¬ (-q < 0) := by grind
      rw [if_pos h3, if_neg this]; rfl
    · have : -q < 0 := by grind
      rw [if_neg h3, if_pos this]
theorem turn_swap (a1 a2 b1 b2 c1 c2 : Rat) : turn b1 b2 a1 a2 c1 c2 = -turn a1 a2 b1 b2 c1 c2 := by
  unfold turn; rw [← sgQ_negate]; congr 1; grind
theorem turn_rot (a1 a2 b1 b2 c1 c2 : Rat) : turn b1 b2 c1 c2 a1 a2 = turn a1 a2 b1 b2 c1 c2 := by
  unfold turn; congr 1; grind
theorem turn_move (a1 a2 b1 b2 c1 c2 x y : Rat) : turn (a1 + x) (a2 + y) (b1 + x) (b2 + y) (c1 + x) (c2 + y) = turn a1 a2 b1 b2 c1 c2 := by
  unfold turn; congr 1; grind
theorem five (b1 b2 c1 c2 d1 d2 e1 e2 : Rat) : (b1 * c2 - b2 * c1) * (d1 * e2 - d2 * e1) - (b1 * d2 - b2 * d1) * (c1 * e2 - c2 * e1) + (b1 * e2 - b2 * e1) * (c1 * d2 - c2 * d1) = 0 := by grind

end Go.Proofs.YtenpbnmmadbkdaaGreat


/- plain geometry of segments. -/
namespace Go.Proofs.YtenpbnmmadbkdaaGreat
open Go.RowKit
set_option linter.unusedSimpArgs false
set_option linter.unusedVariables false
attribute [local go_sem ↓] Go.wp_at_zero Go.wp_at_succ
/-- a is not behind b -/
def ple (a b : Rat × Rat) : Prop := plt b.1 b.2 a.1 a.2 = false
theorem ple_iff (a b : Rat × Rat) : ple a b ↔ a.1 < b.1 ∨ (a.1 = b.1 ∧ a.2 ≤ b.2) := by
  unfold ple plt
  by_cases h : b.1 = a.1
  · rw [if_pos h]
    constructor
    · intro e
      have := of_decide_eq_false e
      exact .inr ⟨h.symm, by grind⟩
    · rintro (e | e)
      · grind
      · exact decide_eq_false (by grind)
  · rw [if_neg h]
    constructor
    · intro e
      have := of_decide_eq_false e
      exact .inl (by grind)
    · rintro (e | e)
      · exact decide_eq_false (by grind)
      · exact absurd e.1.symm h
theorem ple_refl (a : Rat × Rat) : ple a a := (ple_iff _ _).2 (.inr ⟨rfl, Rat.le_refl⟩)
theorem ple_trans {a b c : Rat × Rat} (h1 : ple a b) (h2 : ple b c) : ple a c := by
  rw [ple_iff] at *
  grind
theorem ple_total (a b : Rat × Rat) : ple a b ∨ ple b a := by
  rw [ple_iff, ple_iff]
  grind
theorem ple_antisymm {a b : Rat × Rat} (h1 : ple a b) (h2 : ple b a) : a = b := by
  rw [ple_iff] at h1 h2
  exact Prod.ext (by grind) (by grind)
theorem mm {a b : Rat × Rat} (h : ple a b) : pmn a b = a ∧ pmx a b = b := by
  have h' : plt b.1 b.2 a.1 a.2 = false := h
  unfold pmn pmx
  rw [h']
  refine ⟨rfl, ?_⟩
  cases e : plt a.1 a.2 b.1 b.2
  · have h2 : ple b a := e
    exact ple_antisymm h h2
  · rfl
theorem mm' {a b : Rat × Rat} (h : ple b a) : pmn a b = b ∧ pmx a b = a := by
  have h' : plt a.1 a.2 b.1 b.2 = false := h
  unfold pmn pmx
  rw [h']
  refine ⟨?_, rfl⟩
  cases e : plt b.1 b.2 a.1 a.2
  · have h2 : ple a b := e
    exact ple_antisymm h2 h
  · rfl
theorem pmn_comm (a b : Rat × Rat) : pmn a b = pmn b a := by
  rcases ple_total a b with h | h
  · rw [(mm h).1, (mm' h).1]
  · rw [(mm' h).1, (mm h).1]
theorem pmx_comm (a b : Rat × Rat) : pmx a b = pmx b a := by
  rcases ple_total a b with h | h
  · rw [(mm h).2, (mm' h).2]
  · rw [(mm' h).2, (mm h).2]
theorem pmn_l (a b : Rat × Rat) : ple (pmn a b) a := by
  rcases ple_total a b with h | h
  · rw [(mm h).1]; exact ple_refl a
  · rw [(mm' h).1]; exact h
theorem pmn_r (a b : Rat × Rat) : ple (pmn a b) b := by rw [pmn_comm]; exact pmn_l b a
theorem pmx_l (a b : Rat × Rat) : ple a (pmx a b) := by
  rcases ple_total a b with h | h
  · rw [(mm h).2]; exact h
  · rw [(mm' h).2]; exact ple_refl a
theorem pmx_r (a b : Rat × Rat) : ple b (pmx a b) := by rw [pmx_comm]; exact pmx_l b a
theorem le_pmn {x a b : Rat × Rat} (h1 : ple x a) (h2 : ple x b) : ple x (pmn a b) := by unfold pmn; split <;> assumption
theorem pmx_le {x a b : Rat × Rat} (h1 : ple a x) (h2 : ple b x) : ple (pmx a b) x := by unfold pmx; split <;> assumption
theorem on_iff (a b p : Rat × Rat) : onB a.1 a.2 b.1 b.2 p.1 p.2 = true ↔ tn a b p = 0 ∧ ple (pmn a b) p ∧ ple p (pmx a b) := by
  have e : onB a.1 a.2 b.1 b.2 p.1 p.2 = ((tn a b p == 0) && (!plt p.1 p.2 (pmn a b).1 (pmn a b).2 && !plt (pmx a b).1 (pmx a b).2 p.1 p.2)) := by
    unfold onB pmn pmx tn
    cases plt b.1 b.2 a.1 a.2 <;> cases plt a.1 a.2 b.1 b.2 <;> rfl
  rw [e]
  simp [ple]
theorem tn_swap (a b c : Rat × Rat) : tn b a c = -tn a b c := turn_swap a.1 a.2 b.1 b.2 c.1 c.2
theorem tn_aba (a b : Rat × Rat) : tn a b a = 0 := by
  unfold tn turn
  rw [show (b.1 - a.1) * (a.2 - a.2) - (b.2 - a.2) * (a.1 - a.1) = 0 by grind]
  rfl
theorem tn_abb (a b : Rat × Rat) : tn a b b = 0 := by
  unfold tn turn
  rw [show (b.1 - a.1) * (b.2 - a.2) - (b.2 - a.2) * (b.1 - a.1) = 0 by grind]
  rfl
theorem seg_le (a b p : Rat × Rat) (t : Rat) (h0 : 0 ≤ t) (h1 : t ≤ 1) (e1 : p.1 = a.1 + (b.1 - a.1) * t) (e2 : p.2 = a.2 + (b.2 - a.2) * t) (h : ple a b) : ple a p ∧ ple p b := by
  by_cases z : t = 0
  · have : p = a := by subst z; exact Prod.ext (by grind) (by grind)
    rw [this]
    exact ⟨ple_refl a, h⟩
  by_cases o : t = 1
  · have : p = b := by subst o; exact Prod.ext (by grind) (by grind)
    rw [this]
    exact ⟨h, ple_refl b⟩
  rw [ple_iff] at *
  rw [ple_iff]
  rcases h with h | ⟨h, h'⟩
  · have n1 : 0 < (b.1 - a.1) * t := Rat.mul_pos (by grind) (by grind)
    have n2 : 0 < (b.1 - a.1) * (1 - t) := Rat.mul_pos (by grind) (by grind)
    exact ⟨.inl (by grind), .inl (by grind)⟩
  · have hp : p.1 = a.1 := by rw [e1, h]; grind
    have n1 : 0 ≤ (b.2 - a.2) * t := Rat.mul_nonneg (by grind) h0
    have n2 : 0 ≤ (b.2 - a.2) * (1 - t) := Rat.mul_nonneg (by grind) (by grind)
    exact ⟨.inr ⟨hp.symm, by grind⟩, .inr ⟨by grind, by grind⟩⟩
theorem on_seg (a b p : Rat × Rat) (t : Rat) (h0 : 0 ≤ t) (h1 : t ≤ 1) (e1 : p.1 = a.1 + (b.1 - a.1) * t) (e2 : p.2 = a.2 + (b.2 - a.2) * t) : onB a.1 a.2 b.1 b.2 p.1 p.2 = true := by
  rw [on_iff]
  refine ⟨?_, ?_⟩
  · unfold tn turn
    rw [e1, e2, show (b.1 - a.1) * (a.2 + (b.2 - a.2) * t - a.2) - (b.2 - a.2) * (a.1 + (b.1 - a.1) * t - a.1) = 0 by grind]
    rfl
  · rcases ple_total a b with h | h
    · rw [(mm h).1, (mm h).2]
      exact seg_le a b p t h0 h1 e1 e2 h
    · rw [(mm' h).1, (mm' h).2]
      exact seg_le b a p (1 - t) (by grind) (by grind) (by grind) (by grind) h
theorem on_a (a b : Rat × Rat) : onB a.1 a.2 b.1 b.2 a.1 a.2 = true := on_seg a b a 0 Rat.le_refl (by decide) (by grind) (by grind)
theorem on_comm (a b p : Rat × Rat) (h : onB a.1 a.2 b.1 b.2 p.1 p.2 = true) : onB b.1 b.2 a.1 a.2 p.1 p.2 = true := by
  rw [on_iff] at *
  rw [tn_swap a b, pmn_comm b a, pmx_comm b a]
  exact ⟨by omega, h.2⟩
theorem piece_sym (a b c d : Rat × Rat) : pieceV d c b a = pieceV a b c d := by
  unfold pieceV
  rw [pmn_comm d c, pmn_comm b a, pmx_comm d c, pmx_comm b a, pmx_comm (pmn c d) (pmn a b), pmn_comm (pmx c d) (pmx a b)]
theorem crs_sym (a b c d : Rat × Rat) : crs d c b a = -crs a b c d := by unfold crs; grind
theorem cutP_sym (a b c d : Rat × Rat) (hk : crs a b c d ≠ 0) : cutP d c b a = cutP a b c d := by
  unfold cutP
  rw [crs_sym]
  have e : (b.1 - a.1) * (d.2 - c.2) - (b.2 - a.2) * (d.1 - c.1) = crs a b c d := rfl
  generalize crs a b c d = k at *
  exact Prod.ext (by grind) (by grind)
theorem cut_sym (a b c d : Rat × Rat) : cutV d c b a = cutV a b c d := by
  unfold cutV
  rw [tn_swap c d b, tn_swap c d a, tn_swap a b d, tn_swap a b c, Int.neg_mul_neg, Int.neg_mul_neg, piece_sym]
  by_cases h0 : tn a b c = 0 ∧ tn a b d = 0 ∧ tn c d a = 0 ∧ tn c d b = 0
  · rw [if_pos h0, if_pos (by omega)]
  rw [if_neg h0, if_neg (by omega)]
  by_cases h1 : 0 < tn a b c * tn a b d ∨ 0 < tn c d a * tn c d b
  · rw [if_pos h1, if_pos (by rw [Int.mul_comm (tn c d b), Int.mul_comm (tn a b d)]; exact h1.symm)]
  · rw [if_neg h1, if_neg (by rw [Int.mul_comm (tn c d b), Int.mul_comm (tn a b d)]; exact fun e => h1 e.symm), cutP_sym _ _ _ _ (crs_ne h0 h1)]
theorem nonneg_part {t k : Rat} (hk : 0 < k) (h : 0 ≤ t * k) : 0 ≤ t := by
  rcases Rat.le_total (a := 0) (b := t) with h1 | h1
  · exact h1
  · by_cases z : t = 0
    · rw [z]; exact Rat.le_refl
    · have := Rat.mul_pos (show 0 < -t by grind) hk
      grind
theorem cutP_on {a b c d : Rat × Rat} (hk : crs a b c d ≠ 0) (h1 : ¬ 0 < tn c d a * tn c d b) : onB a.1 a.2 b.1 b.2 (cutP a b c d).1 (cutP a b c d).2 = true := by
  obtain ⟨A, hA⟩ : ∃ A, A = (d.1 - c.1) * (a.2 - c.2) - (d.2 - c.2) * (a.1 - c.1) := ⟨_, rfl⟩
  obtain ⟨B, hB⟩ : ∃ B, B = (d.1 - c.1) * (b.2 - c.2) - (d.2 - c.2) * (b.1 - c.1) := ⟨_, rfl⟩
  have sA : tn c d a = sgQ A := by rw [hA]; rfl
  have sB : tn c d b = sgQ B := by rw [hB]; rfl
  have n1 : ¬ (0 < A ∧ 0 < B) := fun e => h1 (by rw [sA, sB, sgQ_pos e.1, sgQ_pos e.2]; decide)
  have n2 : ¬ (A < 0 ∧ B < 0) := fun e => h1 (by rw [sA, sB, sgQ_neg e.1, sgQ_neg e.2]; decide)
  have ek : crs a b c d = A - B := by rw [hA, hB]; unfold crs; grind
  have eX : (c.1 - a.1) * (d.2 - c.2) - (c.2 - a.2) * (d.1 - c.1) = A := by rw [hA]; grind
  have ht : (A / (A - B)) * (A - B) = A := Rat.div_mul_cancel (by rw [← ek]; exact hk)
  rw [ek] at hk
  refine on_seg a b _ (A / (A - B)) ?_ ?_ (by unfold cutP; rw [eX, ek]) (by unfold cutP; rw [eX, ek])
  · generalize A / (A - B) = t at *
    by_cases g : 0 < A - B
    · exact nonneg_part g (by grind)
    · exact nonneg_part (k := -(A - B)) (by grind) (by grind)
  · generalize A / (A - B) = t at *
    by_cases g : 0 < A - B
    · have := nonneg_part (t := 1 - t) g (by grind)
      grind
    · have := nonneg_part (t := 1 - t) (k := -(A - B)) (by grind) (by grind)
      grind
theorem pmn_or (a b : Rat × Rat) : pmn a b = a ∨ pmn a b = b := by unfold pmn; split <;> simp
theorem pmx_or (a b : Rat × Rat) : pmx a b = a ∨ pmx a b = b := by unfold pmx; split <;> simp
theorem cut_bd (a b c d : Rat × Rat) : (cutV a b c d).1 = 0 ∨ (cutV a b c d).1 = 1 ∨ (cutV a b c d).1 = 2 := by
  unfold cutV pieceV
  split
  · split
    · simp
    · split <;> simp
  · split <;> simp
theorem piece_on {a b c d p : Rat × Rat} {n : Int} (z1 : tn a b c = 0) (z2 : tn a b d = 0) (z3 : tn c d a = 0) (z4 : tn c d b = 0) (h : pieceV a b c d = (n, p)) (hn : n ≠ 0) : onB a.1 a.2 b.1 b.2 p.1 p.2 = true ∧ onB c.1 c.2 d.1 d.2 p.1 p.2 = true := by
  unfold pieceV at h
  cases hl : plt (pmn (pmx a b) (pmx c d)).1 (pmn (pmx a b) (pmx c d)).2 (pmx (pmn a b) (pmn c d)).1 (pmx (pmn a b) (pmn c d)).2
  · have hle : ple (pmx (pmn a b) (pmn c d)) (pmn (pmx a b) (pmx c d)) := hl
    rw [hl, if_neg (by decide)] at h
    have hp : pmx (pmn a b) (pmn c d) = p := by
      split at h <;> exact (Prod.mk.inj h).2
    have hor : p = a ∨ p = b ∨ p = c ∨ p = d := by
      rw [← hp]
      rcases pmx_or (pmn a b) (pmn c d) with e | e <;> rw [e]
      · rcases pmn_or a b with e | e <;> rw [e] <;> simp
      · rcases pmn_or c d with e | e <;> rw [e] <;> simp
    have t1 : tn a b p = 0 := by
      rcases hor with e | e | e | e <;> rw [e]
      · exact tn_aba a b
      · exact tn_abb a b
      · exact z1
      · exact z2
    have t2 : tn c d p = 0 := by
      rcases hor with e | e | e | e <;> rw [e]
      · exact z3
      · exact z4
      · exact tn_aba c d
      · exact tn_abb c d
    rw [hp] at hle
    rw [on_iff, on_iff]
    exact ⟨⟨t1, by rw [← hp]; exact pmx_l _ _, ple_trans hle (pmn_l _ _)⟩, ⟨t2, by rw [← hp]; exact pmx_r _ _, ple_trans hle (pmn_r _ _)⟩⟩
  · rw [hl, if_pos rfl] at h
    exact absurd (Prod.mk.inj h).1.symm hn
/-- a point that Cut hands back lies on both segments -/
theorem cut_on {a b c d p : Rat × Rat} {n : Int} (h : cutV a b c d = (n, p)) (hn : n ≠ 0) : onB a.1 a.2 b.1 b.2 p.1 p.2 = true ∧ onB c.1 c.2 d.1 d.2 p.1 p.2 = true := by
  have h' := h
  unfold cutV at h
  by_cases h0 : tn a b c = 0 ∧ tn a b d = 0 ∧ tn c d a = 0 ∧ tn c d b = 0
  · rw [if_pos h0] at h
    exact piece_on h0.1 h0.2.1 h0.2.2.1 h0.2.2.2 h hn
  rw [if_neg h0] at h
  by_cases h1 : 0 < tn a b c * tn a b d ∨ 0 < tn c d a * tn c d b
  · rw [if_pos h1] at h
    exact absurd (Prod.mk.inj h).1.symm hn
  rw [if_neg h1] at h
  have hk := crs_ne h0 h1
  have hp := (Prod.mk.inj h).2
  refine ⟨by rw [← hp]; exact cutP_on hk (fun e => h1 (.inr e)), ?_⟩
  rw [← hp, ← cutP_sym a b c d hk]
  refine on_comm d c _ (cutP_on (by rw [crs_sym]; grind) (fun e => h1 (.inl ?_)))
  rw [tn_swap a b d, tn_swap a b c, Int.neg_mul_neg, Int.mul_comm] at e
  exact e
/-- the midpoint -/
def mid (a b : Rat × Rat) : Rat × Rat := ((a.1 + b.1) * half, (a.2 + b.2) * half)
theorem mid_on (a b : Rat × Rat) : onB a.1 a.2 b.1 b.2 (mid a b).1 (mid a b).2 = true := by
  have hh := half_two
  exact on_seg a b _ half (by decide +kernel) (by decide +kernel) (by unfold mid; grind) (by unfold mid; grind)
theorem mid_cut (a b c : Rat × Rat) : (cutV a b (mid a b) c).1 ≠ 0 := by
  intro e
  have ho := (on_iff _ _ _).1 (mid_on a b)
  have t34 : tn (mid a b) c b = -tn (mid a b) c a := by
    have hh := half_two
    unfold tn turn mid
    rw [← sgQ_negate]
    congr 1
    generalize half = z at *
    obtain rfl : z = 1 / 2 := by grind
    grind
  unfold cutV at e
  by_cases h0 : tn a b (mid a b) = 0 ∧ tn a b c = 0 ∧ tn (mid a b) c a = 0 ∧ tn (mid a b) c b = 0
  · rw [if_pos h0] at e
    unfold pieceV at e
    have hl : ple (pmx (pmn a b) (pmn (mid a b) c)) (pmn (pmx a b) (pmx (mid a b) c)) := ple_trans (pmx_le ho.2.1 (pmn_l _ _)) (le_pmn ho.2.2 (pmx_l _ _))
    have hl' : plt (pmn (pmx a b) (pmx (mid a b) c)).1 (pmn (pmx a b) (pmx (mid a b) c)).2 (pmx (pmn a b) (pmn (mid a b) c)).1 (pmx (pmn a b) (pmn (mid a b) c)).2 = false := hl
    rw [hl', if_neg (by decide)] at e
    split at e <;> simp at e
  · rw [if_neg h0, if_neg] at e
    · simp at e
    · rintro (x | x)
      · rw [ho.1, Int.zero_mul] at x
        exact absurd x (by decide)
      · rw [t34] at x
        rcases tn_cases (mid a b) c a with q | q | q <;> rw [q] at x <;> revert x <;> decide
theorem cut_off {a b c d : Rat × Rat} (h : 0 < tn a b c * tn a b d) : (cutV a b c d).1 = 0 := by
  unfold cutV
  rw [if_neg (fun e => by rw [e.1, Int.zero_mul] at h; exact absurd h (by decide)), if_pos (.inl h)]
theorem cut_cross {a b c d : Rat × Rat} (h1 : tn a b c * tn a b d < 0) (h2 : tn c d a * tn c d b < 0) : (cutV a b c d).1 = 1 := by
  unfold cutV
  rw [if_neg (fun e => by rw [e.1, Int.zero_mul] at h1; exact absurd h1 (by decide)), if_neg (by omega)]
theorem szp_cut {a b c d : Rat × Rat} (ha : szp 40 a) (hb : szp 40 b) (hc : szp 40 c) (hd : szp 40 d) : szp 1000 (cutV a b c d).2 := by
  have w40 : ∀ {x : Rat × Rat}, szp 40 x → szp 1000 x := fun h => ⟨Nat.le_trans h.1 (by decide), Nat.le_trans h.2 (by decide)⟩
  have s0 : szp 1000 ((0 : Rat), (0 : Rat)) := ⟨Nat.le_trans (sz_of (q := (0 : Rat)) (k := 1) (wl_small (by decide)) (wl_small (by decide))) (by decide), Nat.le_trans (sz_of (q := (0 : Rat)) (k := 1) (wl_small (by decide)) (wl_small (by decide))) (by decide)⟩
  unfold cutV
  split
  · unfold pieceV
    split
    · exact s0
    · split <;> exact szp_pmx (szp_pmn (w40 ha) (w40 hb)) (szp_pmn (w40 hc) (w40 hd))
  · split
    · exact s0
    · obtain ⟨a1, a2⟩ := ha
      obtain ⟨b1, b2⟩ := hb
      obtain ⟨c1, c2⟩ := hc
      obtain ⟨d1, d2⟩ := hd
      have k1 := sz_cross (b.1 - a.1) (b.2 - a.2) (d.1 - c.1) (d.2 - c.2)
      have k2 := sz_cross (c.1 - a.1) (c.2 - a.2) (d.1 - c.1) (d.2 - c.2)
      have h2 := sz_sub b.1 a.1
      have h3 := sz_sub b.2 a.2
      have h4 := sz_sub d.1 c.1
      have h5 := sz_sub d.2 c.2
      have h6 := sz_sub c.1 a.1
      have h7 := sz_sub c.2 a.2
      have q := sz_div ((c.1 - a.1) * (d.2 - c.2) - (c.2 - a.2) * (d.1 - c.1)) (crs a b c d)
      have k3 : sz (crs a b c d) ≤ sz (b.1 - a.1) + sz (b.2 - a.2) + sz (d.1 - c.1) + sz (d.2 - c.2) + 1 := k1
      have m1 := sz_mul (b.1 - a.1) (((c.1 - a.1) * (d.2 - c.2) - (c.2 - a.2) * (d.1 - c.1)) / crs a b c d)
      have m2 := sz_mul (b.2 - a.2) (((c.1 - a.1) * (d.2 - c.2) - (c.2 - a.2) * (d.1 - c.1)) / crs a b c d)
      have n1 := sz_add a.1 ((b.1 - a.1) * (((c.1 - a.1) * (d.2 - c.2) - (c.2 - a.2) * (d.1 - c.1)) / crs a b c d))
      have n2 := sz_add a.2 ((b.2 - a.2) * (((c.1 - a.1) * (d.2 - c.2) - (c.2 - a.2) * (d.1 - c.1)) / crs a b c d))
      refine ⟨?_, ?_⟩
      · unfold cutP
        show sz (a.1 + _) ≤ 1000
        omega
      · unfold cutP
        show sz (a.2 + _) ≤ 1000
        omega

end Go.Proofs.YtenpbnmmadbkdaaGreat


/- PointsTurn: plain facts. -/
namespace Go.Proofs.YtenpbnmmadbkdaaGreat
open Go.RowKit
set_option linter.unusedSimpArgs false
set_option linter.unusedVariables false
attribute [local go_sem ↓] Go.wp_at_zero Go.wp_at_succ
theorem sgQ_mul (p q : Rat) : sgQ (p * q) = sgQ p * sgQ q := by
  rcases (show p = 0 ∨ 0 < p ∨ p < 0 by grind) with h | h | h
  · subst h; rw [Rat.zero_mul]; simp [sgQ]
  · rw [sgQ_mul_pos h, sgQ_pos h, Int.one_mul]
  · have e : p * q = -(-p * q) := by grind
    rw [e, sgQ_negate, sgQ_mul_pos (show 0 < -p by grind), sgQ_neg h]
    omega
theorem sgQ_div (p q : Rat) (hq : q ≠ 0) : sgQ (p / q) = sgQ p * sgQ q := by
  have h1 : p / q * q = p := Rat.div_mul_cancel hq
  have h2 : sgQ p = sgQ (p / q) * sgQ q := by rw [← sgQ_mul, h1]
  rw [h2]
  rcases sgQ_cases q with h | h | h
  · rw [h]; omega
  · exfalso
    unfold sgQ at h
    split at h
    · exact hq (by assumption)
    · split at h <;> simp at h
  · rw [h]; omega
/-- the circumcenter -/
def midR (a1 a2 b1 b2 c1 c2 : Rat) : Rat × Rat := (a1 + (((b1 - a1) * (b1 - a1) + (b2 - a2) * (b2 - a2)) * (c2 - a2) - ((c1 - a1) * (c1 - a1) + (c2 - a2) * (c2 - a2)) * (b2 - a2)) / (((2 : Int) : Rat) * ((b1 - a1) * (c2 - a2) - (b2 - a2) * (c1 - a1))), a2 + (((c1 - a1) * (c1 - a1) + (c2 - a2) * (c2 - a2)) * (b1 - a1) - ((b1 - a1) * (b1 - a1) + (b2 - a2) * (b2 - a2)) * (c1 - a1)) / (((2 : Int) : Rat) * ((b1 - a1) * (c2 - a2) - (b2 - a2) * (c1 - a1))))
/-- Circle, as the reference says it -/
def circR (a1 a2 b1 b2 c1 c2 d1 d2 : Rat) : Int :=
  if turn a1 a2 b1 b2 c1 c2 = 0 then 0 else sgQ ((((midR a1 a2 b1 b2 c1 c2).1 - a1) * ((midR a1 a2 b1 b2 c1 c2).1 - a1) + ((midR a1 a2 b1 b2 c1 c2).2 - a2) * ((midR a1 a2 b1 b2 c1 c2).2 - a2)) - (((midR a1 a2 b1 b2 c1 c2).1 - d1) * ((midR a1 a2 b1 b2 c1 c2).1 - d1) + ((midR a1 a2 b1 b2 c1 c2).2 - d2) * ((midR a1 a2 b1 b2 c1 c2).2 - d2)))
theorem circ_key (a1 a2 b1 b2 c1 c2 d1 d2 A X Y e f : Rat) (hA : (b1 - a1) * (c2 - a2) - (b2 - a2) * (c1 - a1) = A) (he : e * (2 * A) = X) (hf : f * (2 * A) = Y)
    (hX : X = ((b1 - a1) * (b1 - a1) + (b2 - a2) * (b2 - a2)) * (c2 - a2) - ((c1 - a1) * (c1 - a1) + (c2 - a2) * (c2 - a2)) * (b2 - a2))
    (hY : Y = ((c1 - a1) * (c1 - a1) + (c2 - a2) * (c2 - a2)) * (b1 - a1) - ((b1 - a1) * (b1 - a1) + (b2 - a2) * (b2 - a2)) * (c1 - a1)) :
    (((a1 + e - a1) * (a1 + e - a1) + (a2 + f - a2) * (a2 + f - a2)) - ((a1 + e - d1) * (a1 + e - d1) + (a2 + f - d2) * (a2 + f - d2))) * A = incirc a1 a2 b1 b2 c1 c2 d1 d2 := by
  have h1 : (((a1 + e - a1) * (a1 + e - a1) + (a2 + f - a2) * (a2 + f - a2)) - ((a1 + e - d1) * (a1 + e - d1) + (a2 + f - d2) * (a2 + f - d2))) * A
      = -(e * (2 * A)) * (a1 - d1) - (f * (2 * A)) * (a2 - d2) - ((a1 - d1) * (a1 - d1) + (a2 - d2) * (a2 - d2)) * A := by clear hA he hf hX hY; grind
  rw [h1, he, hf, hX, hY, ← hA]
  clear h1 he hf hX hY hA
  simp only [incirc, psum, List.take, List.foldl]
  grind
theorem circ_eq (a1 a2 b1 b2 c1 c2 d1 d2 : Rat) : IntKind.i64.wrap (sgQ (incirc a1 a2 b1 b2 c1 c2 d1 d2) * turn a1 a2 b1 b2 c1 c2) = circR a1 a2 b1 b2 c1 c2 d1 d2 := by
  unfold circR
  by_cases h : turn a1 a2 b1 b2 c1 c2 = 0
  · rw [if_pos h, h, Int.mul_zero]
    rfl
  · rw [if_neg h, wrap_tn (t := turn a1 a2 b1 b2 c1 c2) (sgQ_cases _) (sgQ_cases _)]
    obtain ⟨A, hA⟩ : ∃ A, (b1 - a1) * (c2 - a2) - (b2 - a2) * (c1 - a1) = A := ⟨_, rfl⟩
    have hA0 : A ≠ 0 := fun e => h (by unfold turn; rw [hA, e]; rfl)
    have h2 : (((2 : Int) : Rat) * A) ≠ 0 := by
      have : ((2 : Int) : Rat) = 2 := rfl
      rw [this]
      grind
    have hk := circ_key a1 a2 b1 b2 c1 c2 d1 d2 A _ _ _ _ hA (Rat.div_mul_cancel h2) (Rat.div_mul_cancel h2) rfl rfl
    unfold midR
    rw [hA]
    unfold turn
    rw [hA, ← sgQ_div _ _ hA0]
    congr 1
    rw [← hk]
    exact Rat.mul_div_cancel hA0
theorem sq_zero {x y : Rat} (h : x * x + y * y ≤ 0) : x = 0 ∧ y = 0 := by
  have h1 := sq_nonneg x
  have h2 := sq_nonneg y
  have e1 : x * x = 0 := by grind
  have e2 : y * y = 0 := by grind
  exact ⟨(Rat.mul_eq_zero.1 e1).elim id id, (Rat.mul_eq_zero.1 e2).elim id id⟩
theorem between {u x : Rat} (hu : 0 < u) : x * (x - u) ≤ 0 ↔ 0 ≤ x ∧ x ≤ u := by
  constructor
  · intro h
    constructor
    · rcases (show 0 ≤ x ∨ x < 0 by grind) with h1 | h1
      · exact h1
      · have := Rat.mul_pos (show 0 < -x by grind) (show 0 < -(x - u) by grind)
        grind
    · rcases (show x ≤ u ∨ u < x by grind) with h1 | h1
      · exact h1
      · have := Rat.mul_pos (show 0 < x by grind) (show 0 < x - u by grind)
        grind
  · rintro ⟨h1, h2⟩
    have := Rat.mul_nonneg h1 (show 0 ≤ u - x by grind)
    grind
theorem on_key (a b p : Rat × Rat) (h : ple a b) (hc : (b.1 - a.1) * (p.2 - a.2) - (b.2 - a.2) * (p.1 - a.1) = 0) :
    (ple a p ∧ ple p b) ↔ (a.1 - p.1) * (b.1 - p.1) + (a.2 - p.2) * (b.2 - p.2) ≤ 0 := by
  rw [ple_iff] at h
  rw [ple_iff, ple_iff]
  obtain ⟨u, hu⟩ : ∃ u, b.1 - a.1 = u := ⟨_, rfl⟩
  obtain ⟨v, hv⟩ : ∃ v, b.2 - a.2 = v := ⟨_, rfl⟩
  obtain ⟨x, hx⟩ : ∃ x, p.1 - a.1 = x := ⟨_, rfl⟩
  obtain ⟨y, hy⟩ : ∃ y, p.2 - a.2 = y := ⟨_, rfl⟩
  have ed : (a.1 - p.1) * (b.1 - p.1) + (a.2 - p.2) * (b.2 - p.2) = x * (x - u) + y * (y - v) := by rw [← hu, ← hv, ← hx, ← hy]; grind
  rw [ed]
  rw [hu, hv, hx, hy] at hc
  have l1 : (a.1 < p.1 ∨ a.1 = p.1 ∧ a.2 ≤ p.2) ↔ (0 < x ∨ x = 0 ∧ 0 ≤ y) := by rw [← hx, ← hy]; grind
  have l2 : (p.1 < b.1 ∨ p.1 = b.1 ∧ p.2 ≤ b.2) ↔ (x < u ∨ x = u ∧ y ≤ v) := by rw [← hx, ← hy, ← hu, ← hv]; grind
  have l3 : 0 < u ∨ (u = 0 ∧ 0 ≤ v) := by rw [← hu, ← hv]; grind
  rw [l1, l2]
  clear l1 l2 ed hu hv hx hy h
  rcases l3 with h | ⟨h, h'⟩
  · have h1 : u * u * (x * (x - u) + y * (y - v)) = (u * u + v * v) * (x * (x - u)) := by
      have e1 : u * y = v * x := by grind
      have e2 : u * u * (y * (y - v)) = (u * y) * (u * y - u * v) := by grind
      have e3 : u * u * (x * (x - u) + y * (y - v)) = u * u * (x * (x - u)) + u * u * (y * (y - v)) := by grind
      rw [e3, e2, e1]
      grind
    have hp : 0 < u * u := Rat.mul_pos h h
    have hq : 0 < u * u + v * v := by have := sq_nonneg v; grind
    have h2 : x * (x - u) + y * (y - v) ≤ 0 ↔ x * (x - u) ≤ 0 := by
      constructor
      · intro g
        rcases (show x * (x - u) ≤ 0 ∨ 0 < x * (x - u) by grind) with g1 | g1
        · exact g1
        · have a1 := Rat.mul_pos hq g1
          rw [← h1] at a1
          have a2 := Rat.mul_nonneg (Rat.le_of_lt hp) (show 0 ≤ -(x * (x - u) + y * (y - v)) by grind)
          grind
      · intro g
        rcases (show x * (x - u) + y * (y - v) ≤ 0 ∨ 0 < x * (x - u) + y * (y - v) by grind) with g1 | g1
        · exact g1
        · have a1 := Rat.mul_pos hp g1
          rw [h1] at a1
          have a2 := Rat.mul_nonneg (Rat.le_of_lt hq) (show 0 ≤ -(x * (x - u)) by grind)
          grind
    rw [h2, between h]
    have hx0 : x = 0 → y = 0 := fun e => by
      rw [e] at hc
      have : u * y = 0 := by grind
      rcases Rat.mul_eq_zero.1 this with g | g
      · grind
      · exact g
    have hxu : x = u → y = v := fun e => by
      rw [e] at hc
      have : u * (y - v) = 0 := by grind
      rcases Rat.mul_eq_zero.1 this with g | g
      · grind
      · grind
    grind
  · subst h
    by_cases hv : v = 0
    · subst hv
      have h1 : x * (x - 0) + y * (y - 0) = x * x + y * y := by grind
      rw [h1]
      constructor
      · intro g
        have : x = 0 ∧ y = 0 := by grind
        rw [this.1, this.2]
        decide +kernel
      · intro g
        have := sq_zero g
        grind
    · have hx : x = 0 := by
        have : v * x = 0 := by grind
        rcases Rat.mul_eq_zero.1 this with g | g
        · exact absurd g hv
        · exact g
      subst hx
      have hv2 : 0 < v := by grind
      have h1 : (0 : Rat) * (0 - 0) + y * (y - v) = y * (y - v) := by grind
      rw [h1, between hv2]
      have := Rat.lt_irrefl (a := (0 : Rat))
      grind
theorem sgQ_le (q : Rat) : sgQ q ≤ 0 ↔ q ≤ 0 := by
  unfold sgQ
  split
  · grind
  · split
    · simp; grind
    · simp; grind
theorem on_eq (a b p : Rat × Rat) : onB a.1 a.2 b.1 b.2 p.1 p.2 = onR a.1 a.2 b.1 b.2 p.1 p.2 := by
  apply Bool.eq_iff_iff.2
  rw [on_iff]
  unfold onR
  rw [Bool.and_eq_true, beq_iff_eq, decide_eq_true_eq, sgQ_le]
  show tn a b p = 0 ∧ _ ↔ tn a b p = 0 ∧ _
  refine and_congr_right fun ht => ?_
  have hc : (b.1 - a.1) * (p.2 - a.2) - (b.2 - a.2) * (p.1 - a.1) = 0 := by
    unfold tn turn sgQ at ht
    split at ht
    · assumption
    · split at ht <;> simp at ht
  rcases ple_total a b with h | h
  · rw [(mm h).1, (mm h).2]
    exact on_key a b p h hc
  · rw [(mm' h).1, (mm' h).2, on_key b a p h (by grind)]
    have : (b.1 - p.1) * (a.1 - p.1) + (b.2 - p.2) * (a.2 - p.2) = (a.1 - p.1) * (b.1 - p.1) + (a.2 - p.2) * (b.2 - p.2) := by grind
    rw [this]

end Go.Proofs.YtenpbnmmadbkdaaGreat


/- gussetref23.Circle; gussetlaw03.Q.Ref, gussetlaw23.P.Ref. -/
namespace Go.Proofs.YtenpbnmmadbkdaaGreat
open Go.RowKit
set_option linter.unusedSimpArgs false
set_option linter.unusedVariables false
attribute [local go_sem ↓] Go.wp_at_zero Go.wp_at_succ
attribute [local go_sem ↓] eq_nat eq_nat_zero eq_int eq_frac eq_pt
theorem rz_mid (a1 a2 b1 b2 c1 c2 : Rat) (hs_a1 : rz a1 ≤ 1000) (hs_a2 : rz a2 ≤ 1000) (hs_b1 : rz b1 ≤ 1000) (hs_b2 : rz b2 ≤ 1000) (hs_c1 : rz c1 ≤ 1000) (hs_c2 : rz c2 ≤ 1000) : rz (midR a1 a2 b1 b2 c1 c2).1 ≤ 100000 ∧ rz (midR a1 a2 b1 b2 c1 c2).2 ≤ 100000 := by
  have u1 := rz_sub b1 a1
  have u2 := rz_sub b2 a2
  have v1 := rz_sub c1 a1
  have v2 := rz_sub c2 a2
  have d1 := rz_dot (b1 - a1) (b2 - a2) (b1 - a1) (b2 - a2)
  have d2 := rz_dot (c1 - a1) (c2 - a2) (c1 - a1) (c2 - a2)
  have cr := rz_cross (b1 - a1) (b2 - a2) (c1 - a1) (c2 - a2)
  have t2 : rz ((2 : Int) : Rat) ≤ 5 := rz_i64 (by decide) (by decide)
  have ar := rz_mul ((2 : Int) : Rat) ((b1 - a1) * (c2 - a2) - (b2 - a2) * (c1 - a1))
  unfold midR
  constructor
  · have m1 := rz_mul ((b1 - a1) * (b1 - a1) + (b2 - a2) * (b2 - a2)) (c2 - a2)
    have m2 := rz_mul ((c1 - a1) * (c1 - a1) + (c2 - a2) * (c2 - a2)) (b2 - a2)
    have s := rz_sub (((b1 - a1) * (b1 - a1) + (b2 - a2) * (b2 - a2)) * (c2 - a2)) (((c1 - a1) * (c1 - a1) + (c2 - a2) * (c2 - a2)) * (b2 - a2))
    have q := rz_div (((b1 - a1) * (b1 - a1) + (b2 - a2) * (b2 - a2)) * (c2 - a2) - ((c1 - a1) * (c1 - a1) + (c2 - a2) * (c2 - a2)) * (b2 - a2)) (((2 : Int) : Rat) * ((b1 - a1) * (c2 - a2) - (b2 - a2) * (c1 - a1)))
    refine Nat.le_trans (rz_add _ _) ?_
    omega
  · have m1 := rz_mul ((c1 - a1) * (c1 - a1) + (c2 - a2) * (c2 - a2)) (b1 - a1)
    have m2 := rz_mul ((b1 - a1) * (b1 - a1) + (b2 - a2) * (b2 - a2)) (c1 - a1)
    have s := rz_sub (((c1 - a1) * (c1 - a1) + (c2 - a2) * (c2 - a2)) * (b1 - a1)) (((b1 - a1) * (b1 - a1) + (b2 - a2) * (b2 - a2)) * (c1 - a1))
    have q := rz_div (((c1 - a1) * (c1 - a1) + (c2 - a2) * (c2 - a2)) * (b1 - a1) - ((b1 - a1) * (b1 - a1) + (b2 - a2) * (b2 - a2)) * (c1 - a1)) (((2 : Int) : Rat) * ((b1 - a1) * (c2 - a2) - (b2 - a2) * (c1 - a1)))
    refine Nat.le_trans (rz_add _ _) ?_
    omega
theorem rpcircle (a1 a2 b1 b2 c1 c2 d1 d2 : Rat) (r : Int) (va11 va12 va21 va22 vb11 vb12 vb21 vb22 vc11 vc12 vc21 vc22 vd11 vd12 vd21 vd22 : Value) (w : World) (hr : circR a1 a2 b1 b2 c1 c2 d1 d2 = r) (hs_a1 : rz a1 ≤ 1000) (hs_a2 : rz a2 ≤ 1000) (hs_b1 : rz b1 ≤ 1000) (hs_b2 : rz b2 ≤ 1000) (hs_c1 : rz c1 ≤ 1000) (hs_c2 : rz c2 ≤ 1000) (hs_d1 : rz d1 ≤ 1000) (hs_d2 : rz d2 ≤ 1000) (bx21 : Rn w va11 (a1.num.natAbs)) (bx22 : Rn w va12 (a1.den - 1)) (bx23 : Rn w va21 (a2.num.natAbs)) (bx24 : Rn w va22 (a2.den - 1)) (bx25 : Rn w vb11 (b1.num.natAbs)) (bx26 : Rn w vb12 (b1.den - 1)) (bx27 : Rn w vb21 (b2.num.natAbs)) (bx28 : Rn w vb22 (b2.den - 1)) (bx29 : Rn w vc11 (c1.num.natAbs)) (bx30 : Rn w vc12 (c1.den - 1)) (bx31 : Rn w vc21 (c2.num.natAbs)) (bx32 : Rn w vc22 (c2.den - 1)) (bx33 : Rn w vd11 (d1.num.natAbs)) (bx34 : Rn w vd12 (d1.den - 1)) (bx35 : Rn w vd21 (d2.num.natAbs)) (bx36 : Rn w vd22 (d2.den - 1)) :
    Calls Tryz.prog 11 #[(Value.agg #[.bool (decide (a1.num < 0)), va11, va12, .bool (decide (a2.num < 0)), va21, va22]), (Value.agg #[.bool (decide (b1.num < 0)), vb11, vb12, .bool (decide (b2.num < 0)), vb21, vb22]), (Value.agg #[.bool (decide (c1.num < 0)), vc11, vc12, .bool (decide (c2.num < 0)), vc21, vc22]), (Value.agg #[.bool (decide (d1.num < 0)), vd11, vd12, .bool (decide (d2.num < 0)), vd21, vd22])] w fun e w' => e = .returned (.int .i64 r) ∧ Below w.heap.size w w' := by
  unfold circR at hr
  by_cases h : turn a1 a2 b1 b2 c1 c2 = 0
  · rw [if_pos h] at hr
    subst hr
    exact rpcircle_no a1 a2 b1 b2 c1 c2 d1 d2 _ va11 va12 va21 va22 vb11 vb12 vb21 vb22 vc11 vc12 vc21 vc22 vd11 vd12 vd21 vd22 w (Lib.hid rfl) (by rw [h]; rfl) hs_a1 hs_a2 hs_b1 hs_b2 hs_c1 hs_c2 hs_d1 hs_d2 bx21 bx22 bx23 bx24 bx25 bx26 bx27 bx28 bx29 bx30 bx31 bx32 bx33 bx34 bx35 bx36
  · rw [if_neg h] at hr
    have hm := rz_mid a1 a2 b1 b2 c1 c2 hs_a1 hs_a2 hs_b1 hs_b2 hs_c1 hs_c2
    exact rpcircle_yes a1 a2 b1 b2 c1 c2 d1 d2 _ _ _ r va11 va12 va21 va22 vb11 vb12 vb21 vb22 vc11 vc12 vc21 vc22 vd11 vd12 vd21 vd22 w (Lib.hid rfl) (by simpa using h) (Lib.hid rfl) (Lib.hid rfl) hm.1 hm.2 (Lib.hid hr) hs_a1 hs_a2 hs_b1 hs_b2 hs_c1 hs_c2 hs_d1 hs_d2 bx21 bx22 bx23 bx24 bx25 bx26 bx27 bx28 bx29 bx30 bx31 bx32 bx33 bx34 bx35 bx36

set_option maxRecDepth 20000 in
set_option maxHeartbeats 2000000 in
theorem rqref (n d m : Int) (z : Rat) (w : World) (hm : max d 1 = m) (hz : (n : Rat) / (m : Rat) = z) (h1 : -9223372036854775808 ≤ n) (h2 : n ≤ 9223372036854775807) (h3 : 0 ≤ d) (h4 : d ≤ 4294967295)  :
    Calls Tryz.prog 14 #[(Value.agg #[.int .i64 (n), .int .u32 (d)])] w fun e w' => (∃ r1 r2 : Value, e = .returned (.agg #[.bool (decide (z.num < 0)), r1, r2]) ∧ Rn w' r1 (z.num.natAbs) ∧ Rn w' r2 (z.den - 1)) ∧ Below w.heap.size w w' := by
  have hm1 : 1 ≤ m := by omega
  have hm2 : m ≤ 4294967295 := by omega
  have hwm : IntKind.i64.wrap m = m := by rw [IntKind.wrap_i64]; omega
  replace hz := Lib.hid hz
  go_enter Tryz.func14, Tryz.ntmps14
  -- region 0
  refine wp_seq_k fun K hK => ?_
  replace hK := Lib.hid hK
  refine wp_region_lit ?_
  go_wp2
  refine hK.out _ _ ?_; clear hK K
  show Code.wp _ _ _ _ _
  refine forgetW (fun w2 => Bx w2 (w.heap.size) 24 #[.int .i64 (n), .int .u32 (d)] ∧ Bx w2 (w.heap.size + 1) 45 #[.bool false, .slice none 0 0, .slice none 0 0] ∧ Below w.heap.size w w2) ⟨(Bx.at rfl).alloc _, Bx.at (by simp), ((Below.refl _ _).alloc (Nat.le_refl _) _).alloc (by simp) _⟩ ?_
  rintro Wx ⟨bx0, bx1, HB⟩
  replace HB := Lib.hid HB
  -- region 1
  have HZ1 : Hid (((n : Int) : Rat) / ((m : Int) : Rat) = z) := Lib.hid (hz.out)
  have lx0 := bx0.cells
  have BX0 := Lib.hid bx0
  have BX1 := Lib.hid bx1
  clear bx0 bx1
  refine wp_seq_k fun K hK => ?_
  replace hK := Lib.hid hK
  have HS0 := Lib.hid (HB.out.size)
  have MX0 : w.heap.size < Wx.heap.size := BX0.out.lt
  have MX1 : w.heap.size + 1 < Wx.heap.size := BX1.out.lt
  refine wp_region_seqplan 7 [(true, 0), (true, 1), (true, 2), (true, 3), (true, 4), (true, 5), (false, 6)] (by rfl) (by simp) (fun T hT => ?_)
  iterate 6
    refine wpPlan_takeL (v := ?_) rfl (by rfl) (fun w' hw => ?_) ?_
    rotate_left
    · go_simp
      with_reducible rfl
    simp only [Act.put, rA, rB, rC]
  refine wpPlan_callE rfl (by rfl) Tryz.call34 (by rfl) (fun w' hw => (qof_ref (n) (m) (z) _ HZ1.out (by omega) (by omega) (by omega) (by omega)).mono ?_)
  rintro e vv1 ⟨⟨rv1, rv2, rfl, bx2, bx3⟩, hg0⟩
  obtain ⟨ao1, nn1, cc1, rfl⟩ := Rn.sl bx2
  obtain ⟨ao2, nn2, cc2, rfl⟩ := Rn.sl bx3
  refine ⟨_, rfl, hg0, ?_⟩
  replace hg0 := Gr.trans hw hg0; clear hw
  have HG0 := Lib.hid hg0; clear hg0
  replace BX0 := bG BX0 HG0
  replace BX1 := bG BX1 HG0
  replace HB := Lib.hid (HB.out.trans (HG0.out.mono HB.out.size))
  have BX2 := Lib.hid bx2; clear bx2
  have BX3 := Lib.hid bx3; clear bx3
  clear HG0
  clear lx0; have lx0 := BX0.out.cells
  simp only [Act.put, rA, rB, rC]
  refine wpPlan_nil (hT.out _ _ ?_); clear hT T
  intro vw1 hg
  simp only [puts, Act.put, rA, rB, rC, rD, rE, ↓reduceIte, Nat.reduceEqDiff]
  clear lx0
  have HG := Lib.hid (hg)
  clear hg
  replace BX0 := bG BX0 HG
  replace BX1 := bG BX1 HG
  replace BX2 := rG BX2 HG
  replace BX3 := rG BX3 HG
  have lx1 := BX1.out.cells; have fx1 := BX1.out.free
  have r0 := Gr.refl vw1
  go_wp2
  refine hK.out _ _ ?_; clear hK K
  show Code.wp _ _ _ _ _
  clear lx1 fx1
  clear r0
  refine forgetW (fun w2 => Bx w2 (w.heap.size + 1) 45 #[.bool (decide (z.num < 0)), (.slice ao1 nn1 cc1), (.slice ao2 nn2 cc2)] ∧ Rn w2 (.slice ao1 nn1 cc1) (z.num.natAbs) ∧ Rn w2 (.slice ao2 nn2 cc2) (z.den - 1) ∧ Below w.heap.size w w2) ⟨((((BX1.out).set 0 _).set 1 _).set 2 _).eq (by simp only [rA, rB, rC]), ro3 (BX2.out) (Rn.ne BX2.out BX1.out (by decide)), ro3 (BX3.out) (Rn.ne BX3.out BX1.out (by decide)), sc3 (HB.out.trans (HG.out.mono HB.out.size)) (by show w.heap.size ≤ w.heap.size + 1; omega)⟩ ?_
  clear HB HG BX0 BX1 BX2 BX3
  rintro Wx1 ⟨bx1, bx2, bx3, HB⟩
  replace HB := Lib.hid HB
  refine wp_ret ?_
  try simp only [Exit.then, Exit.inBlock]
  have lx1 := bx1.cells
  have r0 := Gr.refl Wx1
  exact bodyPost_ret (v := .agg #[.bool (decide (z.num < 0)), (.slice ao1 nn1 cc1), (.slice ao2 nn2 cc2)]) (by simp [results, Tryz.results14, go_sem, lx1 _ r0]) rfl ⟨⟨(.slice ao1 nn1 cc1), (.slice ao2 nn2 cc2), rfl, bx2, bx3⟩, HB.out⟩

theorem rqv_any (n d : Int) (z : Rat) (w : World) (hz : qv n d = z) (h1 : -9223372036854775808 ≤ n) (h2 : n ≤ 9223372036854775807) (h3 : 0 ≤ d) (h4 : d ≤ 4294967295) :
    Calls Tryz.prog 14 #[.agg #[.int .i64 n, .int .u32 d]] w fun e w' => (∃ r1 r2 : Value, e = .returned (.agg #[.bool (decide (z.num < 0)), r1, r2]) ∧ Rn w' r1 (z.num.natAbs) ∧ Rn w' r2 (z.den - 1)) ∧ Below w.heap.size w w' := rqref n d (max d 1) z w rfl hz h1 h2 h3 h4
theorem rz_qv (n d : Int) (h1 : -9223372036854775808 ≤ n) (h2 : n ≤ 9223372036854775807) (h3 : 0 ≤ d) (h4 : d ≤ 4294967295) : rz (qv n d) ≤ 10 := by
  have a := rz_i64 h1 h2
  have b := rz_i64 (n := max d 1) (by omega) (by omega)
  have c := rz_div (n : Rat) ((max d 1 : Int) : Rat)
  unfold qv
  omega

set_option maxRecDepth 20000 in
set_option maxHeartbeats 2000000 in
theorem rpref (n0x d0x n0y d0y : Int) (z1 z2 : Rat) (w : World) (hz1 : qv n0x d0x = z1) (hz2 : qv n0y d0y = z2) (h1_0x : -9223372036854775808 ≤ n0x) (h2_0x : n0x ≤ 9223372036854775807) (h3_0x : 0 ≤ d0x) (h4_0x : d0x ≤ 4294967295) (h1_0y : -9223372036854775808 ≤ n0y) (h2_0y : n0y ≤ 9223372036854775807) (h3_0y : 0 ≤ d0y) (h4_0y : d0y ≤ 4294967295)  :
    Calls Tryz.prog 5 #[(Value.agg #[.int .i64 (n0x), .int .u32 (d0x), .int .i64 (n0y), .int .u32 (d0y)])] w fun e w' => (∃ r1 r2 r3 r4 : Value, e = .returned (.agg #[.bool (decide (z1.num < 0)), r1, r2, .bool (decide (z2.num < 0)), r3, r4]) ∧ Rn w' r1 (z1.num.natAbs) ∧ Rn w' r2 (z1.den - 1) ∧ Rn w' r3 (z2.num.natAbs) ∧ Rn w' r4 (z2.den - 1)) ∧ Below w.heap.size w w' := by
  replace hz1 := Lib.hid hz1
  replace hz2 := Lib.hid hz2
  go_enter Tryz.func5, Tryz.ntmps5
  -- region 0
  refine wp_seq_k fun K hK => ?_
  replace hK := Lib.hid hK
  refine wp_region_lit ?_
  go_wp2
  refine hK.out _ _ ?_; clear hK K
  show Code.wp _ _ _ _ _
  refine forgetW (fun w2 => Bx w2 (w.heap.size) 26 #[.int .i64 (n0x), .int .u32 (d0x), .int .i64 (n0y), .int .u32 (d0y)] ∧ Bx w2 (w.heap.size + 1) 47 #[.bool false, .slice none 0 0, .slice none 0 0, .bool false, .slice none 0 0, .slice none 0 0] ∧ Below w.heap.size w w2) ⟨(Bx.at rfl).alloc _, Bx.at (by simp), ((Below.refl _ _).alloc (Nat.le_refl _) _).alloc (by simp) _⟩ ?_
  rintro Wx ⟨bx0, bx1, HB⟩
  replace HB := Lib.hid HB
  -- region 1
  have HZ1 : Hid (qv (n0x) (d0x) = z1) := Lib.hid (hz1.out)
  have HZ2 : Hid (qv (n0y) (d0y) = z2) := Lib.hid (hz2.out)
  have lx0 := bx0.cells
  have BX0 := Lib.hid bx0
  have BX1 := Lib.hid bx1
  clear bx0 bx1
  refine wp_seq_k fun K hK => ?_
  replace hK := Lib.hid hK
  have HS0 := Lib.hid (HB.out.size)
  have MX0 : w.heap.size < Wx.heap.size := BX0.out.lt
  have MX1 : w.heap.size + 1 < Wx.heap.size := BX1.out.lt
  refine wp_region_plan 7 [] [] (fun _ => 0) (fun _ => .cells #[] 0) [(true, 0), (true, 1), (true, 3), (true, 4), (false, 2), (false, 5), (true, 6)] (by kernel_rfl) (by kernel_rfl) (fun i hi => by cases hi) (fun i hi => by cases hi) (fun _ _ _ _ _ h => h) (fun T hT => ?_)
  iterate 4
    refine wpPlan_takeL (v := ?_) rfl (by rfl) (fun w' hw => ?_) ?_
    rotate_left
    · go_simp
      with_reducible rfl
    simp only [Act.put, rA, rB, rC]
  refine wpPlan_callE rfl (by rfl) Tryz.call14 (by rfl) (fun w' hw => (rqv_any (n0x) (d0x) (z1) _ HZ1.out (by omega) (by omega) (by omega) (by omega)).mono ?_)
  rintro e vv1 ⟨⟨rv1, rv2, rfl, bx2, bx3⟩, hg0⟩
  obtain ⟨ao1, nn1, cc1, rfl⟩ := Rn.sl bx2
  obtain ⟨ao2, nn2, cc2, rfl⟩ := Rn.sl bx3
  refine ⟨_, rfl, hg0, ?_⟩
  replace hg0 := Gr.trans hw hg0; clear hw
  have HG0 := Lib.hid hg0; clear hg0
  replace BX0 := bG BX0 HG0
  replace BX1 := bG BX1 HG0
  replace HB := Lib.hid (HB.out.trans (HG0.out.mono HB.out.size))
  have BX2 := Lib.hid bx2; clear bx2
  have BX3 := Lib.hid bx3; clear bx3
  clear HG0
  clear lx0; have lx0 := BX0.out.cells
  simp only [Act.put, rA, rB, rC]
  refine wpPlan_callE rfl (by rfl) Tryz.call14 (by rfl) (fun w' hw => (rqv_any (n0y) (d0y) (z2) _ HZ2.out (by omega) (by omega) (by omega) (by omega)).mono ?_)
  rintro e vv2 ⟨⟨rv3, rv4, rfl, bx4, bx5⟩, hg0⟩
  obtain ⟨ao3, nn3, cc3, rfl⟩ := Rn.sl bx4
  obtain ⟨ao4, nn4, cc4, rfl⟩ := Rn.sl bx5
  refine ⟨_, rfl, hg0, ?_⟩
  replace hg0 := Gr.trans hw hg0; clear hw
  have HG0 := Lib.hid hg0; clear hg0
  replace BX0 := bG BX0 HG0
  replace BX1 := bG BX1 HG0
  replace BX2 := rG BX2 HG0
  replace BX3 := rG BX3 HG0
  replace HB := Lib.hid (HB.out.trans (HG0.out.mono HB.out.size))
  have BX4 := Lib.hid bx4; clear bx4
  have BX5 := Lib.hid bx5; clear bx5
  clear HG0
  clear lx0; have lx0 := BX0.out.cells
  simp only [Act.put, rA, rB, rC]
  iterate 1
    refine wpPlan_takeL (v := ?_) rfl (by rfl) (fun w' hw => ?_) ?_
    rotate_left
    · go_simp
      with_reducible rfl
    simp only [Act.put, rA, rB, rC]
  refine wpPlan_nil (hT.out _ _ ?_); clear hT T
  intro G vw1 hg hf
  simp only [puts, Act.put, rA, rB, rC, rD, rE, ↓reduceIte, Nat.reduceEqDiff]
  clear lx0
  have HG := Lib.hid (hg)
  clear hg
  replace BX0 := bG BX0 HG
  replace BX1 := bG BX1 HG
  replace BX2 := rG BX2 HG
  replace BX3 := rG BX3 HG
  replace BX4 := rG BX4 HG
  replace BX5 := rG BX5 HG
  have lx1 := BX1.out.cells; have fx1 := BX1.out.free
  have r0 := Gr.refl vw1
  go_wp2
  refine hK.out _ _ ?_; clear hK K
  show Code.wp _ _ _ _ _
  clear lx1 fx1
  clear r0
  refine forgetW (fun w2 => Bx w2 (w.heap.size + 1) 47 #[.bool (decide (z1.num < 0)), (.slice ao1 nn1 cc1), (.slice ao2 nn2 cc2), .bool (decide (z2.num < 0)), (.slice ao3 nn3 cc3), (.slice ao4 nn4 cc4)] ∧ Rn w2 (.slice ao1 nn1 cc1) (z1.num.natAbs) ∧ Rn w2 (.slice ao2 nn2 cc2) (z1.den - 1) ∧ Rn w2 (.slice ao3 nn3 cc3) (z2.num.natAbs) ∧ Rn w2 (.slice ao4 nn4 cc4) (z2.den - 1) ∧ Below w.heap.size w w2) ⟨(((((((BX1.out).set 0 _).set 1 _).set 2 _).set 3 _).set 4 _).set 5 _).eq (by simp only [rA, rB, rC]), ro6 (BX2.out) (Rn.ne BX2.out BX1.out (by decide)), ro6 (BX3.out) (Rn.ne BX3.out BX1.out (by decide)), ro6 (BX4.out) (Rn.ne BX4.out BX1.out (by decide)), ro6 (BX5.out) (Rn.ne BX5.out BX1.out (by decide)), sc6 (HB.out.trans (HG.out.mono HB.out.size)) (by show w.heap.size ≤ w.heap.size + 1; omega)⟩ ?_
  clear HB HG BX0 BX1 BX2 BX3 BX4 BX5
  rintro Wx1 ⟨bx1, bx2, bx3, bx4, bx5, HB⟩
  replace HB := Lib.hid HB
  refine wp_ret ?_
  try simp only [Exit.then, Exit.inBlock]
  have lx1 := bx1.cells
  have r0 := Gr.refl Wx1
  exact bodyPost_ret (v := .agg #[.bool (decide (z1.num < 0)), (.slice ao1 nn1 cc1), (.slice ao2 nn2 cc2), .bool (decide (z2.num < 0)), (.slice ao3 nn3 cc3), (.slice ao4 nn4 cc4)]) (by simp [results, Tryz.results5, go_sem, lx1 _ r0]) rfl ⟨⟨(.slice ao1 nn1 cc1), (.slice ao2 nn2 cc2), (.slice ao3 nn3 cc3), (.slice ao4 nn4 cc4), rfl, bx2, bx3, bx4, bx5⟩, HB.out⟩

end Go.Proofs.YtenpbnmmadbkdaaGreat


/- PointsTurn: the law's walk. -/
namespace Go.Proofs.YtenpbnmmadbkdaaGreat
open Go.RowKit
set_option linter.unusedSimpArgs false
set_option linter.unusedVariables false
attribute [local go_sem ↓] Go.wp_at_zero Go.wp_at_succ
attribute [local go_sem ↓] eq_nat eq_nat_zero eq_int eq_frac eq_pt
set_option maxRecDepth 100000 in
set_option maxHeartbeats 16000000 in
theorem turn_walk (n0x d0x n0y d0y n1x d1x n1y d1y n2x d2x n2y d2y n3x d3x n3y d3y : Int) (a1 a2 b1 b2 c1 c2 d1 d2 : Rat) (t s k : Int) (r : Bool) (w : World) (h1_0x : -9223372036854775808 ≤ n0x) (h2_0x : n0x ≤ 9223372036854775807) (h3_0x : 0 ≤ d0x) (h4_0x : d0x ≤ 4294967295) (h1_0y : -9223372036854775808 ≤ n0y) (h2_0y : n0y ≤ 9223372036854775807) (h3_0y : 0 ≤ d0y) (h4_0y : d0y ≤ 4294967295) (h1_1x : -9223372036854775808 ≤ n1x) (h2_1x : n1x ≤ 9223372036854775807) (h3_1x : 0 ≤ d1x) (h4_1x : d1x ≤ 4294967295) (h1_1y : -9223372036854775808 ≤ n1y) (h2_1y : n1y ≤ 9223372036854775807) (h3_1y : 0 ≤ d1y) (h4_1y : d1y ≤ 4294967295) (h1_2x : -9223372036854775808 ≤ n2x) (h2_2x : n2x ≤ 9223372036854775807) (h3_2x : 0 ≤ d2x) (h4_2x : d2x ≤ 4294967295) (h1_2y : -9223372036854775808 ≤ n2y) (h2_2y : n2y ≤ 9223372036854775807) (h3_2y : 0 ≤ d2y) (h4_2y : d2y ≤ 4294967295) (h1_3x : -9223372036854775808 ≤ n3x) (h2_3x : n3x ≤ 9223372036854775807) (h3_3x : 0 ≤ d3x) (h4_3x : d3x ≤ 4294967295) (h1_3y : -9223372036854775808 ≤ n3y) (h2_3y : n3y ≤ 9223372036854775807) (h3_3y : 0 ≤ d3y) (h4_3y : d3y ≤ 4294967295) (hz_a1 : Hid ((qv n0x d0x) = a1)) (hz_a2 : Hid ((qv n0y d0y) = a2)) (hz_b1 : Hid ((qv n1x d1x) = b1)) (hz_b2 : Hid ((qv n1y d1y) = b2)) (hz_c1 : Hid ((qv n2x d2x) = c1)) (hz_c2 : Hid ((qv n2y d2y) = c2)) (hz_d1 : Hid ((qv n3x d3x) = d1)) (hz_d2 : Hid ((qv n3y d3y) = d2)) (hs_a1 : sz a1 ≤ 4) (hs_a2 : sz a2 ≤ 4) (hs_b1 : sz b1 ≤ 4) (hs_b2 : sz b2 ≤ 4) (hs_c1 : sz c1 ≤ 4) (hs_c2 : sz c2 ≤ 4) (hs_d1 : sz d1 ≤ 4) (hs_d2 : sz d2 ≤ 4) (hr_a1 : rz a1 ≤ 10) (hr_a2 : rz a2 ≤ 10) (hr_b1 : rz b1 ≤ 10) (hr_b2 : rz b2 ≤ 10) (hr_c1 : rz c1 ≤ 10) (hr_c2 : rz c2 ≤ 10) (hr_d1 : rz d1 ≤ 10) (hr_d2 : rz d2 ≤ 10) (ht : Hid (turn a1 a2 b1 b2 c1 c2 = t)) (hr : Hid (onB a1 a2 b1 b2 c1 c2 = r)) (hsg : Hid (sgQ (incirc a1 a2 b1 b2 c1 c2 d1 d2) = s)) (hk : Hid (IntKind.i64.wrap (s * t) = k)) :
    Calls Tryz.prog 3 #[(Value.agg #[.int .i64 (n0x), .int .u32 (d0x), .int .i64 (n0y), .int .u32 (d0y), .int .i64 (n1x), .int .u32 (d1x), .int .i64 (n1y), .int .u32 (d1y), .int .i64 (n2x), .int .u32 (d2x), .int .i64 (n2y), .int .u32 (d2y), .int .i64 (n3x), .int .u32 (d3x), .int .i64 (n3y), .int .u32 (d3y)])] w fun e w' => e = .returned (.bool true) ∧ Below w.heap.size w w' := by
  go_enter Tryz.func3, Tryz.ntmps3
  -- region 0
  refine wp_seq_k fun K hK => ?_
  replace hK := Lib.hid hK
  refine wp_region_lit ?_
  go_wp2
  refine hK.out _ _ ?_; clear hK K
  show Code.wp _ _ _ _ _
  refine forgetW (fun w2 => Bx w2 (w.heap.size) 27 #[.int .i64 (n0x), .int .u32 (d0x), .int .i64 (n0y), .int .u32 (d0y), .int .i64 (n1x), .int .u32 (d1x), .int .i64 (n1y), .int .u32 (d1y), .int .i64 (n2x), .int .u32 (d2x), .int .i64 (n2y), .int .u32 (d2y), .int .i64 (n3x), .int .u32 (d3x), .int .i64 (n3y), .int .u32 (d3y)] ∧ Below w.heap.size w w2) ⟨Bx.at rfl, (Below.refl _ _).alloc (Nat.le_refl _) _⟩ ?_
  rintro Wx ⟨bx0, HB⟩
  replace HB := Lib.hid HB
  -- region 1
  have HZ1 : Hid (qv (n0x) (d0x) = a1) := Lib.hid (hz_a1.out)
  have HZ2 : Hid (qv (n0y) (d0y) = a2) := Lib.hid (hz_a2.out)
  have HZ3 : Hid (qv (n1x) (d1x) = b1) := Lib.hid (hz_b1.out)
  have HZ4 : Hid (qv (n1y) (d1y) = b2) := Lib.hid (hz_b2.out)
  have HZ5 : Hid (qv (n2x) (d2x) = c1) := Lib.hid (hz_c1.out)
  have HZ6 : Hid (qv (n2y) (d2y) = c2) := Lib.hid (hz_c2.out)
  have HZ7 : Hid (qv (n3x) (d3x) = d1) := Lib.hid (hz_d1.out)
  have HZ8 : Hid (qv (n3y) (d3y) = d2) := Lib.hid (hz_d2.out)
  have lx0 := bx0.cells
  have BX0 := Lib.hid bx0
  clear bx0
  refine wp_seq_k fun K hK => ?_
  replace hK := Lib.hid hK
  refine wp_region_plan 16 [12, 13, 14, 15] [] (fun i => if i = 12 then 3 else if i = 13 then 4 else if i = 14 then 5 else 6) (fun i => if i = 12 then .cells #[.int .u64 0, .string ⟨#[]⟩, .bool false, .int .u64 0, .string ⟨#[]⟩, .int .u64 0, .string ⟨#[]⟩, .bool false, .int .u64 0, .string ⟨#[]⟩] 38 else if i = 13 then .cells #[.int .u64 0, .string ⟨#[]⟩, .bool false, .int .u64 0, .string ⟨#[]⟩, .int .u64 0, .string ⟨#[]⟩, .bool false, .int .u64 0, .string ⟨#[]⟩] 38 else if i = 14 then .cells #[.int .u64 0, .string ⟨#[]⟩, .bool false, .int .u64 0, .string ⟨#[]⟩, .int .u64 0, .string ⟨#[]⟩, .bool false, .int .u64 0, .string ⟨#[]⟩] 38 else .cells #[.int .u64 0, .string ⟨#[]⟩, .bool false, .int .u64 0, .string ⟨#[]⟩, .int .u64 0, .string ⟨#[]⟩, .bool false, .int .u64 0, .string ⟨#[]⟩] 38) [(true, 0), (true, 1), (true, 3), (true, 4), (true, 6), (true, 7), (true, 9), (true, 10), (true, 2), (true, 5), (true, 8), (true, 11)] (by kernel_rfl) (by kernel_rfl) (by intro i hi; simp only [List.mem_cons, List.not_mem_nil, or_false] at hi; rcases hi with rfl | rfl | rfl | rfl <;> exact ⟨_, rfl, rfl, rfl, by simp, fun ρ w => by kernel_rfl⟩) (fun i hi => by cases hi) (fun _ _ _ _ _ h => h) (fun T hT => ?_)
  iterate 8
    refine wpPlan_takeL (v := ?_) rfl (by rfl) (fun w' hw => ?_) ?_
    rotate_left
    · go_simp
      with_reducible rfl
    simp only [Act.put, rA, rB, rC]
  refine wpPlan_callL rfl (by rfl) Tryz.call4 (fun w' hw => pof_any (n0x) (d0x) (n0y) (d0y) (a1) (a2) _ HZ1.out HZ2.out (by omega) (by omega) (by omega) (by omega) (by omega) (by omega) (by omega) (by omega)) (by rfl) ?_
  simp only [Act.put, rA, rB, rC]
  refine wpPlan_callL rfl (by rfl) Tryz.call4 (fun w' hw => pof_any (n1x) (d1x) (n1y) (d1y) (b1) (b2) _ HZ3.out HZ4.out (by omega) (by omega) (by omega) (by omega) (by omega) (by omega) (by omega) (by omega)) (by rfl) ?_
  simp only [Act.put, rA, rB, rC]
  refine wpPlan_callL rfl (by rfl) Tryz.call4 (fun w' hw => pof_any (n2x) (d2x) (n2y) (d2y) (c1) (c2) _ HZ5.out HZ6.out (by omega) (by omega) (by omega) (by omega) (by omega) (by omega) (by omega) (by omega)) (by rfl) ?_
  simp only [Act.put, rA, rB, rC]
  refine wpPlan_callL rfl (by rfl) Tryz.call4 (fun w' hw => pof_any (n3x) (d3x) (n3y) (d3y) (d1) (d2) _ HZ7.out HZ8.out (by omega) (by omega) (by omega) (by omega) (by omega) (by omega) (by omega) (by omega)) (by rfl) ?_
  simp only [Act.put, rA, rB, rC]
  refine wpPlan_nil (hT.out _ _ ?_); clear hT T
  intro G vw1 hg hf
  simp only [puts, Act.put, rA, rB, rC, rD, rE, ↓reduceIte, Nat.reduceEqDiff]
  clear lx0
  have HG := Lib.hid (hg)
  clear hg
  have bx1 := Bx.of_fresh hf (i := 12) (by decide) rfl
  have yx1 := (hf.1 12 (by decide)).1
  have bx2 := Bx.of_fresh hf (i := 13) (by decide) rfl
  have yx2 := (hf.1 13 (by decide)).1
  have dx1_2 : G 12 ≠ G 13 := fun e => absurd (hf.2 12 (by decide) 13 (by decide) e) (by decide)
  have bx3 := Bx.of_fresh hf (i := 14) (by decide) rfl
  have yx3 := (hf.1 14 (by decide)).1
  have dx1_3 : G 12 ≠ G 14 := fun e => absurd (hf.2 12 (by decide) 14 (by decide) e) (by decide)
  have dx2_3 : G 13 ≠ G 14 := fun e => absurd (hf.2 13 (by decide) 14 (by decide) e) (by decide)
  have bx4 := Bx.of_fresh hf (i := 15) (by decide) rfl
  have yx4 := (hf.1 15 (by decide)).1
  have dx1_4 : G 12 ≠ G 15 := fun e => absurd (hf.2 12 (by decide) 15 (by decide) e) (by decide)
  have dx2_4 : G 13 ≠ G 15 := fun e => absurd (hf.2 13 (by decide) 15 (by decide) e) (by decide)
  have dx3_4 : G 14 ≠ G 15 := fun e => absurd (hf.2 14 (by decide) 15 (by decide) e) (by decide)
  clear hf
  generalize G 12 = gx1 at *
  generalize G 13 = gx2 at *
  generalize G 14 = gx3 at *
  generalize G 15 = gx4 at *
  have qx0_1 : w.heap.size < gx1 := Nat.lt_of_lt_of_le BX0.out.lt yx1
  have qx0_2 : w.heap.size < gx2 := Nat.lt_of_lt_of_le BX0.out.lt yx2
  have qx0_3 : w.heap.size < gx3 := Nat.lt_of_lt_of_le BX0.out.lt yx3
  have qx0_4 : w.heap.size < gx4 := Nat.lt_of_lt_of_le BX0.out.lt yx4
  replace yx1 : w.heap.size ≤ gx1 := Nat.le_trans HB.out.size yx1
  replace yx2 : w.heap.size ≤ gx2 := Nat.le_trans HB.out.size yx2
  replace yx3 : w.heap.size ≤ gx3 := Nat.le_trans HB.out.size yx3
  replace yx4 : w.heap.size ≤ gx4 := Nat.le_trans HB.out.size yx4
  replace BX0 := bG BX0 HG
  have lx1 := bx1.cells; have fx1 := bx1.free
  have lx2 := bx2.cells; have fx2 := bx2.free
  have lx3 := bx3.cells; have fx3 := bx3.free
  have lx4 := bx4.cells; have fx4 := bx4.free
  have r0 := Gr.refl vw1
  have BX1 := Lib.hid bx1; clear bx1
  have BX2 := Lib.hid bx2; clear bx2
  have BX3 := Lib.hid bx3; clear bx3
  have BX4 := Lib.hid bx4; clear bx4
  go_wp2
  refine hK.out _ _ ?_; clear hK K
  show Code.wp _ _ _ _ _
  clear lx1 fx1
  clear lx2 fx2
  clear lx3 fx3
  clear lx4 fx4
  clear r0
  refine forgetW (fun w2 => Bx w2 (w.heap.size) 27 #[.int .i64 (n0x), .int .u32 (d0x), .int .i64 (n0y), .int .u32 (d0y), .int .i64 (n1x), .int .u32 (d1x), .int .i64 (n1y), .int .u32 (d1y), .int .i64 (n2x), .int .u32 (d2x), .int .i64 (n2y), .int .u32 (d2y), .int .i64 (n3x), .int .u32 (d3x), .int .i64 (n3y), .int .u32 (d3y)] ∧ Bx w2 gx1 38 #[.int .u64 (lo a1.num.natAbs), .string (bg a1.num.natAbs), .bool (decide (a1.num < 0)), .int .u64 (lo (a1.den - 1)), .string (bg (a1.den - 1)), .int .u64 (lo a2.num.natAbs), .string (bg a2.num.natAbs), .bool (decide (a2.num < 0)), .int .u64 (lo (a2.den - 1)), .string (bg (a2.den - 1))] ∧ Bx w2 gx2 38 #[.int .u64 (lo b1.num.natAbs), .string (bg b1.num.natAbs), .bool (decide (b1.num < 0)), .int .u64 (lo (b1.den - 1)), .string (bg (b1.den - 1)), .int .u64 (lo b2.num.natAbs), .string (bg b2.num.natAbs), .bool (decide (b2.num < 0)), .int .u64 (lo (b2.den - 1)), .string (bg (b2.den - 1))] ∧ Bx w2 gx3 38 #[.int .u64 (lo c1.num.natAbs), .string (bg c1.num.natAbs), .bool (decide (c1.num < 0)), .int .u64 (lo (c1.den - 1)), .string (bg (c1.den - 1)), .int .u64 (lo c2.num.natAbs), .string (bg c2.num.natAbs), .bool (decide (c2.num < 0)), .int .u64 (lo (c2.den - 1)), .string (bg (c2.den - 1))] ∧ Bx w2 gx4 38 #[.int .u64 (lo d1.num.natAbs), .string (bg d1.num.natAbs), .bool (decide (d1.num < 0)), .int .u64 (lo (d1.den - 1)), .string (bg (d1.den - 1)), .int .u64 (lo d2.num.natAbs), .string (bg d2.num.natAbs), .bool (decide (d2.num < 0)), .int .u64 (lo (d2.den - 1)), .string (bg (d2.den - 1))] ∧ Below w.heap.size w w2) ⟨so10 (so10 (so10 (so10 (BX0.out) (by show w.heap.size ≠ gx1; omega)) (by show w.heap.size ≠ gx2; omega)) (by show w.heap.size ≠ gx3; omega)) (by show w.heap.size ≠ gx4; omega), (so10 (so10 (so10 (((((((((((BX1.out).set 0 _).set 1 _).set 2 _).set 3 _).set 4 _).set 5 _).set 6 _).set 7 _).set 8 _).set 9 _) (by show gx1 ≠ gx2; omega)) (by show gx1 ≠ gx3; omega)) (by show gx1 ≠ gx4; omega)).eq (by simp only [rA, rB, rC]), (so10 (so10 (((((((((((so10 (BX2.out) (by show gx2 ≠ gx1; omega)).set 0 _).set 1 _).set 2 _).set 3 _).set 4 _).set 5 _).set 6 _).set 7 _).set 8 _).set 9 _) (by show gx2 ≠ gx3; omega)) (by show gx2 ≠ gx4; omega)).eq (by simp only [rA, rB, rC]), (so10 (((((((((((so10 (so10 (BX3.out) (by show gx3 ≠ gx1; omega)) (by show gx3 ≠ gx2; omega)).set 0 _).set 1 _).set 2 _).set 3 _).set 4 _).set 5 _).set 6 _).set 7 _).set 8 _).set 9 _) (by show gx3 ≠ gx4; omega)).eq (by simp only [rA, rB, rC]), (((((((((((so10 (so10 (so10 (BX4.out) (by show gx4 ≠ gx1; omega)) (by show gx4 ≠ gx2; omega)) (by show gx4 ≠ gx3; omega)).set 0 _).set 1 _).set 2 _).set 3 _).set 4 _).set 5 _).set 6 _).set 7 _).set 8 _).set 9 _).eq (by simp only [rA, rB, rC]), sc10 (sc10 (sc10 (sc10 (HB.out.trans (HG.out.mono HB.out.size)) (by show w.heap.size ≤ gx1; omega)) (by show w.heap.size ≤ gx2; omega)) (by show w.heap.size ≤ gx3; omega)) (by show w.heap.size ≤ gx4; omega)⟩ ?_
  clear HB HG BX0 BX1 BX2 BX3 BX4
  rintro Wx1 ⟨bx0, bx1, bx2, bx3, bx4, HB⟩
  replace HB := Lib.hid HB
  -- region 2
  have HZ9 : Hid (qv (n0x) (d0x) = a1) := Lib.hid (hz_a1.out)
  have HZ10 : Hid (qv (n0y) (d0y) = a2) := Lib.hid (hz_a2.out)
  have HZ11 : Hid (qv (n1x) (d1x) = b1) := Lib.hid (hz_b1.out)
  have HZ12 : Hid (qv (n1y) (d1y) = b2) := Lib.hid (hz_b2.out)
  have HZ13 : Hid (qv (n2x) (d2x) = c1) := Lib.hid (hz_c1.out)
  have HZ14 : Hid (qv (n2y) (d2y) = c2) := Lib.hid (hz_c2.out)
  have HZ15 : Hid (qv (n3x) (d3x) = d1) := Lib.hid (hz_d1.out)
  have HZ16 : Hid (qv (n3y) (d3y) = d2) := Lib.hid (hz_d2.out)
  have lx0 := bx0.cells
  have BX0 := Lib.hid bx0
  have BX1 := Lib.hid bx1
  have BX2 := Lib.hid bx2
  have BX3 := Lib.hid bx3
  have BX4 := Lib.hid bx4
  clear bx0 bx1 bx2 bx3 bx4
  refine wp_seq_k fun K hK => ?_
  replace hK := Lib.hid hK
  have HS0 := Lib.hid (HB.out.size)
  have MX0 : w.heap.size < Wx1.heap.size := BX0.out.lt
  have MX1 : gx1 < Wx1.heap.size := BX1.out.lt
  have MX2 : gx2 < Wx1.heap.size := BX2.out.lt
  have MX3 : gx3 < Wx1.heap.size := BX3.out.lt
  have MX4 : gx4 < Wx1.heap.size := BX4.out.lt
  refine wp_region_plan 16 [12, 13, 14, 15] [] (fun i => if i = 12 then 7 else if i = 13 then 8 else if i = 14 then 9 else 10) (fun i => if i = 12 then .cells #[.bool false, .slice none 0 0, .slice none 0 0, .bool false, .slice none 0 0, .slice none 0 0] 47 else if i = 13 then .cells #[.bool false, .slice none 0 0, .slice none 0 0, .bool false, .slice none 0 0, .slice none 0 0] 47 else if i = 14 then .cells #[.bool false, .slice none 0 0, .slice none 0 0, .bool false, .slice none 0 0, .slice none 0 0] 47 else .cells #[.bool false, .slice none 0 0, .slice none 0 0, .bool false, .slice none 0 0, .slice none 0 0] 47) [(true, 0), (true, 1), (true, 3), (true, 4), (true, 6), (true, 7), (true, 9), (true, 10), (false, 2), (false, 5), (false, 8), (false, 11)] (by kernel_rfl) (by kernel_rfl) (by intro i hi; simp only [List.mem_cons, List.not_mem_nil, or_false] at hi; rcases hi with rfl | rfl | rfl | rfl <;> exact ⟨_, rfl, rfl, rfl, by simp, fun ρ w => by kernel_rfl⟩) (fun i hi => by cases hi) (fun _ _ _ _ _ h => h) (fun T hT => ?_)
  iterate 8
    refine wpPlan_takeL (v := ?_) rfl (by rfl) (fun w' hw => ?_) ?_
    rotate_left
    · go_simp
      with_reducible rfl
    simp only [Act.put, rA, rB, rC]
  refine wpPlan_callE rfl (by rfl) Tryz.call5 (by rfl) (fun w' hw => (rpref (n0x) (d0x) (n0y) (d0y) (a1) (a2) _ HZ9.out HZ10.out (by omega) (by omega) (by omega) (by omega) (by omega) (by omega) (by omega) (by omega)).mono ?_)
  rintro e vv1 ⟨⟨rv1, rv2, rv3, rv4, rfl, bx5, bx6, bx7, bx8⟩, hg0⟩
  obtain ⟨ao1, nn1, cc1, rfl⟩ := Rn.sl bx5
  obtain ⟨ao2, nn2, cc2, rfl⟩ := Rn.sl bx6
  obtain ⟨ao3, nn3, cc3, rfl⟩ := Rn.sl bx7
  obtain ⟨ao4, nn4, cc4, rfl⟩ := Rn.sl bx8
  refine ⟨_, rfl, hg0, ?_⟩
  replace hg0 := Gr.trans hw hg0; clear hw
  have HG0 := Lib.hid hg0; clear hg0
  replace BX0 := bG BX0 HG0
  replace BX1 := bG BX1 HG0
  replace BX2 := bG BX2 HG0
  replace BX3 := bG BX3 HG0
  replace BX4 := bG BX4 HG0
  replace HB := Lib.hid (HB.out.trans (HG0.out.mono HB.out.size))
  have BX5 := Lib.hid bx5; clear bx5
  have BX6 := Lib.hid bx6; clear bx6
  have BX7 := Lib.hid bx7; clear bx7
  have BX8 := Lib.hid bx8; clear bx8
  clear HG0
  clear lx0; have lx0 := BX0.out.cells
  simp only [Act.put, rA, rB, rC]
  refine wpPlan_callE rfl (by rfl) Tryz.call5 (by rfl) (fun w' hw => (rpref (n1x) (d1x) (n1y) (d1y) (b1) (b2) _ HZ11.out HZ12.out (by omega) (by omega) (by omega) (by omega) (by omega) (by omega) (by omega) (by omega)).mono ?_)
  rintro e vv2 ⟨⟨rv5, rv6, rv7, rv8, rfl, bx9, bx10, bx11, bx12⟩, hg0⟩
  obtain ⟨ao5, nn5, cc5, rfl⟩ := Rn.sl bx9
  obtain ⟨ao6, nn6, cc6, rfl⟩ := Rn.sl bx10
  obtain ⟨ao7, nn7, cc7, rfl⟩ := Rn.sl bx11
  obtain ⟨ao8, nn8, cc8, rfl⟩ := Rn.sl bx12
  refine ⟨_, rfl, hg0, ?_⟩
  replace hg0 := Gr.trans hw hg0; clear hw
  have HG0 := Lib.hid hg0; clear hg0
  replace BX0 := bG BX0 HG0
  replace BX1 := bG BX1 HG0
  replace BX2 := bG BX2 HG0
  replace BX3 := bG BX3 HG0
  replace BX4 := bG BX4 HG0
  replace BX5 := rG BX5 HG0
  replace BX6 := rG BX6 HG0
  replace BX7 := rG BX7 HG0
  replace BX8 := rG BX8 HG0
  replace HB := Lib.hid (HB.out.trans (HG0.out.mono HB.out.size))
  have BX9 := Lib.hid bx9; clear bx9
  have BX10 := Lib.hid bx10; clear bx10
  have BX11 := Lib.hid bx11; clear bx11
  have BX12 := Lib.hid bx12; clear bx12
  clear HG0
  clear lx0; have lx0 := BX0.out.cells
  simp only [Act.put, rA, rB, rC]
  refine wpPlan_callE rfl (by rfl) Tryz.call5 (by rfl) (fun w' hw => (rpref (n2x) (d2x) (n2y) (d2y) (c1) (c2) _ HZ13.out HZ14.out (by omega) (by omega) (by omega) (by omega) (by omega) (by omega) (by omega) (by omega)).mono ?_)
  rintro e vv3 ⟨⟨rv9, rv10, rv11, rv12, rfl, bx13, bx14, bx15, bx16⟩, hg0⟩
  obtain ⟨ao9, nn9, cc9, rfl⟩ := Rn.sl bx13
  obtain ⟨ao10, nn10, cc10, rfl⟩ := Rn.sl bx14
  obtain ⟨ao11, nn11, cc11, rfl⟩ := Rn.sl bx15
  obtain ⟨ao12, nn12, cc12, rfl⟩ := Rn.sl bx16
  refine ⟨_, rfl, hg0, ?_⟩
  replace hg0 := Gr.trans hw hg0; clear hw
  have HG0 := Lib.hid hg0; clear hg0
  replace BX0 := bG BX0 HG0
  replace BX1 := bG BX1 HG0
  replace BX2 := bG BX2 HG0
  replace BX3 := bG BX3 HG0
  replace BX4 := bG BX4 HG0
  replace BX5 := rG BX5 HG0
  replace BX6 := rG BX6 HG0
  replace BX7 := rG BX7 HG0
  replace BX8 := rG BX8 HG0
  replace BX9 := rG BX9 HG0
  replace BX10 := rG BX10 HG0
  replace BX11 := rG BX11 HG0
  replace BX12 := rG BX12 HG0
  replace HB := Lib.hid (HB.out.trans (HG0.out.mono HB.out.size))
  have BX13 := Lib.hid bx13; clear bx13
  have BX14 := Lib.hid bx14; clear bx14
  have BX15 := Lib.hid bx15; clear bx15
  have BX16 := Lib.hid bx16; clear bx16
  clear HG0
  clear lx0; have lx0 := BX0.out.cells
  simp only [Act.put, rA, rB, rC]
  refine wpPlan_callE rfl (by rfl) Tryz.call5 (by rfl) (fun w' hw => (rpref (n3x) (d3x) (n3y) (d3y) (d1) (d2) _ HZ15.out HZ16.out (by omega) (by omega) (by omega) (by omega) (by omega) (by omega) (by omega) (by omega)).mono ?_)
  rintro e vv4 ⟨⟨rv13, rv14, rv15, rv16, rfl, bx17, bx18, bx19, bx20⟩, hg0⟩
  obtain ⟨ao13, nn13, cc13, rfl⟩ := Rn.sl bx17
  obtain ⟨ao14, nn14, cc14, rfl⟩ := Rn.sl bx18
  obtain ⟨ao15, nn15, cc15, rfl⟩ := Rn.sl bx19
  obtain ⟨ao16, nn16, cc16, rfl⟩ := Rn.sl bx20
  refine ⟨_, rfl, hg0, ?_⟩
  replace hg0 := Gr.trans hw hg0; clear hw
  have HG0 := Lib.hid hg0; clear hg0
  replace BX0 := bG BX0 HG0
  replace BX1 := bG BX1 HG0
  replace BX2 := bG BX2 HG0
  replace BX3 := bG BX3 HG0
  replace BX4 := bG BX4 HG0
  replace BX5 := rG BX5 HG0
  replace BX6 := rG BX6 HG0
  replace BX7 := rG BX7 HG0
  replace BX8 := rG BX8 HG0
  replace BX9 := rG BX9 HG0
  replace BX10 := rG BX10 HG0
  replace BX11 := rG BX11 HG0
  replace BX12 := rG BX12 HG0
  replace BX13 := rG BX13 HG0
  replace BX14 := rG BX14 HG0
  replace BX15 := rG BX15 HG0
  replace BX16 := rG BX16 HG0
  replace HB := Lib.hid (HB.out.trans (HG0.out.mono HB.out.size))
  have BX17 := Lib.hid bx17; clear bx17
  have BX18 := Lib.hid bx18; clear bx18
  have BX19 := Lib.hid bx19; clear bx19
  have BX20 := Lib.hid bx20; clear bx20
  clear HG0
  clear lx0; have lx0 := BX0.out.cells
  simp only [Act.put, rA, rB, rC]
  refine wpPlan_nil (hT.out _ _ ?_); clear hT T
  intro G vw2 hg hf
  simp only [puts, Act.put, rA, rB, rC, rD, rE, ↓reduceIte, Nat.reduceEqDiff]
  clear lx0
  have HG := Lib.hid (hg)
  clear hg
  have bx21 := Bx.of_fresh hf (i := 12) (by decide) rfl
  have yx21 := (hf.1 12 (by decide)).1
  have bx22 := Bx.of_fresh hf (i := 13) (by decide) rfl
  have yx22 := (hf.1 13 (by decide)).1
  have dx21_22 : G 12 ≠ G 13 := fun e => absurd (hf.2 12 (by decide) 13 (by decide) e) (by decide)
  have bx23 := Bx.of_fresh hf (i := 14) (by decide) rfl
  have yx23 := (hf.1 14 (by decide)).1
  have dx21_23 : G 12 ≠ G 14 := fun e => absurd (hf.2 12 (by decide) 14 (by decide) e) (by decide)
  have dx22_23 : G 13 ≠ G 14 := fun e => absurd (hf.2 13 (by decide) 14 (by decide) e) (by decide)
  have bx24 := Bx.of_fresh hf (i := 15) (by decide) rfl
  have yx24 := (hf.1 15 (by decide)).1
  have dx21_24 : G 12 ≠ G 15 := fun e => absurd (hf.2 12 (by decide) 15 (by decide) e) (by decide)
  have dx22_24 : G 13 ≠ G 15 := fun e => absurd (hf.2 13 (by decide) 15 (by decide) e) (by decide)
  have dx23_24 : G 14 ≠ G 15 := fun e => absurd (hf.2 14 (by decide) 15 (by decide) e) (by decide)
  clear hf
  generalize G 12 = gx21 at *
  generalize G 13 = gx22 at *
  generalize G 14 = gx23 at *
  generalize G 15 = gx24 at *
  have qx0_21 : w.heap.size < gx21 := Nat.lt_of_lt_of_le MX0 yx21
  have qx0_22 : w.heap.size < gx22 := Nat.lt_of_lt_of_le MX0 yx22
  have qx0_23 : w.heap.size < gx23 := Nat.lt_of_lt_of_le MX0 yx23
  have qx0_24 : w.heap.size < gx24 := Nat.lt_of_lt_of_le MX0 yx24
  have qx1_21 : gx1 < gx21 := Nat.lt_of_lt_of_le MX1 yx21
  have qx1_22 : gx1 < gx22 := Nat.lt_of_lt_of_le MX1 yx22
  have qx1_23 : gx1 < gx23 := Nat.lt_of_lt_of_le MX1 yx23
  have qx1_24 : gx1 < gx24 := Nat.lt_of_lt_of_le MX1 yx24
  have qx2_21 : gx2 < gx21 := Nat.lt_of_lt_of_le MX2 yx21
  have qx2_22 : gx2 < gx22 := Nat.lt_of_lt_of_le MX2 yx22
  have qx2_23 : gx2 < gx23 := Nat.lt_of_lt_of_le MX2 yx23
  have qx2_24 : gx2 < gx24 := Nat.lt_of_lt_of_le MX2 yx24
  have qx3_21 : gx3 < gx21 := Nat.lt_of_lt_of_le MX3 yx21
  have qx3_22 : gx3 < gx22 := Nat.lt_of_lt_of_le MX3 yx22
  have qx3_23 : gx3 < gx23 := Nat.lt_of_lt_of_le MX3 yx23
  have qx3_24 : gx3 < gx24 := Nat.lt_of_lt_of_le MX3 yx24
  have qx4_21 : gx4 < gx21 := Nat.lt_of_lt_of_le MX4 yx21
  have qx4_22 : gx4 < gx22 := Nat.lt_of_lt_of_le MX4 yx22
  have qx4_23 : gx4 < gx23 := Nat.lt_of_lt_of_le MX4 yx23
  have qx4_24 : gx4 < gx24 := Nat.lt_of_lt_of_le MX4 yx24
  replace yx21 : w.heap.size ≤ gx21 := Nat.le_trans HS0.out yx21
  replace yx22 : w.heap.size ≤ gx22 := Nat.le_trans HS0.out yx22
  replace yx23 : w.heap.size ≤ gx23 := Nat.le_trans HS0.out yx23
  replace yx24 : w.heap.size ≤ gx24 := Nat.le_trans HS0.out yx24
  replace BX0 := bG BX0 HG
  replace BX1 := bG BX1 HG
  replace BX2 := bG BX2 HG
  replace BX3 := bG BX3 HG
  replace BX4 := bG BX4 HG
  replace BX5 := rG BX5 HG
  replace BX6 := rG BX6 HG
  replace BX7 := rG BX7 HG
  replace BX8 := rG BX8 HG
  replace BX9 := rG BX9 HG
  replace BX10 := rG BX10 HG
  replace BX11 := rG BX11 HG
  replace BX12 := rG BX12 HG
  replace BX13 := rG BX13 HG
  replace BX14 := rG BX14 HG
  replace BX15 := rG BX15 HG
  replace BX16 := rG BX16 HG
  replace BX17 := rG BX17 HG
  replace BX18 := rG BX18 HG
  replace BX19 := rG BX19 HG
  replace BX20 := rG BX20 HG
  have lx21 := bx21.cells; have fx21 := bx21.free
  have lx22 := bx22.cells; have fx22 := bx22.free
  have lx23 := bx23.cells; have fx23 := bx23.free
  have lx24 := bx24.cells; have fx24 := bx24.free
  have r0 := Gr.refl vw2
  have BX21 := Lib.hid bx21; clear bx21
  have BX22 := Lib.hid bx22; clear bx22
  have BX23 := Lib.hid bx23; clear bx23
  have BX24 := Lib.hid bx24; clear bx24
  go_wp2
  refine hK.out _ _ ?_; clear hK K
  show Code.wp _ _ _ _ _
  clear lx21 fx21
  clear lx22 fx22
  clear lx23 fx23
  clear lx24 fx24
  clear r0
  refine forgetW (fun w2 => Bx w2 gx1 38 #[.int .u64 (lo a1.num.natAbs), .string (bg a1.num.natAbs), .bool (decide (a1.num < 0)), .int .u64 (lo (a1.den - 1)), .string (bg (a1.den - 1)), .int .u64 (lo a2.num.natAbs), .string (bg a2.num.natAbs), .bool (decide (a2.num < 0)), .int .u64 (lo (a2.den - 1)), .string (bg (a2.den - 1))] ∧ Bx w2 gx2 38 #[.int .u64 (lo b1.num.natAbs), .string (bg b1.num.natAbs), .bool (decide (b1.num < 0)), .int .u64 (lo (b1.den - 1)), .string (bg (b1.den - 1)), .int .u64 (lo b2.num.natAbs), .string (bg b2.num.natAbs), .bool (decide (b2.num < 0)), .int .u64 (lo (b2.den - 1)), .string (bg (b2.den - 1))] ∧ Bx w2 gx3 38 #[.int .u64 (lo c1.num.natAbs), .string (bg c1.num.natAbs), .bool (decide (c1.num < 0)), .int .u64 (lo (c1.den - 1)), .string (bg (c1.den - 1)), .int .u64 (lo c2.num.natAbs), .string (bg c2.num.natAbs), .bool (decide (c2.num < 0)), .int .u64 (lo (c2.den - 1)), .string (bg (c2.den - 1))] ∧ Bx w2 gx4 38 #[.int .u64 (lo d1.num.natAbs), .string (bg d1.num.natAbs), .bool (decide (d1.num < 0)), .int .u64 (lo (d1.den - 1)), .string (bg (d1.den - 1)), .int .u64 (lo d2.num.natAbs), .string (bg d2.num.natAbs), .bool (decide (d2.num < 0)), .int .u64 (lo (d2.den - 1)), .string (bg (d2.den - 1))] ∧ Rn w2 (.slice ao1 nn1 cc1) (a1.num.natAbs) ∧ Rn w2 (.slice ao2 nn2 cc2) (a1.den - 1) ∧ Rn w2 (.slice ao3 nn3 cc3) (a2.num.natAbs) ∧ Rn w2 (.slice ao4 nn4 cc4) (a2.den - 1) ∧ Rn w2 (.slice ao5 nn5 cc5) (b1.num.natAbs) ∧ Rn w2 (.slice ao6 nn6 cc6) (b1.den - 1) ∧ Rn w2 (.slice ao7 nn7 cc7) (b2.num.natAbs) ∧ Rn w2 (.slice ao8 nn8 cc8) (b2.den - 1) ∧ Rn w2 (.slice ao9 nn9 cc9) (c1.num.natAbs) ∧ Rn w2 (.slice ao10 nn10 cc10) (c1.den - 1) ∧ Rn w2 (.slice ao11 nn11 cc11) (c2.num.natAbs) ∧ Rn w2 (.slice ao12 nn12 cc12) (c2.den - 1) ∧ Rn w2 (.slice ao13 nn13 cc13) (d1.num.natAbs) ∧ Rn w2 (.slice ao14 nn14 cc14) (d1.den - 1) ∧ Rn w2 (.slice ao15 nn15 cc15) (d2.num.natAbs) ∧ Rn w2 (.slice ao16 nn16 cc16) (d2.den - 1) ∧ Bx w2 gx21 47 #[.bool (decide (a1.num < 0)), (.slice ao1 nn1 cc1), (.slice ao2 nn2 cc2), .bool (decide (a2.num < 0)), (.slice ao3 nn3 cc3), (.slice ao4 nn4 cc4)] ∧ Bx w2 gx22 47 #[.bool (decide (b1.num < 0)), (.slice ao5 nn5 cc5), (.slice ao6 nn6 cc6), .bool (decide (b2.num < 0)), (.slice ao7 nn7 cc7), (.slice ao8 nn8 cc8)] ∧ Bx w2 gx23 47 #[.bool (decide (c1.num < 0)), (.slice ao9 nn9 cc9), (.slice ao10 nn10 cc10), .bool (decide (c2.num < 0)), (.slice ao11 nn11 cc11), (.slice ao12 nn12 cc12)] ∧ Bx w2 gx24 47 #[.bool (decide (d1.num < 0)), (.slice ao13 nn13 cc13), (.slice ao14 nn14 cc14), .bool (decide (d2.num < 0)), (.slice ao15 nn15 cc15), (.slice ao16 nn16 cc16)] ∧ Below w.heap.size w w2) ⟨so6 (so6 (so6 (so6 (BX1.out) (by show gx1 ≠ gx21; omega)) (by show gx1 ≠ gx22; omega)) (by show gx1 ≠ gx23; omega)) (by show gx1 ≠ gx24; omega), so6 (so6 (so6 (so6 (BX2.out) (by show gx2 ≠ gx21; omega)) (by show gx2 ≠ gx22; omega)) (by show gx2 ≠ gx23; omega)) (by show gx2 ≠ gx24; omega), so6 (so6 (so6 (so6 (BX3.out) (by show gx3 ≠ gx21; omega)) (by show gx3 ≠ gx22; omega)) (by show gx3 ≠ gx23; omega)) (by show gx3 ≠ gx24; omega), so6 (so6 (so6 (so6 (BX4.out) (by show gx4 ≠ gx21; omega)) (by show gx4 ≠ gx22; omega)) (by show gx4 ≠ gx23; omega)) (by show gx4 ≠ gx24; omega), ro6 (ro6 (ro6 (ro6 (BX5.out) (Rn.ne BX5.out BX21.out (by decide))) (Rn.ne BX5.out BX22.out (by decide))) (Rn.ne BX5.out BX23.out (by decide))) (Rn.ne BX5.out BX24.out (by decide)), ro6 (ro6 (ro6 (ro6 (BX6.out) (Rn.ne BX6.out BX21.out (by decide))) (Rn.ne BX6.out BX22.out (by decide))) (Rn.ne BX6.out BX23.out (by decide))) (Rn.ne BX6.out BX24.out (by decide)), ro6 (ro6 (ro6 (ro6 (BX7.out) (Rn.ne BX7.out BX21.out (by decide))) (Rn.ne BX7.out BX22.out (by decide))) (Rn.ne BX7.out BX23.out (by decide))) (Rn.ne BX7.out BX24.out (by decide)), ro6 (ro6 (ro6 (ro6 (BX8.out) (Rn.ne BX8.out BX21.out (by decide))) (Rn.ne BX8.out BX22.out (by decide))) (Rn.ne BX8.out BX23.out (by decide))) (Rn.ne BX8.out BX24.out (by decide)), ro6 (ro6 (ro6 (ro6 (BX9.out) (Rn.ne BX9.out BX21.out (by decide))) (Rn.ne BX9.out BX22.out (by decide))) (Rn.ne BX9.out BX23.out (by decide))) (Rn.ne BX9.out BX24.out (by decide)), ro6 (ro6 (ro6 (ro6 (BX10.out) (Rn.ne BX10.out BX21.out (by decide))) (Rn.ne BX10.out BX22.out (by decide))) (Rn.ne BX10.out BX23.out (by decide))) (Rn.ne BX10.out BX24.out (by decide)), ro6 (ro6 (ro6 (ro6 (BX11.out) (Rn.ne BX11.out BX21.out (by decide))) (Rn.ne BX11.out BX22.out (by decide))) (Rn.ne BX11.out BX23.out (by decide))) (Rn.ne BX11.out BX24.out (by decide)), ro6 (ro6 (ro6 (ro6 (BX12.out) (Rn.ne BX12.out BX21.out (by decide))) (Rn.ne BX12.out BX22.out (by decide))) (Rn.ne BX12.out BX23.out (by decide))) (Rn.ne BX12.out BX24.out (by decide)), ro6 (ro6 (ro6 (ro6 (BX13.out) (Rn.ne BX13.out BX21.out (by decide))) (Rn.ne BX13.out BX22.out (by decide))) (Rn.ne BX13.out BX23.out (by decide))) (Rn.ne BX13.out BX24.out (by decide)), ro6 (ro6 (ro6 (ro6 (BX14.out) (Rn.ne BX14.out BX21.out (by decide))) (Rn.ne BX14.out BX22.out (by decide))) (Rn.ne BX14.out BX23.out (by decide))) (Rn.ne BX14.out BX24.out (by decide)), ro6 (ro6 (ro6 (ro6 (BX15.out) (Rn.ne BX15.out BX21.out (by decide))) (Rn.ne BX15.out BX22.out (by decide))) (Rn.ne BX15.out BX23.out (by decide))) (Rn.ne BX15.out BX24.out (by decide)), ro6 (ro6 (ro6 (ro6 (BX16.out) (Rn.ne BX16.out BX21.out (by decide))) (Rn.ne BX16.out BX22.out (by decide))) (Rn.ne BX16.out BX23.out (by decide))) (Rn.ne BX16.out BX24.out (by decide)), ro6 (ro6 (ro6 (ro6 (BX17.out) (Rn.ne BX17.out BX21.out (by decide))) (Rn.ne BX17.out BX22.out (by decide))) (Rn.ne BX17.out BX23.out (by decide))) (Rn.ne BX17.out BX24.out (by decide)), ro6 (ro6 (ro6 (ro6 (BX18.out) (Rn.ne BX18.out BX21.out (by decide))) (Rn.ne BX18.out BX22.out (by decide))) (Rn.ne BX18.out BX23.out (by decide))) (Rn.ne BX18.out BX24.out (by decide)), ro6 (ro6 (ro6 (ro6 (BX19.out) (Rn.ne BX19.out BX21.out (by decide))) (Rn.ne BX19.out BX22.out (by decide))) (Rn.ne BX19.out BX23.out (by decide))) (Rn.ne BX19.out BX24.out (by decide)), ro6 (ro6 (ro6 (ro6 (BX20.out) (Rn.ne BX20.out BX21.out (by decide))) (Rn.ne BX20.out BX22.out (by decide))) (Rn.ne BX20.out BX23.out (by decide))) (Rn.ne BX20.out BX24.out (by decide)), (so6 (so6 (so6 (((((((BX21.out).set 0 _).set 1 _).set 2 _).set 3 _).set 4 _).set 5 _) (by show gx21 ≠ gx22; omega)) (by show gx21 ≠ gx23; omega)) (by show gx21 ≠ gx24; omega)).eq (by simp only [rA, rB, rC]), (so6 (so6 (((((((so6 (BX22.out) (by show gx22 ≠ gx21; omega)).set 0 _).set 1 _).set 2 _).set 3 _).set 4 _).set 5 _) (by show gx22 ≠ gx23; omega)) (by show gx22 ≠ gx24; omega)).eq (by simp only [rA, rB, rC]), (so6 (((((((so6 (so6 (BX23.out) (by show gx23 ≠ gx21; omega)) (by show gx23 ≠ gx22; omega)).set 0 _).set 1 _).set 2 _).set 3 _).set 4 _).set 5 _) (by show gx23 ≠ gx24; omega)).eq (by simp only [rA, rB, rC]), (((((((so6 (so6 (so6 (BX24.out) (by show gx24 ≠ gx21; omega)) (by show gx24 ≠ gx22; omega)) (by show gx24 ≠ gx23; omega)).set 0 _).set 1 _).set 2 _).set 3 _).set 4 _).set 5 _).eq (by simp only [rA, rB, rC]), sc6 (sc6 (sc6 (sc6 (HB.out.trans (HG.out.mono HB.out.size)) (by show w.heap.size ≤ gx21; omega)) (by show w.heap.size ≤ gx22; omega)) (by show w.heap.size ≤ gx23; omega)) (by show w.heap.size ≤ gx24; omega)⟩ ?_
  clear HB HG BX0 BX1 BX2 BX3 BX4 BX5 BX6 BX7 BX8 BX9 BX10 BX11 BX12 BX13 BX14 BX15 BX16 BX17 BX18 BX19 BX20 BX21 BX22 BX23 BX24
  rintro Wx2 ⟨bx1, bx2, bx3, bx4, bx5, bx6, bx7, bx8, bx9, bx10, bx11, bx12, bx13, bx14, bx15, bx16, bx17, bx18, bx19, bx20, bx21, bx22, bx23, bx24, HB⟩
  replace HB := Lib.hid HB
  -- region 3
  have lx1 := bx1.cells
  have lx2 := bx2.cells
  have lx3 := bx3.cells
  have lx4 := bx4.cells
  have lx21 := bx21.cells
  have lx22 := bx22.cells
  have lx23 := bx23.cells
  have lx24 := bx24.cells
  have BX1 := Lib.hid bx1
  have BX2 := Lib.hid bx2
  have BX3 := Lib.hid bx3
  have BX4 := Lib.hid bx4
  have BX5 := Lib.hid bx5
  have BX6 := Lib.hid bx6
  have BX7 := Lib.hid bx7
  have BX8 := Lib.hid bx8
  have BX9 := Lib.hid bx9
  have BX10 := Lib.hid bx10
  have BX11 := Lib.hid bx11
  have BX12 := Lib.hid bx12
  have BX13 := Lib.hid bx13
  have BX14 := Lib.hid bx14
  have BX15 := Lib.hid bx15
  have BX16 := Lib.hid bx16
  have BX17 := Lib.hid bx17
  have BX18 := Lib.hid bx18
  have BX19 := Lib.hid bx19
  have BX20 := Lib.hid bx20
  have BX21 := Lib.hid bx21
  have BX22 := Lib.hid bx22
  have BX23 := Lib.hid bx23
  have BX24 := Lib.hid bx24
  clear bx1 bx2 bx3 bx4 bx5 bx6 bx7 bx8 bx9 bx10 bx11 bx12 bx13 bx14 bx15 bx16 bx17 bx18 bx19 bx20 bx21 bx22 bx23 bx24
  refine wp_seq_k fun K hK => ?_
  replace hK := Lib.hid hK
  refine wp_region_plan 36 [] [] (fun _ => 0) (fun _ => .cells #[] 0) [(true, 0), (true, 1), (true, 2), (true, 4), (true, 5), (true, 6), (true, 3), (true, 7), (true, 8), (true, 9), (true, 10), (true, 11), (true, 12), (true, 14), (true, 15), (true, 16), (true, 13), (true, 17), (true, 18), (true, 19), (true, 20), (true, 21), (true, 22), (true, 23), (true, 24), (true, 26), (true, 27), (true, 28), (true, 29), (true, 25), (true, 30), (true, 31), (true, 32), (true, 33), (true, 34), (true, 35)] (by kernel_rfl) (by kernel_rfl) (fun i hi => by cases hi) (fun i hi => by cases hi) (fun _ _ _ _ _ h => h) (fun T hT => ?_)
  iterate 6
    refine wpPlan_takeL (v := ?_) rfl (by rfl) (fun w' hw => ?_) ?_
    rotate_left
    · go_simp
      with_reducible rfl
    simp only [Act.put, rA, rB, rC]
  refine wpPlan_callL rfl (by rfl) Tryz.call6 (fun w' hw => pturn_any (a1) (a2) (b1) (b2) (c1) (c2) (t) _ (ht.out) (by omega) (by omega) (by omega) (by omega) (by omega) (by omega)) (by rfl) ?_
  simp only [Act.put, rA, rB, rC]
  refine wpPlan_callL rfl (by rfl) Tryz.call7 (fun w' hw => rpturn (a1) (a2) (b1) (b2) (c1) (c2) (t) _ _ _ _ _ _ _ _ _ _ _ _ _ (ht.out) (by omega) (by omega) (by omega) (by omega) (by omega) (by omega) (BX5.out.gr hw) (BX6.out.gr hw) (BX7.out.gr hw) (BX8.out.gr hw) (BX9.out.gr hw) (BX10.out.gr hw) (BX11.out.gr hw) (BX12.out.gr hw) (BX13.out.gr hw) (BX14.out.gr hw) (BX15.out.gr hw) (BX16.out.gr hw)) (by rfl) ?_
  simp only [Act.put, rA, rB, rC]
  iterate 8
    refine wpPlan_takeL (v := ?_) rfl (by rfl) (fun w' hw => ?_) ?_
    rotate_left
    · go_simp
      with_reducible rfl
    simp only [Act.put, rA, rB, rC]
  refine wpPlan_callL rfl (by rfl) Tryz.call8 (fun w' hw => pon_any (a1) (a2) (b1) (b2) (c1) (c2) r _ (hr.out) (by omega) (by omega) (by omega) (by omega) (by omega) (by omega)) (by rfl) ?_
  simp only [Act.put, rA, rB, rC]
  refine wpPlan_callL rfl (by rfl) Tryz.call9 (fun w' hw => rpon (a1) (a2) (b1) (b2) (c1) (c2) r _ _ _ _ _ _ _ _ _ _ _ _ _ (by rw [← hr.out]; exact (on_eq (a1, a2) (b1, b2) (c1, c2)).symm) (by omega) (by omega) (by omega) (by omega) (by omega) (by omega) (BX5.out.gr hw) (BX6.out.gr hw) (BX7.out.gr hw) (BX8.out.gr hw) (BX9.out.gr hw) (BX10.out.gr hw) (BX11.out.gr hw) (BX12.out.gr hw) (BX13.out.gr hw) (BX14.out.gr hw) (BX15.out.gr hw) (BX16.out.gr hw)) (by rfl) ?_
  simp only [Act.put, rA, rB, rC]
  iterate 11
    refine wpPlan_takeL (v := ?_) rfl (by rfl) (fun w' hw => ?_) ?_
    rotate_left
    · go_simp
      with_reducible rfl
    simp only [Act.put, rA, rB, rC]
  refine wpPlan_callL rfl (by rfl) Tryz.call10 (fun w' hw => pcircle_any (a1) (a2) (b1) (b2) (c1) (c2) (d1) (d2) (s) (t) (k) _ (hsg.out) (ht.out) (hk.out) (by omega) (by omega) (by omega) (by omega) (by omega) (by omega) (by omega) (by omega)) (by rfl) ?_
  simp only [Act.put, rA, rB, rC]
  refine wpPlan_callL rfl (by rfl) Tryz.call11 (fun w' hw => rpcircle (a1) (a2) (b1) (b2) (c1) (c2) (d1) (d2) (k) _ _ _ _ _ _ _ _ _ _ _ _ _ _ _ _ _ (by rw [← hk.out, ← hsg.out, ← ht.out]; exact (circ_eq _ _ _ _ _ _ _ _).symm) (by omega) (by omega) (by omega) (by omega) (by omega) (by omega) (by omega) (by omega) (BX5.out.gr hw) (BX6.out.gr hw) (BX7.out.gr hw) (BX8.out.gr hw) (BX9.out.gr hw) (BX10.out.gr hw) (BX11.out.gr hw) (BX12.out.gr hw) (BX13.out.gr hw) (BX14.out.gr hw) (BX15.out.gr hw) (BX16.out.gr hw) (BX17.out.gr hw) (BX18.out.gr hw) (BX19.out.gr hw) (BX20.out.gr hw)) (by rfl) ?_
  simp only [Act.put, rA, rB, rC]
  iterate 3
    refine wpPlan_takeL (v := ?_) rfl (by rfl) (fun w' hw => ?_) ?_
    rotate_left
    · go_simp
      with_reducible rfl
    simp only [Act.put, rA, rB, rC]
  refine wpPlan_callL rfl (by rfl) Tryz.call12 (fun w' hw => lives_any _) (by rfl) ?_
  simp only [Act.put, rA, rB, rC]
  iterate 1
    refine wpPlan_takeL (v := ?_) rfl (by rfl) (fun w' hw => ?_) ?_
    rotate_left
    · go_simp
      with_reducible rfl
    simp only [Act.put, rA, rB, rC]
  refine wpPlan_nil (hT.out _ _ ?_); clear hT T
  intro G vw3 hg hf
  simp only [puts, Act.put, rA, rB, rC, rD, rE, ↓reduceIte, Nat.reduceEqDiff]
  clear lx1 lx2 lx3 lx4 lx21 lx22 lx23 lx24
  have HG := Lib.hid (hg)
  clear hg
  replace BX1 := bG BX1 HG
  replace BX2 := bG BX2 HG
  replace BX3 := bG BX3 HG
  replace BX4 := bG BX4 HG
  replace BX5 := rG BX5 HG
  replace BX6 := rG BX6 HG
  replace BX7 := rG BX7 HG
  replace BX8 := rG BX8 HG
  replace BX9 := rG BX9 HG
  replace BX10 := rG BX10 HG
  replace BX11 := rG BX11 HG
  replace BX12 := rG BX12 HG
  replace BX13 := rG BX13 HG
  replace BX14 := rG BX14 HG
  replace BX15 := rG BX15 HG
  replace BX16 := rG BX16 HG
  replace BX17 := rG BX17 HG
  replace BX18 := rG BX18 HG
  replace BX19 := rG BX19 HG
  replace BX20 := rG BX20 HG
  replace BX21 := bG BX21 HG
  replace BX22 := bG BX22 HG
  replace BX23 := bG BX23 HG
  replace BX24 := bG BX24 HG
  have r0 := Gr.refl vw3
  go_wp2
  refine hK.out _ _ ?_; clear hK K
  show Code.wp _ _ _ _ _
  clear r0
  refine forgetW (fun w2 => Below w.heap.size w w2) (HB.out.trans (HG.out.mono HB.out.size)) ?_
  clear HB HG BX1 BX2 BX3 BX4 BX5 BX6 BX7 BX8 BX9 BX10 BX11 BX12 BX13 BX14 BX15 BX16 BX17 BX18 BX19 BX20 BX21 BX22 BX23 BX24
  rintro Wx3 HB
  replace HB := Lib.hid HB
  refine wp_ret ?_
  try simp only [Exit.then, Exit.inBlock]
  have r0 := Gr.refl Wx3
  exact bodyPost_ret (v := .bool true) (by simp [results, Tryz.results3, go_sem]) rfl ⟨rfl, HB.out⟩

theorem turn_law (n0x d0x n0y d0y n1x d1x n1y d1y n2x d2x n2y d2y n3x d3x n3y d3y : Int) (w : World) (h1_0x : -9223372036854775808 ≤ n0x) (h2_0x : n0x ≤ 9223372036854775807) (h3_0x : 0 ≤ d0x) (h4_0x : d0x ≤ 4294967295) (h1_0y : -9223372036854775808 ≤ n0y) (h2_0y : n0y ≤ 9223372036854775807) (h3_0y : 0 ≤ d0y) (h4_0y : d0y ≤ 4294967295) (h1_1x : -9223372036854775808 ≤ n1x) (h2_1x : n1x ≤ 9223372036854775807) (h3_1x : 0 ≤ d1x) (h4_1x : d1x ≤ 4294967295) (h1_1y : -9223372036854775808 ≤ n1y) (h2_1y : n1y ≤ 9223372036854775807) (h3_1y : 0 ≤ d1y) (h4_1y : d1y ≤ 4294967295) (h1_2x : -9223372036854775808 ≤ n2x) (h2_2x : n2x ≤ 9223372036854775807) (h3_2x : 0 ≤ d2x) (h4_2x : d2x ≤ 4294967295) (h1_2y : -9223372036854775808 ≤ n2y) (h2_2y : n2y ≤ 9223372036854775807) (h3_2y : 0 ≤ d2y) (h4_2y : d2y ≤ 4294967295) (h1_3x : -9223372036854775808 ≤ n3x) (h2_3x : n3x ≤ 9223372036854775807) (h3_3x : 0 ≤ d3x) (h4_3x : d3x ≤ 4294967295) (h1_3y : -9223372036854775808 ≤ n3y) (h2_3y : n3y ≤ 9223372036854775807) (h3_3y : 0 ≤ d3y) (h4_3y : d3y ≤ 4294967295) :
    Calls Tryz.prog 3 #[(Value.agg #[.int .i64 (n0x), .int .u32 (d0x), .int .i64 (n0y), .int .u32 (d0y), .int .i64 (n1x), .int .u32 (d1x), .int .i64 (n1y), .int .u32 (d1y), .int .i64 (n2x), .int .u32 (d2x), .int .i64 (n2y), .int .u32 (d2y), .int .i64 (n3x), .int .u32 (d3x), .int .i64 (n3y), .int .u32 (d3y)])] w fun e w' => e = .returned (.bool true) ∧ Below w.heap.size w w' :=
  turn_walk n0x d0x n0y d0y n1x d1x n1y d1y n2x d2x n2y d2y n3x d3x n3y d3y (qv n0x d0x) (qv n0y d0y) (qv n1x d1x) (qv n1y d1y) (qv n2x d2x) (qv n2y d2y) (qv n3x d3x) (qv n3y d3y) _ _ _ _ w h1_0x h2_0x h3_0x h4_0x h1_0y h2_0y h3_0y h4_0y h1_1x h2_1x h3_1x h4_1x h1_1y h2_1y h3_1y h4_1y h1_2x h2_2x h3_2x h4_2x h1_2y h2_2y h3_2y h4_2y h1_3x h2_3x h3_3x h4_3x h1_3y h2_3y h3_3y h4_3y (Lib.hid rfl) (Lib.hid rfl) (Lib.hid rfl) (Lib.hid rfl) (Lib.hid rfl) (Lib.hid rfl) (Lib.hid rfl) (Lib.hid rfl) (sz_qv _ _ h1_0x h2_0x h3_0x h4_0x) (sz_qv _ _ h1_0y h2_0y h3_0y h4_0y) (sz_qv _ _ h1_1x h2_1x h3_1x h4_1x) (sz_qv _ _ h1_1y h2_1y h3_1y h4_1y) (sz_qv _ _ h1_2x h2_2x h3_2x h4_2x) (sz_qv _ _ h1_2y h2_2y h3_2y h4_2y) (sz_qv _ _ h1_3x h2_3x h3_3x h4_3x) (sz_qv _ _ h1_3y h2_3y h3_3y h4_3y) (rz_qv _ _ h1_0x h2_0x h3_0x h4_0x) (rz_qv _ _ h1_0y h2_0y h3_0y h4_0y) (rz_qv _ _ h1_1x h2_1x h3_1x h4_1x) (rz_qv _ _ h1_1y h2_1y h3_1y h4_1y) (rz_qv _ _ h1_2x h2_2x h3_2x h4_2x) (rz_qv _ _ h1_2y h2_2y h3_2y h4_2y) (rz_qv _ _ h1_3x h2_3x h3_3x h4_3x) (rz_qv _ _ h1_3y h2_3y h3_3y h4_3y) (Lib.hid rfl) (Lib.hid rfl) (Lib.hid rfl) (Lib.hid rfl)

end Go.Proofs.YtenpbnmmadbkdaaGreat


/- PointsTurn's row holds. No condition. -/
namespace Go.Proofs.YtenpbnmmadbkdaaGreat
open Go.ChangeShapes Go.WideShapes Go.ChangeAt Go.RowKit
set_option maxRecDepth 100000 in
theorem open_x {w : World} {r : Reach} {base : Nat} {v : Value} (h : Value.okWide Tryz.prog w r base 27 v) : ∃ x0 x1 x2 x3 x4 x5 x6 x7 x8 x9 x10 x11 x12 x13 x14 x15 : Int, v = .agg #[.int .i64 x0, .int .u32 x1, .int .i64 x2, .int .u32 x3, .int .i64 x4, .int .u32 x5, .int .i64 x6, .int .u32 x7, .int .i64 x8, .int .u32 x9, .int .i64 x10, .int .u32 x11, .int .i64 x12, .int .u32 x13, .int .i64 x14, .int .u32 x15] ∧ -9223372036854775808 ≤ x0 ∧ x0 ≤ 9223372036854775807 ∧ 0 ≤ x1 ∧ x1 ≤ 4294967295 ∧ -9223372036854775808 ≤ x2 ∧ x2 ≤ 9223372036854775807 ∧ 0 ≤ x3 ∧ x3 ≤ 4294967295 ∧ -9223372036854775808 ≤ x4 ∧ x4 ≤ 9223372036854775807 ∧ 0 ≤ x5 ∧ x5 ≤ 4294967295 ∧ -9223372036854775808 ≤ x6 ∧ x6 ≤ 9223372036854775807 ∧ 0 ≤ x7 ∧ x7 ≤ 4294967295 ∧ -9223372036854775808 ≤ x8 ∧ x8 ≤ 9223372036854775807 ∧ 0 ≤ x9 ∧ x9 ≤ 4294967295 ∧ -9223372036854775808 ≤ x10 ∧ x10 ≤ 9223372036854775807 ∧ 0 ≤ x11 ∧ x11 ≤ 4294967295 ∧ -9223372036854775808 ≤ x12 ∧ x12 ≤ 9223372036854775807 ∧ 0 ≤ x13 ∧ x13 ≤ 4294967295 ∧ -9223372036854775808 ≤ x14 ∧ x14 ≤ 9223372036854775807 ∧ 0 ≤ x15 ∧ x15 ≤ 4294967295 := by
  obtain ⟨l, rfl, hl, hc⟩ := row_open (ts := [2, 22, 2, 22, 2, 22, 2, 22, 2, 22, 2, 22, 2, 22, 2, 22]) (.inr ⟨_, _, Tryz.underlying27⟩) (by kernel_rfl) (by kernel_rfl) h
  rcases l with _ | ⟨c0, l⟩
  · simp at hl
  rcases l with _ | ⟨c1, l⟩
  · simp at hl
  rcases l with _ | ⟨c2, l⟩
  · simp at hl
  rcases l with _ | ⟨c3, l⟩
  · simp at hl
  rcases l with _ | ⟨c4, l⟩
  · simp at hl
  rcases l with _ | ⟨c5, l⟩
  · simp at hl
  rcases l with _ | ⟨c6, l⟩
  · simp at hl
  rcases l with _ | ⟨c7, l⟩
  · simp at hl
  rcases l with _ | ⟨c8, l⟩
  · simp at hl
  rcases l with _ | ⟨c9, l⟩
  · simp at hl
  rcases l with _ | ⟨c10, l⟩
  · simp at hl
  rcases l with _ | ⟨c11, l⟩
  · simp at hl
  rcases l with _ | ⟨c12, l⟩
  · simp at hl
  rcases l with _ | ⟨c13, l⟩
  · simp at hl
  rcases l with _ | ⟨c14, l⟩
  · simp at hl
  rcases l with _ | ⟨c15, l⟩
  · simp at hl
  rcases l with _ | ⟨x, l⟩
  case cons => simp at hl
  obtain ⟨x0, rfl, k0⟩ := cell_int Tryz.underlying2 (hc 0 _ _ rfl rfl)
  obtain ⟨x1, rfl, k1⟩ := cell_int Tryz.underlying22 (hc 1 _ _ rfl rfl)
  obtain ⟨x2, rfl, k2⟩ := cell_int Tryz.underlying2 (hc 2 _ _ rfl rfl)
  obtain ⟨x3, rfl, k3⟩ := cell_int Tryz.underlying22 (hc 3 _ _ rfl rfl)
  obtain ⟨x4, rfl, k4⟩ := cell_int Tryz.underlying2 (hc 4 _ _ rfl rfl)
  obtain ⟨x5, rfl, k5⟩ := cell_int Tryz.underlying22 (hc 5 _ _ rfl rfl)
  obtain ⟨x6, rfl, k6⟩ := cell_int Tryz.underlying2 (hc 6 _ _ rfl rfl)
  obtain ⟨x7, rfl, k7⟩ := cell_int Tryz.underlying22 (hc 7 _ _ rfl rfl)
  obtain ⟨x8, rfl, k8⟩ := cell_int Tryz.underlying2 (hc 8 _ _ rfl rfl)
  obtain ⟨x9, rfl, k9⟩ := cell_int Tryz.underlying22 (hc 9 _ _ rfl rfl)
  obtain ⟨x10, rfl, k10⟩ := cell_int Tryz.underlying2 (hc 10 _ _ rfl rfl)
  obtain ⟨x11, rfl, k11⟩ := cell_int Tryz.underlying22 (hc 11 _ _ rfl rfl)
  obtain ⟨x12, rfl, k12⟩ := cell_int Tryz.underlying2 (hc 12 _ _ rfl rfl)
  obtain ⟨x13, rfl, k13⟩ := cell_int Tryz.underlying22 (hc 13 _ _ rfl rfl)
  obtain ⟨x14, rfl, k14⟩ := cell_int Tryz.underlying2 (hc 14 _ _ rfl rfl)
  obtain ⟨x15, rfl, k15⟩ := cell_int Tryz.underlying22 (hc 15 _ _ rfl rfl)
  simp [IntKind.has, IntKind.min, IntKind.max, IntKind.bits, IntKind.signed] at k0 k1 k2 k3 k4 k5 k6 k7 k8 k9 k10 k11 k12 k13 k14 k15
  exact ⟨x0, x1, x2, x3, x4, x5, x6, x7, x8, x9, x10, x11, x12, x13, x14, x15, rfl, by omega, by omega, by omega, by omega, by omega, by omega, by omega, by omega, by omega, by omega, by omega, by omega, by omega, by omega, by omega, by omega, by omega, by omega, by omega, by omega, by omega, by omega, by omega, by omega, by omega, by omega, by omega, by omega, by omega, by omega, by omega, by omega⟩
set_option maxRecDepth 100000 in
theorem pointsTurn_lifted (os : Os) (started : os.Started) (H : Type) (enc : TypeId × Value → H) :
    ReturnsInHanded {} Tryz.checked os 3 .any (Rows.pointsTurnSpec.pre6 enc Tryz.prog Tryz.f3 Rows.pointsTurnRow.domain false) (Rows.pointsTurnSpec.post enc Tryz.prog Tryz.f3 false true false false) := by
  refine returnsInHanded_of_change (C := Tryz.checked) Tryz.own started (by kernel_rfl) Tryz.func3
    (ChangeSpec.witness6 (enc := enc) (C := Tryz.checked) false ⟨#[], #[.agg #[.int .i64 0, .int .u32 0, .int .i64 0, .int .u32 0, .int .i64 0, .int .u32 0, .int .i64 0, .int .u32 0, .int .i64 0, .int .u32 0, .int .i64 0, .int .u32 0, .int .i64 0, .int .u32 0, .int .i64 0, .int .u32 0]], []⟩ 8 (by kernel_rfl) (by kernel_rfl) (by kernel_rfl) (by kernel_rfl)) ?_
  intro W base args ds gs before hval0 hW hcnd _
  have hval : ∀ (j : Nat) t v, Tryz.f3.params[j]? = some t → args[j]? = some v → Value.okWide Tryz.prog W .any base t v := hval0
  have hW' := hW
  obtain ⟨p, q, hA0, hV, rfl, hfz, hnd⟩ := hW
  have hA : DataW.TrodAll enc Tryz.prog W 0 (fun _ => true) true Tryz.f3.params.toList args.toList ds p := hA0
  rw [Tryz.params3] at hA hval
  obtain ⟨v0, d0, rfl, rfl, h0⟩ := trodAll_one hA
  obtain ⟨rfl, rfl⟩ := trodVars_none hV
  obtain ⟨x0, x1, x2, x3, x4, x5, x6, x7, x8, x9, x10, x11, x12, x13, x14, x15, rfl, lx0, gx0, lx1, gx1, lx2, gx2, lx3, gx3, lx4, gx4, lx5, gx5, lx6, gx6, lx7, gx7, lx8, gx8, lx9, gx9, lx10, gx10, lx11, gx11, lx12, gx12, lx13, gx13, lx14, gx14, lx15, gx15⟩ := open_x (hval 0 27 v0 rfl rfl)
  clear hA0 hval0
  simp only [List.append_nil] at hW'
  refine (turn_law x0 x1 x2 x3 x4 x5 x6 x7 x8 x9 x10 x11 x12 x13 x14 x15 W lx0 gx0 lx1 gx1 lx2 gx2 lx3 gx3 lx4 gx4 lx5 gx5 lx6 gx6 lx7 gx7 lx8 gx8 lx9 gx9 lx10 gx10 lx11 gx11 lx12 gx12 lx13 gx13 lx14 gx14 lx15 gx15).mono fun e W' ⟨he, hb⟩ => ?_
  subst he
  exact ⟨_, rfl, post_of_below (pv := []) hW' (fun _ _ _ => trodAll_mk1 (shut_bool Tryz.underlying4 true)) (fun sp hs => trodAll_mk1 (stays (by kernel_rfl) (by decide +kernel) h0 hb (fun x hx => hW'.lt x (by simpa using hx)) sp (fun x hx => hs x (by simpa using hx)))) (fun _ _ => rfl) (by simp) hb (ok_one (by kernel_rfl) rfl (okWide_bool_mk Tryz.underlying4 true))⟩
theorem pointsTurn_holds : Rows.PointsTurnSaid :=
  OpenClaim.holds_of_wide 3 Tryz.f3 rfl rfl rfl rfl rfl rfl rfl ⟨rfl, rfl, rfl, rfl, rfl⟩ rfl rfl rfl rfl rfl (by kernel_rfl) Tryz.func3 (by kernel_rfl)
    (of_decide_eq_true (by kernel_rfl)) (by unfold Func.isWrapper; first | (rw [if_pos (by decide +kernel)]; kernel_rfl) | (rw [if_neg (by decide +kernel)]; exact ⟨rfl, rfl⟩))
    (fun os started H enc _ => pointsTurn_lifted os started H enc)
end Go.Proofs.YtenpbnmmadbkdaaGreat
