/- PointsLaws: the law's walk. -/
import Derived.Test.YtenpbnmmadbkdaaRound0
import Derived.Test.YtenpbnmmadbkdaaOf3
namespace Go.Proofs.Ytenpbnmmadbkdaa
open Go.RowKit
set_option linter.unusedSimpArgs false
set_option linter.unusedVariables false
attribute [local go_sem ↓] Go.wp_at_zero Go.wp_at_succ
attribute [local go_sem ↓] eq_nat eq_nat_zero eq_int eq_frac eq_pt
theorem laws_sum (a1 a2 b1 b2 : Rat) : psum [a1 * a1 + a2 * a2, b1 * b1 + b2 * b2, a1 * b1 + a2 * b2, a1 * b1 + a2 * b2] 4 = (a1 + b1 - qn 0) * (a1 + b1 - qn 0) + (a2 + b2 - qn 0) * (a2 + b2 - qn 0) := by
  have h : qn 0 = 0 := rfl
  rw [h]
  simp only [psum, List.take, List.foldl]; grind
theorem laws_all (a1 a2 b1 b2 : Rat) : (a1 * a1 + a2 * a2) * (b1 * b1 + b2 * b2) = (a1 * b2 - a2 * b1) * (a1 * b2 - a2 * b1) + (a1 * b1 + a2 * b2) * (a1 * b1 + a2 * b2) := by grind
theorem laws_mid (a1 a2 b1 b2 : Rat) : (b1 - (a1 + b1) * half) * (b1 - (a1 + b1) * half) + (b2 - (a2 + b2) * half) * (b2 - (a2 + b2) * half) = (a1 - (a1 + b1) * half) * (a1 - (a1 + b1) * half) + (a2 - (a2 + b2) * half) * (a2 - (a2 + b2) * half) := by
  have h := half_two
  generalize half = z at *
  obtain rfl : z = 1 / 2 := by grind
  grind
theorem ways_any (a1 a2 b1 b2 : Rat) : (plt a1 a2 b1 b2 = true ∧ plt b1 b2 a1 a2 = false ∧ (decide (a1 = b1) && decide (a2 = b2)) = false) ∨ (plt a1 a2 b1 b2 = false ∧ plt b1 b2 a1 a2 = true ∧ (decide (a1 = b1) && decide (a2 = b2)) = false) ∨ (plt a1 a2 b1 b2 = false ∧ plt b1 b2 a1 a2 = false ∧ (decide (a1 = b1) && decide (a2 = b2)) = true) := by
  unfold plt
  by_cases h : a1 = b1
  · subst h
    by_cases h2 : a2 = b2
    · subst h2
      exact .inr (.inr ⟨by simp [Rat.lt_irrefl], by simp [Rat.lt_irrefl], by simp⟩)
    · by_cases h3 : a2 < b2
      · exact .inl ⟨by simp [h3], by simp; grind, by simp [h2]⟩
      · exact .inr (.inl ⟨by simp [h3], by simp; grind, by simp [h2]⟩)
  · by_cases h3 : a1 < b1
    · exact .inl ⟨by simp [h, h3], by rw [if_neg (fun e => h e.symm)]; simp; grind, by simp [h]⟩
    · exact .inr (.inl ⟨by simp [h, h3], by rw [if_neg (fun e => h e.symm)]; simp; grind, by simp [h]⟩)

set_option maxHeartbeats 8000000 in
theorem laws_walk (n0x d0x n0y d0y n1x d1x n1y d1y : Int) (a1 a2 b1 b2 : Rat) (w : World) (h1_0x : -9223372036854775808 ≤ n0x) (h2_0x : n0x ≤ 9223372036854775807) (h3_0x : 0 ≤ d0x) (h4_0x : d0x ≤ 4294967295) (h1_0y : -9223372036854775808 ≤ n0y) (h2_0y : n0y ≤ 9223372036854775807) (h3_0y : 0 ≤ d0y) (h4_0y : d0y ≤ 4294967295) (h1_1x : -9223372036854775808 ≤ n1x) (h2_1x : n1x ≤ 9223372036854775807) (h3_1x : 0 ≤ d1x) (h4_1x : d1x ≤ 4294967295) (h1_1y : -9223372036854775808 ≤ n1y) (h2_1y : n1y ≤ 9223372036854775807) (h3_1y : 0 ≤ d1y) (h4_1y : d1y ≤ 4294967295) (hz_a1 : Hid ((qv n0x d0x) = a1)) (hz_a2 : Hid ((qv n0y d0y) = a2)) (hz_b1 : Hid ((qv n1x d1x) = b1)) (hz_b2 : Hid ((qv n1y d1y) = b2)) (hs_a1 : sz a1 ≤ 4) (hs_a2 : sz a2 ≤ 4) (hs_b1 : sz b1 ≤ 4) (hs_b2 : sz b2 ≤ 4) (way : (plt a1 a2 b1 b2 = true ∧ plt b1 b2 a1 a2 = false ∧ (decide (a1 = b1) && decide (a2 = b2)) = false) ∨ (plt a1 a2 b1 b2 = false ∧ plt b1 b2 a1 a2 = true ∧ (decide (a1 = b1) && decide (a2 = b2)) = false) ∨ (plt a1 a2 b1 b2 = false ∧ plt b1 b2 a1 a2 = false ∧ (decide (a1 = b1) && decide (a2 = b2)) = true)) :
    Calls Try.prog 6 #[(Value.agg #[.int .i64 (n0x), .int .u32 (d0x), .int .i64 (n0y), .int .u32 (d0y)]), (Value.agg #[.int .i64 (n1x), .int .u32 (d1x), .int .i64 (n1y), .int .u32 (d1y)])] w fun e w' => e = .returned (.bool true) ∧ Below w.heap.size w w' := by
  replace way := Lib.hid way
  go_enter Try.func6, Try.ntmps6
  -- region 0
  refine wp_seq_k fun K hK => ?_
  replace hK := Lib.hid hK
  refine wp_region_lit ?_
  go_wp2
  refine hK.out _ _ ?_; clear hK K
  show Code.wp _ _ _ _ _
  refine forgetW (fun w2 => Bx w2 (w.heap.size) 26 #[.int .i64 (n0x), .int .u32 (d0x), .int .i64 (n0y), .int .u32 (d0y)] ∧ Bx w2 (w.heap.size + 1) 26 #[.int .i64 (n1x), .int .u32 (d1x), .int .i64 (n1y), .int .u32 (d1y)] ∧ Below w.heap.size w w2) ⟨(Bx.at rfl).alloc _, Bx.at (by simp), ((Below.refl _ _).alloc (Nat.le_refl _) _).alloc (by simp) _⟩ ?_
  rintro Wx ⟨bx0, bx1, HB⟩
  replace HB := Lib.hid HB
  -- region 1
  have HZ1 : Hid (qv (n0x) (d0x) = a1) := Lib.hid (hz_a1.out)
  have HZ2 : Hid (qv (n0y) (d0y) = a2) := Lib.hid (hz_a2.out)
  have lx0 := bx0.cells
  have BX0 := Lib.hid bx0
  have BX1 := Lib.hid bx1
  clear bx0 bx1
  refine wp_seq_k fun K hK => ?_
  replace hK := Lib.hid hK
  refine wp_region_seqplan 2 [(true, 0), (true, 1)] (by rfl) (by simp) (fun T hT => ?_)
  iterate 1
    refine wpPlan_takeL (v := ?_) rfl (by rfl) (fun w' hw => ?_) ?_
    rotate_left
    · go_simp
      with_reducible rfl
    simp only [Act.put, List.setIfInBounds_toArray, List.set_cons_zero, List.set_cons_succ]
  refine wpPlan_callL rfl (by rfl) Try.call7 (fun w' hw => pof_any (n0x) (d0x) (n0y) (d0y) (a1) (a2) _ HZ1.out HZ2.out (by first | omega | exact Nat.le_trans (wl_small (by decide)) (by decide)) (by first | omega | exact Nat.le_trans (wl_small (by decide)) (by decide)) (by first | omega | exact Nat.le_trans (wl_small (by decide)) (by decide)) (by first | omega | exact Nat.le_trans (wl_small (by decide)) (by decide)) (by first | omega | exact Nat.le_trans (wl_small (by decide)) (by decide)) (by first | omega | exact Nat.le_trans (wl_small (by decide)) (by decide)) (by first | omega | exact Nat.le_trans (wl_small (by decide)) (by decide)) (by first | omega | exact Nat.le_trans (wl_small (by decide)) (by decide))) (by rfl) ?_
  simp only [Act.put, List.setIfInBounds_toArray, List.set_cons_zero, List.set_cons_succ]
  refine wpPlan_nil (hT.out _ _ ?_); clear hT T
  intro vw1 hg
  simp only [puts, Act.put, List.setIfInBounds_toArray, List.set_cons_zero, List.set_cons_succ, List.drop_succ_cons, List.drop_zero, ↓reduceIte, Nat.reduceEqDiff]
  clear lx0
  have HG := Lib.hid (hg)
  clear hg
  have bx0 := BX0.out.gr HG.out; clear BX0
  have bx1 := BX1.out.gr HG.out; clear BX1
  have r0 := Gr.refl vw1
  have BX0 := Lib.hid bx0; clear bx0
  have BX1 := Lib.hid bx1; clear bx1
  go_wp2
  refine hK.out _ _ ?_; clear hK K
  show Code.wp _ _ _ _ _
  clear r0
  have hsz : w.heap.size ≤ vw1.heap.size := Nat.le_trans HB.out.size HG.out.size
  have mx0 : w.heap.size < vw1.heap.size := BX0.out.lt
  have mx1 : w.heap.size + 1 < vw1.heap.size := BX1.out.lt
  refine forgetW (fun w2 => Bx w2 (w.heap.size + 1) 26 #[.int .i64 (n1x), .int .u32 (d1x), .int .i64 (n1y), .int .u32 (d1y)] ∧ Bx w2 (vw1.heap.size) 38 #[.int .u64 ((lo (Int.natAbs ((a1).num)) : Nat) : Int), .string (bg (Int.natAbs ((a1).num))), .bool (decide (((a1).num) < 0)), .int .u64 ((lo ((a1).den - 1) : Nat) : Int), .string (bg ((a1).den - 1)), .int .u64 ((lo (Int.natAbs ((a2).num)) : Nat) : Int), .string (bg (Int.natAbs ((a2).num))), .bool (decide (((a2).num) < 0)), .int .u64 ((lo ((a2).den - 1) : Nat) : Int), .string (bg ((a2).den - 1))] ∧ Below w.heap.size w w2) ⟨(BX1.out).alloc _, (Bx.at (by simp) : Bx _ (vw1.heap.size) _ _), (HB.out.trans (HG.out.mono HB.out.size)).alloc (by first | omega | (simp; omega)) _⟩ ?_
  clear HB HG BX0 BX1
  rintro Wx1 ⟨bx1, bx2, HB⟩
  replace HB := Lib.hid HB
  have yx2 : w.heap.size ≤ vw1.heap.size := by omega
  have qx0_2 : w.heap.size < vw1.heap.size := by omega
  have qx1_2 : w.heap.size + 1 < vw1.heap.size := by omega
  generalize hx2 : vw1.heap.size = gx2 at *
  clear hx2
  clear hsz mx0 mx1
  -- region 2
  have HZ3 : Hid (qv (n1x) (d1x) = b1) := Lib.hid (hz_b1.out)
  have HZ4 : Hid (qv (n1y) (d1y) = b2) := Lib.hid (hz_b2.out)
  have lx1 := bx1.cells
  have BX1 := Lib.hid bx1
  have BX2 := Lib.hid bx2
  clear bx1 bx2
  refine wp_seq_k fun K hK => ?_
  replace hK := Lib.hid hK
  refine wp_region_seqplan 2 [(true, 0), (true, 1)] (by rfl) (by simp) (fun T hT => ?_)
  iterate 1
    refine wpPlan_takeL (v := ?_) rfl (by rfl) (fun w' hw => ?_) ?_
    rotate_left
    · go_simp
      with_reducible rfl
    simp only [Act.put, List.setIfInBounds_toArray, List.set_cons_zero, List.set_cons_succ]
  refine wpPlan_callL rfl (by rfl) Try.call7 (fun w' hw => pof_any (n1x) (d1x) (n1y) (d1y) (b1) (b2) _ HZ3.out HZ4.out (by first | omega | exact Nat.le_trans (wl_small (by decide)) (by decide)) (by first | omega | exact Nat.le_trans (wl_small (by decide)) (by decide)) (by first | omega | exact Nat.le_trans (wl_small (by decide)) (by decide)) (by first | omega | exact Nat.le_trans (wl_small (by decide)) (by decide)) (by first | omega | exact Nat.le_trans (wl_small (by decide)) (by decide)) (by first | omega | exact Nat.le_trans (wl_small (by decide)) (by decide)) (by first | omega | exact Nat.le_trans (wl_small (by decide)) (by decide)) (by first | omega | exact Nat.le_trans (wl_small (by decide)) (by decide))) (by rfl) ?_
  simp only [Act.put, List.setIfInBounds_toArray, List.set_cons_zero, List.set_cons_succ]
  refine wpPlan_nil (hT.out _ _ ?_); clear hT T
  intro vw2 hg
  simp only [puts, Act.put, List.setIfInBounds_toArray, List.set_cons_zero, List.set_cons_succ, List.drop_succ_cons, List.drop_zero, ↓reduceIte, Nat.reduceEqDiff]
  clear lx1
  have HG := Lib.hid (hg)
  clear hg
  have bx1 := BX1.out.gr HG.out; clear BX1
  have bx2 := BX2.out.gr HG.out; clear BX2
  have r0 := Gr.refl vw2
  have BX1 := Lib.hid bx1; clear bx1
  have BX2 := Lib.hid bx2; clear bx2
  go_wp2
  refine hK.out _ _ ?_; clear hK K
  show Code.wp _ _ _ _ _
  clear r0
  have hsz : w.heap.size ≤ vw2.heap.size := Nat.le_trans HB.out.size HG.out.size
  have mx1 : w.heap.size + 1 < vw2.heap.size := BX1.out.lt
  have mx2 : gx2 < vw2.heap.size := BX2.out.lt
  refine forgetW (fun w2 => Bx w2 gx2 38 #[.int .u64 ((lo (Int.natAbs ((a1).num)) : Nat) : Int), .string (bg (Int.natAbs ((a1).num))), .bool (decide (((a1).num) < 0)), .int .u64 ((lo ((a1).den - 1) : Nat) : Int), .string (bg ((a1).den - 1)), .int .u64 ((lo (Int.natAbs ((a2).num)) : Nat) : Int), .string (bg (Int.natAbs ((a2).num))), .bool (decide (((a2).num) < 0)), .int .u64 ((lo ((a2).den - 1) : Nat) : Int), .string (bg ((a2).den - 1))] ∧ Bx w2 (vw2.heap.size) 38 #[.int .u64 ((lo (Int.natAbs ((b1).num)) : Nat) : Int), .string (bg (Int.natAbs ((b1).num))), .bool (decide (((b1).num) < 0)), .int .u64 ((lo ((b1).den - 1) : Nat) : Int), .string (bg ((b1).den - 1)), .int .u64 ((lo (Int.natAbs ((b2).num)) : Nat) : Int), .string (bg (Int.natAbs ((b2).num))), .bool (decide (((b2).num) < 0)), .int .u64 ((lo ((b2).den - 1) : Nat) : Int), .string (bg ((b2).den - 1))] ∧ Below w.heap.size w w2) ⟨(BX2.out).alloc _, (Bx.at (by simp) : Bx _ (vw2.heap.size) _ _), (HB.out.trans (HG.out.mono HB.out.size)).alloc (by first | omega | (simp; omega)) _⟩ ?_
  clear HB HG BX1 BX2
  rintro Wx2 ⟨bx2, bx3, HB⟩
  replace HB := Lib.hid HB
  have yx3 : w.heap.size ≤ vw2.heap.size := by omega
  have qx1_3 : w.heap.size + 1 < vw2.heap.size := by omega
  have qx2_3 : gx2 < vw2.heap.size := by omega
  generalize hx3 : vw2.heap.size = gx3 at *
  clear hx3
  clear hsz mx1 mx2
  -- region 3
  have hqn_0 : sz (qn 0) ≤ 2 := sz_qn 0
  have BX2 := Lib.hid bx2
  have BX3 := Lib.hid bx3
  clear bx2 bx3
  refine wp_seq_k fun K hK => ?_
  replace hK := Lib.hid hK
  refine wp_region_seqplan 1 [(true, 0)] (by rfl) (by simp) (fun T hT => ?_)
  refine wpPlan_callL rfl (by rfl) Try.call23 (fun w' hw => ppint_any 0 0 (qn 0) (qn 0) _ rfl rfl (by decide) (by decide) (by decide) (by decide)) (by rfl) ?_
  simp only [Act.put, List.setIfInBounds_toArray, List.set_cons_zero, List.set_cons_succ]
  refine wpPlan_nil (hT.out _ _ ?_); clear hT T
  intro vw3 hg
  simp only [puts, Act.put, List.setIfInBounds_toArray, List.set_cons_zero, List.set_cons_succ, List.drop_succ_cons, List.drop_zero, ↓reduceIte, Nat.reduceEqDiff]
  have HG := Lib.hid (hg)
  clear hg
  have bx2 := BX2.out.gr HG.out; clear BX2
  have bx3 := BX3.out.gr HG.out; clear BX3
  have r0 := Gr.refl vw3
  have BX2 := Lib.hid bx2; clear bx2
  have BX3 := Lib.hid bx3; clear bx3
  go_wp2
  refine hK.out _ _ ?_; clear hK K
  show Code.wp _ _ _ _ _
  clear r0
  have hsz : w.heap.size ≤ vw3.heap.size := Nat.le_trans HB.out.size HG.out.size
  have mx2 : gx2 < vw3.heap.size := BX2.out.lt
  have mx3 : gx3 < vw3.heap.size := BX3.out.lt
  refine forgetW (fun w2 => Bx w2 gx2 38 #[.int .u64 ((lo (Int.natAbs ((a1).num)) : Nat) : Int), .string (bg (Int.natAbs ((a1).num))), .bool (decide (((a1).num) < 0)), .int .u64 ((lo ((a1).den - 1) : Nat) : Int), .string (bg ((a1).den - 1)), .int .u64 ((lo (Int.natAbs ((a2).num)) : Nat) : Int), .string (bg (Int.natAbs ((a2).num))), .bool (decide (((a2).num) < 0)), .int .u64 ((lo ((a2).den - 1) : Nat) : Int), .string (bg ((a2).den - 1))] ∧ Bx w2 gx3 38 #[.int .u64 ((lo (Int.natAbs ((b1).num)) : Nat) : Int), .string (bg (Int.natAbs ((b1).num))), .bool (decide (((b1).num) < 0)), .int .u64 ((lo ((b1).den - 1) : Nat) : Int), .string (bg ((b1).den - 1)), .int .u64 ((lo (Int.natAbs ((b2).num)) : Nat) : Int), .string (bg (Int.natAbs ((b2).num))), .bool (decide (((b2).num) < 0)), .int .u64 ((lo ((b2).den - 1) : Nat) : Int), .string (bg ((b2).den - 1))] ∧ Bx w2 (vw3.heap.size) 38 #[.int .u64 ((lo (Int.natAbs ((qn 0).num)) : Nat) : Int), .string (bg (Int.natAbs ((qn 0).num))), .bool (decide (((qn 0).num) < 0)), .int .u64 ((lo ((qn 0).den - 1) : Nat) : Int), .string (bg ((qn 0).den - 1)), .int .u64 ((lo (Int.natAbs ((qn 0).num)) : Nat) : Int), .string (bg (Int.natAbs ((qn 0).num))), .bool (decide (((qn 0).num) < 0)), .int .u64 ((lo ((qn 0).den - 1) : Nat) : Int), .string (bg ((qn 0).den - 1))] ∧ Below w.heap.size w w2) ⟨(BX2.out).alloc _, (BX3.out).alloc _, (Bx.at (by simp) : Bx _ (vw3.heap.size) _ _), (HB.out.trans (HG.out.mono HB.out.size)).alloc (by first | omega | (simp; omega)) _⟩ ?_
  clear HB HG BX2 BX3
  rintro Wx3 ⟨bx2, bx3, bx4, HB⟩
  replace HB := Lib.hid HB
  have yx4 : w.heap.size ≤ vw3.heap.size := by omega
  have qx2_4 : gx2 < vw3.heap.size := by omega
  have qx3_4 : gx3 < vw3.heap.size := by omega
  generalize hx4 : vw3.heap.size = gx4 at *
  clear hx4
  clear hsz mx2 mx3
  -- region 4
  obtain ⟨u5, HZ5⟩ : ∃ z, Hid ((a1) + (b1) = z) := ⟨_, Lib.hid rfl⟩
  have su5 : sz u5 ≤ 9 := by rw [← HZ5.out]; have := sz_add (a1) (b1); omega
  obtain ⟨u6, HZ6⟩ : ∃ z, Hid ((a2) + (b2) = z) := ⟨_, Lib.hid rfl⟩
  have su6 : sz u6 ≤ 9 := by rw [← HZ6.out]; have := sz_add (a2) (b2); omega
  obtain ⟨u7, HZ7⟩ : ∃ z, Hid (((u5) - (qn 0)) * ((u5) - (qn 0)) + ((u6) - (qn 0)) * ((u6) - (qn 0)) = z) := ⟨_, Lib.hid rfl⟩
  have su7 : sz u7 ≤ 49 := by rw [← HZ7.out]; have := sz_square (qn 0) (qn 0) (u5) (u6); omega
  have lx2 := bx2.cells
  have lx3 := bx3.cells
  have lx4 := bx4.cells
  have BX2 := Lib.hid bx2
  have BX3 := Lib.hid bx3
  have BX4 := Lib.hid bx4
  clear bx2 bx3 bx4
  refine wp_seq_k fun K hK => ?_
  replace hK := Lib.hid hK
  refine wp_region_plan 6 [5] [] (fun _ => 8) (fun _ => .cells #[.int .u64 0, .string ⟨#[]⟩, .bool false, .int .u64 0, .string ⟨#[]⟩] 36) [(true, 0), (true, 1), (true, 2), (true, 3), (true, 4)] (by kernel_rfl) (by kernel_rfl) (by intro i hi; simp only [List.mem_cons, List.not_mem_nil, or_false] at hi; rcases hi with rfl <;> exact ⟨_, rfl, rfl, rfl, by simp, fun ρ w => by kernel_rfl⟩) (fun i hi => by cases hi) (fun _ _ _ _ _ h => h) (fun T hT => ?_)
  iterate 3
    refine wpPlan_takeL (v := ?_) rfl (by rfl) (fun w' hw => ?_) ?_
    rotate_left
    · go_simp
      with_reducible rfl
    simp only [Act.put, List.setIfInBounds_toArray, List.set_cons_zero, List.set_cons_succ]
  refine wpPlan_callL rfl (by rfl) Try.call14 (fun w' hw => padd_any (a1) (a2) (b1) (b2) (u5) (u6) _ HZ5.out HZ6.out (by first | omega | exact Nat.le_trans (wl_small (by decide)) (by decide)) (by first | omega | exact Nat.le_trans (wl_small (by decide)) (by decide)) (by first | omega | exact Nat.le_trans (wl_small (by decide)) (by decide)) (by first | omega | exact Nat.le_trans (wl_small (by decide)) (by decide))) (by rfl) ?_
  simp only [Act.put, List.setIfInBounds_toArray, List.set_cons_zero, List.set_cons_succ]
  refine wpPlan_callL rfl (by rfl) Try.call24 (fun w' hw => psquare_any (qn 0) (qn 0) (u5) (u6) (u7) _ HZ7.out (by first | omega | exact Nat.le_trans (wl_small (by decide)) (by decide)) (by first | omega | exact Nat.le_trans (wl_small (by decide)) (by decide)) (by first | omega | exact Nat.le_trans (wl_small (by decide)) (by decide)) (by first | omega | exact Nat.le_trans (wl_small (by decide)) (by decide))) (by rfl) ?_
  simp only [Act.put, List.setIfInBounds_toArray, List.set_cons_zero, List.set_cons_succ]
  refine wpPlan_nil (hT.out _ _ ?_); clear hT T
  intro G vw4 hg hf
  simp only [puts, Act.put, List.setIfInBounds_toArray, List.set_cons_zero, List.set_cons_succ, List.drop_succ_cons, List.drop_zero, ↓reduceIte, Nat.reduceEqDiff]
  clear lx2 lx3 lx4
  have HG := Lib.hid (hg)
  clear hg
  have bx5 := Bx.of_fresh hf (i := 5) (by decide) rfl
  have yx5 := (hf.1 5 (by decide)).1
  clear hf
  generalize G 5 = gx5 at *
  have qx2_5 : gx2 < gx5 := Nat.lt_of_lt_of_le BX2.out.lt yx5
  have qx3_5 : gx3 < gx5 := Nat.lt_of_lt_of_le BX3.out.lt yx5
  have qx4_5 : gx4 < gx5 := Nat.lt_of_lt_of_le BX4.out.lt yx5
  replace yx5 : w.heap.size ≤ gx5 := Nat.le_trans HB.out.size yx5
  have bx2 := BX2.out.gr HG.out; clear BX2
  have bx3 := BX3.out.gr HG.out; clear BX3
  have bx4 := BX4.out.gr HG.out; clear BX4
  have lx5 := bx5.cells; have fx5 := bx5.free
  have r0 := Gr.refl vw4
  have BX2 := Lib.hid bx2; clear bx2
  have BX3 := Lib.hid bx3; clear bx3
  have BX4 := Lib.hid bx4; clear bx4
  have BX5 := Lib.hid bx5; clear bx5
  go_wp2
  refine hK.out _ _ ?_; clear hK K
  show Code.wp _ _ _ _ _
  clear lx5 fx5
  clear r0
  refine forgetW (fun w2 => Bx w2 gx2 38 #[.int .u64 ((lo (Int.natAbs ((a1).num)) : Nat) : Int), .string (bg (Int.natAbs ((a1).num))), .bool (decide (((a1).num) < 0)), .int .u64 ((lo ((a1).den - 1) : Nat) : Int), .string (bg ((a1).den - 1)), .int .u64 ((lo (Int.natAbs ((a2).num)) : Nat) : Int), .string (bg (Int.natAbs ((a2).num))), .bool (decide (((a2).num) < 0)), .int .u64 ((lo ((a2).den - 1) : Nat) : Int), .string (bg ((a2).den - 1))] ∧ Bx w2 gx3 38 #[.int .u64 ((lo (Int.natAbs ((b1).num)) : Nat) : Int), .string (bg (Int.natAbs ((b1).num))), .bool (decide (((b1).num) < 0)), .int .u64 ((lo ((b1).den - 1) : Nat) : Int), .string (bg ((b1).den - 1)), .int .u64 ((lo (Int.natAbs ((b2).num)) : Nat) : Int), .string (bg (Int.natAbs ((b2).num))), .bool (decide (((b2).num) < 0)), .int .u64 ((lo ((b2).den - 1) : Nat) : Int), .string (bg ((b2).den - 1))] ∧ Bx w2 gx5 36 #[.int .u64 ((lo (Int.natAbs ((u7).num)) : Nat) : Int), .string (bg (Int.natAbs ((u7).num))), .bool (decide (((u7).num) < 0)), .int .u64 ((lo ((u7).den - 1) : Nat) : Int), .string (bg ((u7).den - 1))] ∧ Below w.heap.size w w2) ⟨(((((BX2.out).setOther (by show gx2 ≠ gx5; omega) _).setOther (by show gx2 ≠ gx5; omega) _).setOther (by show gx2 ≠ gx5; omega) _).setOther (by show gx2 ≠ gx5; omega) _).setOther (by show gx2 ≠ gx5; omega) _, (((((BX3.out).setOther (by show gx3 ≠ gx5; omega) _).setOther (by show gx3 ≠ gx5; omega) _).setOther (by show gx3 ≠ gx5; omega) _).setOther (by show gx3 ≠ gx5; omega) _).setOther (by show gx3 ≠ gx5; omega) _, ((((((BX5.out).set 0 _).set 1 _).set 2 _).set 3 _).set 4 _).eq (by simp only [List.setIfInBounds_toArray, List.set_cons_zero, List.set_cons_succ]), (((((HB.out.trans (HG.out.mono HB.out.size)).setCell (by show w.heap.size ≤ gx5; omega) _).setCell (by show w.heap.size ≤ gx5; omega) _).setCell (by show w.heap.size ≤ gx5; omega) _).setCell (by show w.heap.size ≤ gx5; omega) _).setCell (by show w.heap.size ≤ gx5; omega) _⟩ ?_
  clear HB HG BX2 BX3 BX4 BX5
  rintro Wx4 ⟨bx2, bx3, bx5, HB⟩
  replace HB := Lib.hid HB
  -- region 5
  obtain ⟨u8, HZ8⟩ : ∃ z, Hid ((a1) * (a1) + (a2) * (a2) = z) := ⟨_, Lib.hid rfl⟩
  have su8 : sz u8 ≤ 17 := by rw [← HZ8.out]; have := sz_dot (a1) (a2) (a1) (a2); omega
  obtain ⟨u9, HZ9⟩ : ∃ z, Hid ((b1) * (b1) + (b2) * (b2) = z) := ⟨_, Lib.hid rfl⟩
  have su9 : sz u9 ≤ 17 := by rw [← HZ9.out]; have := sz_dot (b1) (b2) (b1) (b2); omega
  obtain ⟨u10, HZ10⟩ : ∃ z, Hid ((a1) * (b1) + (a2) * (b2) = z) := ⟨_, Lib.hid rfl⟩
  have su10 : sz u10 ≤ 17 := by rw [← HZ10.out]; have := sz_dot (a1) (a2) (b1) (b2); omega
  obtain ⟨u11, HZ11⟩ : ∃ z, Hid ((a1) * (b1) + (a2) * (b2) = z) := ⟨_, Lib.hid rfl⟩
  have su11 : sz u11 ≤ 17 := by rw [← HZ11.out]; have := sz_dot (a1) (a2) (b1) (b2); omega
  have HZ12 : Hid (psum [u8, u9, u10, u11] 4 = u7) := Lib.hid (by simp only [← HZ11.out, ← HZ10.out, ← HZ9.out, ← HZ8.out, ← HZ7.out, ← HZ6.out, ← HZ5.out]; exact laws_sum _ _ _ _)
  have lx2 := bx2.cells
  have lx3 := bx3.cells
  have BX2 := Lib.hid bx2
  have BX3 := Lib.hid bx3
  have BX5 := Lib.hid bx5
  clear bx2 bx3 bx5
  refine wp_seq_k fun K hK => ?_
  replace hK := Lib.hid hK
  have HS0 := Lib.hid (HB.out.size)
  have MX2 : gx2 < Wx4.heap.size := BX2.out.lt
  have MX3 : gx3 < Wx4.heap.size := BX3.out.lt
  have MX5 : gx5 < Wx4.heap.size := BX5.out.lt
  refine wp_region_early 15 [14] [] (fun _ => 9) (fun _ => .cells #[.int .u64 0, .string ⟨#[]⟩, .bool false, .int .u64 0, .string ⟨#[]⟩] 36) (fun i => (4, #[.int .u64 ((lo (Int.natAbs ((u8).num)) : Nat) : Int), .string (bg (Int.natAbs ((u8).num))), .bool (decide (((u8).num) < 0)), .int .u64 ((lo ((u8).den - 1) : Nat) : Int), .string (bg ((u8).den - 1)), .int .u64 ((lo (Int.natAbs ((u9).num)) : Nat) : Int), .string (bg (Int.natAbs ((u9).num))), .bool (decide (((u9).num) < 0)), .int .u64 ((lo ((u9).den - 1) : Nat) : Int), .string (bg ((u9).den - 1)), .int .u64 ((lo (Int.natAbs ((u10).num)) : Nat) : Int), .string (bg (Int.natAbs ((u10).num))), .bool (decide (((u10).num) < 0)), .int .u64 ((lo ((u10).den - 1) : Nat) : Int), .string (bg ((u10).den - 1)), .int .u64 ((lo (Int.natAbs ((u11).num)) : Nat) : Int), .string (bg (Int.natAbs ((u11).num))), .bool (decide (((u11).num) < 0)), .int .u64 ((lo ((u11).den - 1) : Nat) : Int), .string (bg ((u11).den - 1))], 36)) [(0, 0), (0, 1), (0, 3), (0, 4), (0, 6), (0, 7), (0, 9), (0, 10), (0, 2), (0, 5), (0, 8), (0, 11), (1, 12), (2, 12), (0, 13)] (by kernel_rfl) (by kernel_rfl) (by intro i hi; simp only [List.mem_cons, List.not_mem_nil, or_false] at hi; rcases hi with rfl <;> exact ⟨_, rfl, rfl, rfl, by simp, fun ρ w => by kernel_rfl⟩) (fun i hi => by cases hi) (fun _ _ _ _ _ h => h) (fun T hT => ?_)
  iterate 8
    refine wpEarly_takeL (v := ?_) rfl (by rfl) (fun w' hw => ?_) ?_
    rotate_left
    · go_simp
      with_reducible rfl
    simp only [Act.put, List.setIfInBounds_toArray, List.set_cons_zero, List.set_cons_succ]
  refine wpEarly_callL rfl (by rfl) Try.call26 (fun w' hw => pdot_any (a1) (a2) (a1) (a2) (u8) _ HZ8.out (by first | omega | exact Nat.le_trans (wl_small (by decide)) (by decide)) (by first | omega | exact Nat.le_trans (wl_small (by decide)) (by decide)) (by first | omega | exact Nat.le_trans (wl_small (by decide)) (by decide)) (by first | omega | exact Nat.le_trans (wl_small (by decide)) (by decide))) (by rfl) ?_
  simp only [Act.put, List.setIfInBounds_toArray, List.set_cons_zero, List.set_cons_succ]
  refine wpEarly_callL rfl (by rfl) Try.call26 (fun w' hw => pdot_any (b1) (b2) (b1) (b2) (u9) _ HZ9.out (by first | omega | exact Nat.le_trans (wl_small (by decide)) (by decide)) (by first | omega | exact Nat.le_trans (wl_small (by decide)) (by decide)) (by first | omega | exact Nat.le_trans (wl_small (by decide)) (by decide)) (by first | omega | exact Nat.le_trans (wl_small (by decide)) (by decide))) (by rfl) ?_
  simp only [Act.put, List.setIfInBounds_toArray, List.set_cons_zero, List.set_cons_succ]
  refine wpEarly_callL rfl (by rfl) Try.call26 (fun w' hw => pdot_any (a1) (a2) (b1) (b2) (u10) _ HZ10.out (by first | omega | exact Nat.le_trans (wl_small (by decide)) (by decide)) (by first | omega | exact Nat.le_trans (wl_small (by decide)) (by decide)) (by first | omega | exact Nat.le_trans (wl_small (by decide)) (by decide)) (by first | omega | exact Nat.le_trans (wl_small (by decide)) (by decide))) (by rfl) ?_
  simp only [Act.put, List.setIfInBounds_toArray, List.set_cons_zero, List.set_cons_succ]
  refine wpEarly_callL rfl (by rfl) Try.call26 (fun w' hw => pdot_any (a1) (a2) (b1) (b2) (u11) _ HZ11.out (by first | omega | exact Nat.le_trans (wl_small (by decide)) (by decide)) (by first | omega | exact Nat.le_trans (wl_small (by decide)) (by decide)) (by first | omega | exact Nat.le_trans (wl_small (by decide)) (by decide)) (by first | omega | exact Nat.le_trans (wl_small (by decide)) (by decide))) (by rfl) ?_
  simp only [Act.put, List.setIfInBounds_toArray, List.set_cons_zero, List.set_cons_succ]
  refine wpEarly_mk rfl (by rfl) (fun w' => ?_) ?_
  · go_simp
  refine wpEarly_use rfl (by rfl) (fun gx6 vv1 hg0 yx6 bx6 => ?_)
  have HG0 := Lib.hid hg0; clear hg0
  replace yx6 : w.heap.size ≤ gx6 := by first | exact Nat.le_trans HS0.out yx6 | exact Nat.le_trans HB.out.size yx6
  have BX6 := Lib.hid bx6; clear bx6
  have BX2_ := Lib.hid (BX2.out.gr HG0.out); clear BX2; have BX2 := BX2_; clear BX2_
  have BX3_ := Lib.hid (BX3.out.gr HG0.out); clear BX3; have BX3 := BX3_; clear BX3_
  have BX5_ := Lib.hid (BX5.out.gr HG0.out); clear BX5; have BX5 := BX5_; clear BX5_
  have HB_ := Lib.hid (HB.out.trans (HG0.out.mono HB.out.size)); clear HB; have HB := HB_; clear HB_
  clear HG0
  clear lx2; have lx2 := BX2.out.cells
  clear lx3; have lx3 := BX3.out.cells
  simp only [Act.put, List.setIfInBounds_toArray, List.set_cons_zero, List.set_cons_succ]
  refine wpEarly_callL rfl (by rfl) Try.call25 (fun w' hw => fsum_any [u8, u9, u10, u11] (gx6) 4 (u7) _ (BX6.out.gr hw) rfl (by decide) (by intro q hq; simp only [List.mem_cons, List.not_mem_nil, or_false] at hq; rcases hq with rfl | rfl | rfl | rfl <;> omega) HZ12.out) (by rfl) ?_
  simp only [Act.put, List.setIfInBounds_toArray, List.set_cons_zero, List.set_cons_succ]
  refine wpEarly_nil (hT.out _ _ ?_); clear hT T
  intro G vw5 hg hf
  simp only [puts, Act.put, List.setIfInBounds_toArray, List.set_cons_zero, List.set_cons_succ, List.drop_succ_cons, List.drop_zero, ↓reduceIte, Nat.reduceEqDiff]
  clear lx2 lx3
  clear BX6
  have HG := Lib.hid (hg)
  clear hg
  have bx7 := Bx.of_fresh hf (i := 14) (by decide) rfl
  have yx7 := (hf.1 14 (by decide)).1
  clear hf
  generalize G 14 = gx7 at *
  have qx2_7 : gx2 < gx7 := Nat.lt_of_lt_of_le MX2 yx7
  have qx3_7 : gx3 < gx7 := Nat.lt_of_lt_of_le MX3 yx7
  have qx5_7 : gx5 < gx7 := Nat.lt_of_lt_of_le MX5 yx7
  replace yx7 : w.heap.size ≤ gx7 := Nat.le_trans HS0.out yx7
  have bx2 := BX2.out.gr HG.out; clear BX2
  have bx3 := BX3.out.gr HG.out; clear BX3
  have bx5 := BX5.out.gr HG.out; clear BX5
  have lx7 := bx7.cells; have fx7 := bx7.free
  have r0 := Gr.refl vw5
  have BX2 := Lib.hid bx2; clear bx2
  have BX3 := Lib.hid bx3; clear bx3
  have BX5 := Lib.hid bx5; clear bx5
  have BX7 := Lib.hid bx7; clear bx7
  go_wp2
  refine hK.out _ _ ?_; clear hK K
  show Code.wp _ _ _ _ _
  clear lx7 fx7
  clear r0
  refine forgetW (fun w2 => Bx w2 gx2 38 #[.int .u64 ((lo (Int.natAbs ((a1).num)) : Nat) : Int), .string (bg (Int.natAbs ((a1).num))), .bool (decide (((a1).num) < 0)), .int .u64 ((lo ((a1).den - 1) : Nat) : Int), .string (bg ((a1).den - 1)), .int .u64 ((lo (Int.natAbs ((a2).num)) : Nat) : Int), .string (bg (Int.natAbs ((a2).num))), .bool (decide (((a2).num) < 0)), .int .u64 ((lo ((a2).den - 1) : Nat) : Int), .string (bg ((a2).den - 1))] ∧ Bx w2 gx3 38 #[.int .u64 ((lo (Int.natAbs ((b1).num)) : Nat) : Int), .string (bg (Int.natAbs ((b1).num))), .bool (decide (((b1).num) < 0)), .int .u64 ((lo ((b1).den - 1) : Nat) : Int), .string (bg ((b1).den - 1)), .int .u64 ((lo (Int.natAbs ((b2).num)) : Nat) : Int), .string (bg (Int.natAbs ((b2).num))), .bool (decide (((b2).num) < 0)), .int .u64 ((lo ((b2).den - 1) : Nat) : Int), .string (bg ((b2).den - 1))] ∧ Bx w2 gx5 36 #[.int .u64 ((lo (Int.natAbs ((u7).num)) : Nat) : Int), .string (bg (Int.natAbs ((u7).num))), .bool (decide (((u7).num) < 0)), .int .u64 ((lo ((u7).den - 1) : Nat) : Int), .string (bg ((u7).den - 1))] ∧ Bx w2 gx7 36 #[.int .u64 ((lo (Int.natAbs ((u7).num)) : Nat) : Int), .string (bg (Int.natAbs ((u7).num))), .bool (decide (((u7).num) < 0)), .int .u64 ((lo ((u7).den - 1) : Nat) : Int), .string (bg ((u7).den - 1))] ∧ Below w.heap.size w w2) ⟨(((((BX2.out).setOther (by show gx2 ≠ gx7; omega) _).setOther (by show gx2 ≠ gx7; omega) _).setOther (by show gx2 ≠ gx7; omega) _).setOther (by show gx2 ≠ gx7; omega) _).setOther (by show gx2 ≠ gx7; omega) _, (((((BX3.out).setOther (by show gx3 ≠ gx7; omega) _).setOther (by show gx3 ≠ gx7; omega) _).setOther (by show gx3 ≠ gx7; omega) _).setOther (by show gx3 ≠ gx7; omega) _).setOther (by show gx3 ≠ gx7; omega) _, (((((BX5.out).setOther (by show gx5 ≠ gx7; omega) _).setOther (by show gx5 ≠ gx7; omega) _).setOther (by show gx5 ≠ gx7; omega) _).setOther (by show gx5 ≠ gx7; omega) _).setOther (by show gx5 ≠ gx7; omega) _, ((((((BX7.out).set 0 _).set 1 _).set 2 _).set 3 _).set 4 _).eq (by simp only [List.setIfInBounds_toArray, List.set_cons_zero, List.set_cons_succ]), (((((HB.out.trans (HG.out.mono HB.out.size)).setCell (by show w.heap.size ≤ gx7; omega) _).setCell (by show w.heap.size ≤ gx7; omega) _).setCell (by show w.heap.size ≤ gx7; omega) _).setCell (by show w.heap.size ≤ gx7; omega) _).setCell (by show w.heap.size ≤ gx7; omega) _⟩ ?_
  clear HB HG BX2 BX3 BX5 BX7
  rintro Wx5 ⟨bx2, bx3, bx5, bx7, HB⟩
  replace HB := Lib.hid HB
  -- region 6
  obtain ⟨u13, HZ13⟩ : ∃ z, Hid ((a1) * (b2) - (a2) * (b1) = z) := ⟨_, Lib.hid rfl⟩
  have su13 : sz u13 ≤ 17 := by rw [← HZ13.out]; have := sz_cross (a1) (a2) (b1) (b2); omega
  have lx2 := bx2.cells
  have lx3 := bx3.cells
  have BX2 := Lib.hid bx2
  have BX3 := Lib.hid bx3
  have BX5 := Lib.hid bx5
  have BX7 := Lib.hid bx7
  clear bx2 bx3 bx5 bx7
  refine wp_seq_k fun K hK => ?_
  replace hK := Lib.hid hK
  refine wp_region_seqplan 3 [(true, 0), (true, 1), (true, 2)] (by rfl) (by simp) (fun T hT => ?_)
  iterate 2
    refine wpPlan_takeL (v := ?_) rfl (by rfl) (fun w' hw => ?_) ?_
    rotate_left
    · go_simp
      with_reducible rfl
    simp only [Act.put, List.setIfInBounds_toArray, List.set_cons_zero, List.set_cons_succ]
  refine wpPlan_callL rfl (by rfl) Try.call11 (fun w' hw => pcross_any (a1) (a2) (b1) (b2) (u13) _ HZ13.out (by first | omega | exact Nat.le_trans (wl_small (by decide)) (by decide)) (by first | omega | exact Nat.le_trans (wl_small (by decide)) (by decide)) (by first | omega | exact Nat.le_trans (wl_small (by decide)) (by decide)) (by first | omega | exact Nat.le_trans (wl_small (by decide)) (by decide))) (by rfl) ?_
  simp only [Act.put, List.setIfInBounds_toArray, List.set_cons_zero, List.set_cons_succ]
  refine wpPlan_nil (hT.out _ _ ?_); clear hT T
  intro vw6 hg
  simp only [puts, Act.put, List.setIfInBounds_toArray, List.set_cons_zero, List.set_cons_succ, List.drop_succ_cons, List.drop_zero, ↓reduceIte, Nat.reduceEqDiff]
  clear lx2 lx3
  have HG := Lib.hid (hg)
  clear hg
  have bx2 := BX2.out.gr HG.out; clear BX2
  have bx3 := BX3.out.gr HG.out; clear BX3
  have bx5 := BX5.out.gr HG.out; clear BX5
  have bx7 := BX7.out.gr HG.out; clear BX7
  have r0 := Gr.refl vw6
  have BX2 := Lib.hid bx2; clear bx2
  have BX3 := Lib.hid bx3; clear bx3
  have BX5 := Lib.hid bx5; clear bx5
  have BX7 := Lib.hid bx7; clear bx7
  go_wp2
  refine hK.out _ _ ?_; clear hK K
  show Code.wp _ _ _ _ _
  clear r0
  have hsz : w.heap.size ≤ vw6.heap.size := Nat.le_trans HB.out.size HG.out.size
  have mx2 : gx2 < vw6.heap.size := BX2.out.lt
  have mx3 : gx3 < vw6.heap.size := BX3.out.lt
  have mx5 : gx5 < vw6.heap.size := BX5.out.lt
  have mx7 : gx7 < vw6.heap.size := BX7.out.lt
  refine forgetW (fun w2 => Bx w2 gx2 38 #[.int .u64 ((lo (Int.natAbs ((a1).num)) : Nat) : Int), .string (bg (Int.natAbs ((a1).num))), .bool (decide (((a1).num) < 0)), .int .u64 ((lo ((a1).den - 1) : Nat) : Int), .string (bg ((a1).den - 1)), .int .u64 ((lo (Int.natAbs ((a2).num)) : Nat) : Int), .string (bg (Int.natAbs ((a2).num))), .bool (decide (((a2).num) < 0)), .int .u64 ((lo ((a2).den - 1) : Nat) : Int), .string (bg ((a2).den - 1))] ∧ Bx w2 gx3 38 #[.int .u64 ((lo (Int.natAbs ((b1).num)) : Nat) : Int), .string (bg (Int.natAbs ((b1).num))), .bool (decide (((b1).num) < 0)), .int .u64 ((lo ((b1).den - 1) : Nat) : Int), .string (bg ((b1).den - 1)), .int .u64 ((lo (Int.natAbs ((b2).num)) : Nat) : Int), .string (bg (Int.natAbs ((b2).num))), .bool (decide (((b2).num) < 0)), .int .u64 ((lo ((b2).den - 1) : Nat) : Int), .string (bg ((b2).den - 1))] ∧ Bx w2 gx5 36 #[.int .u64 ((lo (Int.natAbs ((u7).num)) : Nat) : Int), .string (bg (Int.natAbs ((u7).num))), .bool (decide (((u7).num) < 0)), .int .u64 ((lo ((u7).den - 1) : Nat) : Int), .string (bg ((u7).den - 1))] ∧ Bx w2 gx7 36 #[.int .u64 ((lo (Int.natAbs ((u7).num)) : Nat) : Int), .string (bg (Int.natAbs ((u7).num))), .bool (decide (((u7).num) < 0)), .int .u64 ((lo ((u7).den - 1) : Nat) : Int), .string (bg ((u7).den - 1))] ∧ Bx w2 (vw6.heap.size) 36 #[.int .u64 ((lo (Int.natAbs ((u13).num)) : Nat) : Int), .string (bg (Int.natAbs ((u13).num))), .bool (decide (((u13).num) < 0)), .int .u64 ((lo ((u13).den - 1) : Nat) : Int), .string (bg ((u13).den - 1))] ∧ Below w.heap.size w w2) ⟨(BX2.out).alloc _, (BX3.out).alloc _, (BX5.out).alloc _, (BX7.out).alloc _, (Bx.at (by simp) : Bx _ (vw6.heap.size) _ _), (HB.out.trans (HG.out.mono HB.out.size)).alloc (by first | omega | (simp; omega)) _⟩ ?_
  clear HB HG BX2 BX3 BX5 BX7
  rintro Wx6 ⟨bx2, bx3, bx5, bx7, bx8, HB⟩
  replace HB := Lib.hid HB
  have yx8 : w.heap.size ≤ vw6.heap.size := by omega
  have qx2_8 : gx2 < vw6.heap.size := by omega
  have qx3_8 : gx3 < vw6.heap.size := by omega
  have qx5_8 : gx5 < vw6.heap.size := by omega
  have qx7_8 : gx7 < vw6.heap.size := by omega
  generalize hx8 : vw6.heap.size = gx8 at *
  clear hx8
  clear hsz mx2 mx3 mx5 mx7
  -- region 7
  obtain ⟨u14, HZ14⟩ : ∃ z, Hid ((a1) * (b1) + (a2) * (b2) = z) := ⟨_, Lib.hid rfl⟩
  have su14 : sz u14 ≤ 17 := by rw [← HZ14.out]; have := sz_dot (a1) (a2) (b1) (b2); omega
  have lx2 := bx2.cells
  have lx3 := bx3.cells
  have BX2 := Lib.hid bx2
  have BX3 := Lib.hid bx3
  have BX5 := Lib.hid bx5
  have BX7 := Lib.hid bx7
  have BX8 := Lib.hid bx8
  clear bx2 bx3 bx5 bx7 bx8
  refine wp_seq_k fun K hK => ?_
  replace hK := Lib.hid hK
  refine wp_region_seqplan 3 [(true, 0), (true, 1), (true, 2)] (by rfl) (by simp) (fun T hT => ?_)
  iterate 2
    refine wpPlan_takeL (v := ?_) rfl (by rfl) (fun w' hw => ?_) ?_
    rotate_left
    · go_simp
      with_reducible rfl
    simp only [Act.put, List.setIfInBounds_toArray, List.set_cons_zero, List.set_cons_succ]
  refine wpPlan_callL rfl (by rfl) Try.call26 (fun w' hw => pdot_any (a1) (a2) (b1) (b2) (u14) _ HZ14.out (by first | omega | exact Nat.le_trans (wl_small (by decide)) (by decide)) (by first | omega | exact Nat.le_trans (wl_small (by decide)) (by decide)) (by first | omega | exact Nat.le_trans (wl_small (by decide)) (by decide)) (by first | omega | exact Nat.le_trans (wl_small (by decide)) (by decide))) (by rfl) ?_
  simp only [Act.put, List.setIfInBounds_toArray, List.set_cons_zero, List.set_cons_succ]
  refine wpPlan_nil (hT.out _ _ ?_); clear hT T
  intro vw7 hg
  simp only [puts, Act.put, List.setIfInBounds_toArray, List.set_cons_zero, List.set_cons_succ, List.drop_succ_cons, List.drop_zero, ↓reduceIte, Nat.reduceEqDiff]
  clear lx2 lx3
  have HG := Lib.hid (hg)
  clear hg
  have bx2 := BX2.out.gr HG.out; clear BX2
  have bx3 := BX3.out.gr HG.out; clear BX3
  have bx5 := BX5.out.gr HG.out; clear BX5
  have bx7 := BX7.out.gr HG.out; clear BX7
  have bx8 := BX8.out.gr HG.out; clear BX8
  have r0 := Gr.refl vw7
  have BX2 := Lib.hid bx2; clear bx2
  have BX3 := Lib.hid bx3; clear bx3
  have BX5 := Lib.hid bx5; clear bx5
  have BX7 := Lib.hid bx7; clear bx7
  have BX8 := Lib.hid bx8; clear bx8
  go_wp2
  refine hK.out _ _ ?_; clear hK K
  show Code.wp _ _ _ _ _
  clear r0
  have hsz : w.heap.size ≤ vw7.heap.size := Nat.le_trans HB.out.size HG.out.size
  have mx2 : gx2 < vw7.heap.size := BX2.out.lt
  have mx3 : gx3 < vw7.heap.size := BX3.out.lt
  have mx5 : gx5 < vw7.heap.size := BX5.out.lt
  have mx7 : gx7 < vw7.heap.size := BX7.out.lt
  have mx8 : gx8 < vw7.heap.size := BX8.out.lt
  refine forgetW (fun w2 => Bx w2 gx2 38 #[.int .u64 ((lo (Int.natAbs ((a1).num)) : Nat) : Int), .string (bg (Int.natAbs ((a1).num))), .bool (decide (((a1).num) < 0)), .int .u64 ((lo ((a1).den - 1) : Nat) : Int), .string (bg ((a1).den - 1)), .int .u64 ((lo (Int.natAbs ((a2).num)) : Nat) : Int), .string (bg (Int.natAbs ((a2).num))), .bool (decide (((a2).num) < 0)), .int .u64 ((lo ((a2).den - 1) : Nat) : Int), .string (bg ((a2).den - 1))] ∧ Bx w2 gx3 38 #[.int .u64 ((lo (Int.natAbs ((b1).num)) : Nat) : Int), .string (bg (Int.natAbs ((b1).num))), .bool (decide (((b1).num) < 0)), .int .u64 ((lo ((b1).den - 1) : Nat) : Int), .string (bg ((b1).den - 1)), .int .u64 ((lo (Int.natAbs ((b2).num)) : Nat) : Int), .string (bg (Int.natAbs ((b2).num))), .bool (decide (((b2).num) < 0)), .int .u64 ((lo ((b2).den - 1) : Nat) : Int), .string (bg ((b2).den - 1))] ∧ Bx w2 gx5 36 #[.int .u64 ((lo (Int.natAbs ((u7).num)) : Nat) : Int), .string (bg (Int.natAbs ((u7).num))), .bool (decide (((u7).num) < 0)), .int .u64 ((lo ((u7).den - 1) : Nat) : Int), .string (bg ((u7).den - 1))] ∧ Bx w2 gx7 36 #[.int .u64 ((lo (Int.natAbs ((u7).num)) : Nat) : Int), .string (bg (Int.natAbs ((u7).num))), .bool (decide (((u7).num) < 0)), .int .u64 ((lo ((u7).den - 1) : Nat) : Int), .string (bg ((u7).den - 1))] ∧ Bx w2 gx8 36 #[.int .u64 ((lo (Int.natAbs ((u13).num)) : Nat) : Int), .string (bg (Int.natAbs ((u13).num))), .bool (decide (((u13).num) < 0)), .int .u64 ((lo ((u13).den - 1) : Nat) : Int), .string (bg ((u13).den - 1))] ∧ Bx w2 (vw7.heap.size) 36 #[.int .u64 ((lo (Int.natAbs ((u14).num)) : Nat) : Int), .string (bg (Int.natAbs ((u14).num))), .bool (decide (((u14).num) < 0)), .int .u64 ((lo ((u14).den - 1) : Nat) : Int), .string (bg ((u14).den - 1))] ∧ Below w.heap.size w w2) ⟨(BX2.out).alloc _, (BX3.out).alloc _, (BX5.out).alloc _, (BX7.out).alloc _, (BX8.out).alloc _, (Bx.at (by simp) : Bx _ (vw7.heap.size) _ _), (HB.out.trans (HG.out.mono HB.out.size)).alloc (by first | omega | (simp; omega)) _⟩ ?_
  clear HB HG BX2 BX3 BX5 BX7 BX8
  rintro Wx7 ⟨bx2, bx3, bx5, bx7, bx8, bx9, HB⟩
  replace HB := Lib.hid HB
  have yx9 : w.heap.size ≤ vw7.heap.size := by omega
  have qx2_9 : gx2 < vw7.heap.size := by omega
  have qx3_9 : gx3 < vw7.heap.size := by omega
  have qx5_9 : gx5 < vw7.heap.size := by omega
  have qx7_9 : gx7 < vw7.heap.size := by omega
  have qx8_9 : gx8 < vw7.heap.size := by omega
  generalize hx9 : vw7.heap.size = gx9 at *
  clear hx9
  clear hsz mx2 mx3 mx5 mx7 mx8
  -- region 8
  obtain ⟨u15, HZ15⟩ : ∃ z, Hid ((u13) * (u13) = z) := ⟨_, Lib.hid rfl⟩
  have su15 : sz u15 ≤ 34 := by rw [← HZ15.out]; have := sz_mul (u13) (u13); omega
  obtain ⟨u16, HZ16⟩ : ∃ z, Hid ((u14) * (u14) = z) := ⟨_, Lib.hid rfl⟩
  have su16 : sz u16 ≤ 34 := by rw [← HZ16.out]; have := sz_mul (u14) (u14); omega
  obtain ⟨u17, HZ17⟩ : ∃ z, Hid ((u15) + (u16) = z) := ⟨_, Lib.hid rfl⟩
  have su17 : sz u17 ≤ 69 := by rw [← HZ17.out]; have := sz_add (u15) (u16); omega
  have lx8 := bx8.cells
  have lx9 := bx9.cells
  have BX2 := Lib.hid bx2
  have BX3 := Lib.hid bx3
  have BX5 := Lib.hid bx5
  have BX7 := Lib.hid bx7
  have BX8 := Lib.hid bx8
  have BX9 := Lib.hid bx9
  clear bx2 bx3 bx5 bx7 bx8 bx9
  refine wp_seq_k fun K hK => ?_
  replace hK := Lib.hid hK
  refine wp_region_plan 8 [7] [] (fun _ => 12) (fun _ => .cells #[.int .u64 0, .string ⟨#[]⟩, .bool false, .int .u64 0, .string ⟨#[]⟩] 36) [(true, 0), (true, 1), (true, 3), (true, 4), (true, 2), (true, 5), (true, 6)] (by kernel_rfl) (by kernel_rfl) (by intro i hi; simp only [List.mem_cons, List.not_mem_nil, or_false] at hi; rcases hi with rfl <;> exact ⟨_, rfl, rfl, rfl, by simp, fun ρ w => by kernel_rfl⟩) (fun i hi => by cases hi) (fun _ _ _ _ _ h => h) (fun T hT => ?_)
  iterate 4
    refine wpPlan_takeL (v := ?_) rfl (by rfl) (fun w' hw => ?_) ?_
    rotate_left
    · go_simp
      with_reducible rfl
    simp only [Act.put, List.setIfInBounds_toArray, List.set_cons_zero, List.set_cons_succ]
  refine wpPlan_callL rfl (by rfl) Try.call10 (fun w' hw => fmul_any (u13) (u13) (u15) _ HZ15.out (by first | omega | exact Nat.le_trans (wl_small (by decide)) (by decide)) (by first | omega | exact Nat.le_trans (wl_small (by decide)) (by decide))) (by rfl) ?_
  simp only [Act.put, List.setIfInBounds_toArray, List.set_cons_zero, List.set_cons_succ]
  refine wpPlan_callL rfl (by rfl) Try.call10 (fun w' hw => fmul_any (u14) (u14) (u16) _ HZ16.out (by first | omega | exact Nat.le_trans (wl_small (by decide)) (by decide)) (by first | omega | exact Nat.le_trans (wl_small (by decide)) (by decide))) (by rfl) ?_
  simp only [Act.put, List.setIfInBounds_toArray, List.set_cons_zero, List.set_cons_succ]
  refine wpPlan_callL rfl (by rfl) Try.call12 (fun w' hw => fadd_any (u15) (u16) (u17) _ HZ17.out (by first | omega | exact Nat.le_trans (wl_small (by decide)) (by decide)) (by first | omega | exact Nat.le_trans (wl_small (by decide)) (by decide))) (by rfl) ?_
  simp only [Act.put, List.setIfInBounds_toArray, List.set_cons_zero, List.set_cons_succ]
  refine wpPlan_nil (hT.out _ _ ?_); clear hT T
  intro G vw8 hg hf
  simp only [puts, Act.put, List.setIfInBounds_toArray, List.set_cons_zero, List.set_cons_succ, List.drop_succ_cons, List.drop_zero, ↓reduceIte, Nat.reduceEqDiff]
  clear lx8 lx9
  have HG := Lib.hid (hg)
  clear hg
  have bx10 := Bx.of_fresh hf (i := 7) (by decide) rfl
  have yx10 := (hf.1 7 (by decide)).1
  clear hf
  generalize G 7 = gx10 at *
  have qx2_10 : gx2 < gx10 := Nat.lt_of_lt_of_le BX2.out.lt yx10
  have qx3_10 : gx3 < gx10 := Nat.lt_of_lt_of_le BX3.out.lt yx10
  have qx5_10 : gx5 < gx10 := Nat.lt_of_lt_of_le BX5.out.lt yx10
  have qx7_10 : gx7 < gx10 := Nat.lt_of_lt_of_le BX7.out.lt yx10
  have qx8_10 : gx8 < gx10 := Nat.lt_of_lt_of_le BX8.out.lt yx10
  have qx9_10 : gx9 < gx10 := Nat.lt_of_lt_of_le BX9.out.lt yx10
  replace yx10 : w.heap.size ≤ gx10 := Nat.le_trans HB.out.size yx10
  have bx2 := BX2.out.gr HG.out; clear BX2
  have bx3 := BX3.out.gr HG.out; clear BX3
  have bx5 := BX5.out.gr HG.out; clear BX5
  have bx7 := BX7.out.gr HG.out; clear BX7
  have bx8 := BX8.out.gr HG.out; clear BX8
  have bx9 := BX9.out.gr HG.out; clear BX9
  have lx10 := bx10.cells; have fx10 := bx10.free
  have r0 := Gr.refl vw8
  have BX2 := Lib.hid bx2; clear bx2
  have BX3 := Lib.hid bx3; clear bx3
  have BX5 := Lib.hid bx5; clear bx5
  have BX7 := Lib.hid bx7; clear bx7
  have BX8 := Lib.hid bx8; clear bx8
  have BX9 := Lib.hid bx9; clear bx9
  have BX10 := Lib.hid bx10; clear bx10
  go_wp2
  refine hK.out _ _ ?_; clear hK K
  show Code.wp _ _ _ _ _
  clear lx10 fx10
  clear r0
  refine forgetW (fun w2 => Bx w2 gx2 38 #[.int .u64 ((lo (Int.natAbs ((a1).num)) : Nat) : Int), .string (bg (Int.natAbs ((a1).num))), .bool (decide (((a1).num) < 0)), .int .u64 ((lo ((a1).den - 1) : Nat) : Int), .string (bg ((a1).den - 1)), .int .u64 ((lo (Int.natAbs ((a2).num)) : Nat) : Int), .string (bg (Int.natAbs ((a2).num))), .bool (decide (((a2).num) < 0)), .int .u64 ((lo ((a2).den - 1) : Nat) : Int), .string (bg ((a2).den - 1))] ∧ Bx w2 gx3 38 #[.int .u64 ((lo (Int.natAbs ((b1).num)) : Nat) : Int), .string (bg (Int.natAbs ((b1).num))), .bool (decide (((b1).num) < 0)), .int .u64 ((lo ((b1).den - 1) : Nat) : Int), .string (bg ((b1).den - 1)), .int .u64 ((lo (Int.natAbs ((b2).num)) : Nat) : Int), .string (bg (Int.natAbs ((b2).num))), .bool (decide (((b2).num) < 0)), .int .u64 ((lo ((b2).den - 1) : Nat) : Int), .string (bg ((b2).den - 1))] ∧ Bx w2 gx5 36 #[.int .u64 ((lo (Int.natAbs ((u7).num)) : Nat) : Int), .string (bg (Int.natAbs ((u7).num))), .bool (decide (((u7).num) < 0)), .int .u64 ((lo ((u7).den - 1) : Nat) : Int), .string (bg ((u7).den - 1))] ∧ Bx w2 gx7 36 #[.int .u64 ((lo (Int.natAbs ((u7).num)) : Nat) : Int), .string (bg (Int.natAbs ((u7).num))), .bool (decide (((u7).num) < 0)), .int .u64 ((lo ((u7).den - 1) : Nat) : Int), .string (bg ((u7).den - 1))] ∧ Bx w2 gx10 36 #[.int .u64 ((lo (Int.natAbs ((u17).num)) : Nat) : Int), .string (bg (Int.natAbs ((u17).num))), .bool (decide (((u17).num) < 0)), .int .u64 ((lo ((u17).den - 1) : Nat) : Int), .string (bg ((u17).den - 1))] ∧ Below w.heap.size w w2) ⟨(((((BX2.out).setOther (by show gx2 ≠ gx10; omega) _).setOther (by show gx2 ≠ gx10; omega) _).setOther (by show gx2 ≠ gx10; omega) _).setOther (by show gx2 ≠ gx10; omega) _).setOther (by show gx2 ≠ gx10; omega) _, (((((BX3.out).setOther (by show gx3 ≠ gx10; omega) _).setOther (by show gx3 ≠ gx10; omega) _).setOther (by show gx3 ≠ gx10; omega) _).setOther (by show gx3 ≠ gx10; omega) _).setOther (by show gx3 ≠ gx10; omega) _, (((((BX5.out).setOther (by show gx5 ≠ gx10; omega) _).setOther (by show gx5 ≠ gx10; omega) _).setOther (by show gx5 ≠ gx10; omega) _).setOther (by show gx5 ≠ gx10; omega) _).setOther (by show gx5 ≠ gx10; omega) _, (((((BX7.out).setOther (by show gx7 ≠ gx10; omega) _).setOther (by show gx7 ≠ gx10; omega) _).setOther (by show gx7 ≠ gx10; omega) _).setOther (by show gx7 ≠ gx10; omega) _).setOther (by show gx7 ≠ gx10; omega) _, ((((((BX10.out).set 0 _).set 1 _).set 2 _).set 3 _).set 4 _).eq (by simp only [List.setIfInBounds_toArray, List.set_cons_zero, List.set_cons_succ]), (((((HB.out.trans (HG.out.mono HB.out.size)).setCell (by show w.heap.size ≤ gx10; omega) _).setCell (by show w.heap.size ≤ gx10; omega) _).setCell (by show w.heap.size ≤ gx10; omega) _).setCell (by show w.heap.size ≤ gx10; omega) _).setCell (by show w.heap.size ≤ gx10; omega) _⟩ ?_
  clear HB HG BX2 BX3 BX5 BX7 BX8 BX9 BX10
  rintro Wx8 ⟨bx2, bx3, bx5, bx7, bx10, HB⟩
  replace HB := Lib.hid HB
  -- region 9
  obtain ⟨u18, HZ18⟩ : ∃ z, Hid (((a1) + (b1)) * half = z) := ⟨_, Lib.hid rfl⟩
  have su18 : sz u18 ≤ 13 := by rw [← HZ18.out]; have h1 := sz_add (a1) (b1); have h2 := sz_mul ((a1) + (b1)) half; have h3 := sz_half; omega
  obtain ⟨u19, HZ19⟩ : ∃ z, Hid (((a2) + (b2)) * half = z) := ⟨_, Lib.hid rfl⟩
  have su19 : sz u19 ≤ 13 := by rw [← HZ19.out]; have h1 := sz_add (a2) (b2); have h2 := sz_mul ((a2) + (b2)) half; have h3 := sz_half; omega
  have lx2 := bx2.cells
  have lx3 := bx3.cells
  have BX2 := Lib.hid bx2
  have BX3 := Lib.hid bx3
  have BX5 := Lib.hid bx5
  have BX7 := Lib.hid bx7
  have BX10 := Lib.hid bx10
  clear bx2 bx3 bx5 bx7 bx10
  refine wp_seq_k fun K hK => ?_
  replace hK := Lib.hid hK
  refine wp_region_seqplan 3 [(true, 0), (true, 1), (true, 2)] (by rfl) (by simp) (fun T hT => ?_)
  iterate 2
    refine wpPlan_takeL (v := ?_) rfl (by rfl) (fun w' hw => ?_) ?_
    rotate_left
    · go_simp
      with_reducible rfl
    simp only [Act.put, List.setIfInBounds_toArray, List.set_cons_zero, List.set_cons_succ]
  refine wpPlan_callL rfl (by rfl) Try.call20 (fun w' hw => pmid_any (a1) (a2) (b1) (b2) (u18) (u19) _ HZ18.out HZ19.out (by first | omega | exact Nat.le_trans (wl_small (by decide)) (by decide)) (by first | omega | exact Nat.le_trans (wl_small (by decide)) (by decide)) (by first | omega | exact Nat.le_trans (wl_small (by decide)) (by decide)) (by first | omega | exact Nat.le_trans (wl_small (by decide)) (by decide))) (by rfl) ?_
  simp only [Act.put, List.setIfInBounds_toArray, List.set_cons_zero, List.set_cons_succ]
  refine wpPlan_nil (hT.out _ _ ?_); clear hT T
  intro vw9 hg
  simp only [puts, Act.put, List.setIfInBounds_toArray, List.set_cons_zero, List.set_cons_succ, List.drop_succ_cons, List.drop_zero, ↓reduceIte, Nat.reduceEqDiff]
  clear lx2 lx3
  have HG := Lib.hid (hg)
  clear hg
  have bx2 := BX2.out.gr HG.out; clear BX2
  have bx3 := BX3.out.gr HG.out; clear BX3
  have bx5 := BX5.out.gr HG.out; clear BX5
  have bx7 := BX7.out.gr HG.out; clear BX7
  have bx10 := BX10.out.gr HG.out; clear BX10
  have r0 := Gr.refl vw9
  have BX2 := Lib.hid bx2; clear bx2
  have BX3 := Lib.hid bx3; clear bx3
  have BX5 := Lib.hid bx5; clear bx5
  have BX7 := Lib.hid bx7; clear bx7
  have BX10 := Lib.hid bx10; clear bx10
  go_wp2
  refine hK.out _ _ ?_; clear hK K
  show Code.wp _ _ _ _ _
  clear r0
  have hsz : w.heap.size ≤ vw9.heap.size := Nat.le_trans HB.out.size HG.out.size
  have mx2 : gx2 < vw9.heap.size := BX2.out.lt
  have mx3 : gx3 < vw9.heap.size := BX3.out.lt
  have mx5 : gx5 < vw9.heap.size := BX5.out.lt
  have mx7 : gx7 < vw9.heap.size := BX7.out.lt
  have mx10 : gx10 < vw9.heap.size := BX10.out.lt
  refine forgetW (fun w2 => Bx w2 gx2 38 #[.int .u64 ((lo (Int.natAbs ((a1).num)) : Nat) : Int), .string (bg (Int.natAbs ((a1).num))), .bool (decide (((a1).num) < 0)), .int .u64 ((lo ((a1).den - 1) : Nat) : Int), .string (bg ((a1).den - 1)), .int .u64 ((lo (Int.natAbs ((a2).num)) : Nat) : Int), .string (bg (Int.natAbs ((a2).num))), .bool (decide (((a2).num) < 0)), .int .u64 ((lo ((a2).den - 1) : Nat) : Int), .string (bg ((a2).den - 1))] ∧ Bx w2 gx3 38 #[.int .u64 ((lo (Int.natAbs ((b1).num)) : Nat) : Int), .string (bg (Int.natAbs ((b1).num))), .bool (decide (((b1).num) < 0)), .int .u64 ((lo ((b1).den - 1) : Nat) : Int), .string (bg ((b1).den - 1)), .int .u64 ((lo (Int.natAbs ((b2).num)) : Nat) : Int), .string (bg (Int.natAbs ((b2).num))), .bool (decide (((b2).num) < 0)), .int .u64 ((lo ((b2).den - 1) : Nat) : Int), .string (bg ((b2).den - 1))] ∧ Bx w2 gx5 36 #[.int .u64 ((lo (Int.natAbs ((u7).num)) : Nat) : Int), .string (bg (Int.natAbs ((u7).num))), .bool (decide (((u7).num) < 0)), .int .u64 ((lo ((u7).den - 1) : Nat) : Int), .string (bg ((u7).den - 1))] ∧ Bx w2 gx7 36 #[.int .u64 ((lo (Int.natAbs ((u7).num)) : Nat) : Int), .string (bg (Int.natAbs ((u7).num))), .bool (decide (((u7).num) < 0)), .int .u64 ((lo ((u7).den - 1) : Nat) : Int), .string (bg ((u7).den - 1))] ∧ Bx w2 gx10 36 #[.int .u64 ((lo (Int.natAbs ((u17).num)) : Nat) : Int), .string (bg (Int.natAbs ((u17).num))), .bool (decide (((u17).num) < 0)), .int .u64 ((lo ((u17).den - 1) : Nat) : Int), .string (bg ((u17).den - 1))] ∧ Bx w2 (vw9.heap.size) 38 #[.int .u64 ((lo (Int.natAbs ((u18).num)) : Nat) : Int), .string (bg (Int.natAbs ((u18).num))), .bool (decide (((u18).num) < 0)), .int .u64 ((lo ((u18).den - 1) : Nat) : Int), .string (bg ((u18).den - 1)), .int .u64 ((lo (Int.natAbs ((u19).num)) : Nat) : Int), .string (bg (Int.natAbs ((u19).num))), .bool (decide (((u19).num) < 0)), .int .u64 ((lo ((u19).den - 1) : Nat) : Int), .string (bg ((u19).den - 1))] ∧ Below w.heap.size w w2) ⟨(BX2.out).alloc _, (BX3.out).alloc _, (BX5.out).alloc _, (BX7.out).alloc _, (BX10.out).alloc _, (Bx.at (by simp) : Bx _ (vw9.heap.size) _ _), (HB.out.trans (HG.out.mono HB.out.size)).alloc (by first | omega | (simp; omega)) _⟩ ?_
  clear HB HG BX2 BX3 BX5 BX7 BX10
  rintro Wx9 ⟨bx2, bx3, bx5, bx7, bx10, bx11, HB⟩
  replace HB := Lib.hid HB
  have yx11 : w.heap.size ≤ vw9.heap.size := by omega
  have qx2_11 : gx2 < vw9.heap.size := by omega
  have qx3_11 : gx3 < vw9.heap.size := by omega
  have qx5_11 : gx5 < vw9.heap.size := by omega
  have qx7_11 : gx7 < vw9.heap.size := by omega
  have qx10_11 : gx10 < vw9.heap.size := by omega
  generalize hx11 : vw9.heap.size = gx11 at *
  clear hx11
  clear hsz mx2 mx3 mx5 mx7 mx10
  -- region 10
  have BX2 := Lib.hid bx2
  have BX3 := Lib.hid bx3
  have BX5 := Lib.hid bx5
  have BX7 := Lib.hid bx7
  have BX10 := Lib.hid bx10
  have BX11 := Lib.hid bx11
  clear bx2 bx3 bx5 bx7 bx10 bx11
  refine wp_seq_k fun K hK => ?_
  replace hK := Lib.hid hK
  refine wp_region_seqplan 1 [(true, 0)] (by rfl) (by simp) (fun T hT => ?_)
  iterate 1
    refine wpPlan_takeL (v := ?_) rfl (by rfl) (fun w' hw => ?_) ?_
    rotate_left
    · go_simp
      with_reducible rfl
    simp only [Act.put, List.setIfInBounds_toArray, List.set_cons_zero, List.set_cons_succ]
  refine wpPlan_nil (hT.out _ _ ?_); clear hT T
  intro vw10 hg
  simp only [puts, Act.put, List.setIfInBounds_toArray, List.set_cons_zero, List.set_cons_succ, List.drop_succ_cons, List.drop_zero, ↓reduceIte, Nat.reduceEqDiff]
  have HG := Lib.hid (hg)
  clear hg
  have bx2 := BX2.out.gr HG.out; clear BX2
  have bx3 := BX3.out.gr HG.out; clear BX3
  have bx5 := BX5.out.gr HG.out; clear BX5
  have bx7 := BX7.out.gr HG.out; clear BX7
  have bx10 := BX10.out.gr HG.out; clear BX10
  have bx11 := BX11.out.gr HG.out; clear BX11
  have r0 := Gr.refl vw10
  have BX2 := Lib.hid bx2; clear bx2
  have BX3 := Lib.hid bx3; clear bx3
  have BX5 := Lib.hid bx5; clear bx5
  have BX7 := Lib.hid bx7; clear bx7
  have BX10 := Lib.hid bx10; clear bx10
  have BX11 := Lib.hid bx11; clear bx11
  go_wp2
  refine hK.out _ _ ?_; clear hK K
  show Code.wp _ _ _ _ _
  clear r0
  refine forgetW (fun w2 => Bx w2 gx2 38 #[.int .u64 ((lo (Int.natAbs ((a1).num)) : Nat) : Int), .string (bg (Int.natAbs ((a1).num))), .bool (decide (((a1).num) < 0)), .int .u64 ((lo ((a1).den - 1) : Nat) : Int), .string (bg ((a1).den - 1)), .int .u64 ((lo (Int.natAbs ((a2).num)) : Nat) : Int), .string (bg (Int.natAbs ((a2).num))), .bool (decide (((a2).num) < 0)), .int .u64 ((lo ((a2).den - 1) : Nat) : Int), .string (bg ((a2).den - 1))] ∧ Bx w2 gx3 38 #[.int .u64 ((lo (Int.natAbs ((b1).num)) : Nat) : Int), .string (bg (Int.natAbs ((b1).num))), .bool (decide (((b1).num) < 0)), .int .u64 ((lo ((b1).den - 1) : Nat) : Int), .string (bg ((b1).den - 1)), .int .u64 ((lo (Int.natAbs ((b2).num)) : Nat) : Int), .string (bg (Int.natAbs ((b2).num))), .bool (decide (((b2).num) < 0)), .int .u64 ((lo ((b2).den - 1) : Nat) : Int), .string (bg ((b2).den - 1))] ∧ Bx w2 gx5 36 #[.int .u64 ((lo (Int.natAbs ((u7).num)) : Nat) : Int), .string (bg (Int.natAbs ((u7).num))), .bool (decide (((u7).num) < 0)), .int .u64 ((lo ((u7).den - 1) : Nat) : Int), .string (bg ((u7).den - 1))] ∧ Bx w2 gx7 36 #[.int .u64 ((lo (Int.natAbs ((u7).num)) : Nat) : Int), .string (bg (Int.natAbs ((u7).num))), .bool (decide (((u7).num) < 0)), .int .u64 ((lo ((u7).den - 1) : Nat) : Int), .string (bg ((u7).den - 1))] ∧ Bx w2 gx10 36 #[.int .u64 ((lo (Int.natAbs ((u17).num)) : Nat) : Int), .string (bg (Int.natAbs ((u17).num))), .bool (decide (((u17).num) < 0)), .int .u64 ((lo ((u17).den - 1) : Nat) : Int), .string (bg ((u17).den - 1))] ∧ Bx w2 gx11 38 #[.int .u64 ((lo (Int.natAbs ((u18).num)) : Nat) : Int), .string (bg (Int.natAbs ((u18).num))), .bool (decide (((u18).num) < 0)), .int .u64 ((lo ((u18).den - 1) : Nat) : Int), .string (bg ((u18).den - 1)), .int .u64 ((lo (Int.natAbs ((u19).num)) : Nat) : Int), .string (bg (Int.natAbs ((u19).num))), .bool (decide (((u19).num) < 0)), .int .u64 ((lo ((u19).den - 1) : Nat) : Int), .string (bg ((u19).den - 1))] ∧ Below w.heap.size w w2) ⟨BX2.out, BX3.out, BX5.out, BX7.out, BX10.out, BX11.out, HB.out.trans (HG.out.mono HB.out.size)⟩ ?_
  clear HB HG BX2 BX3 BX5 BX7 BX10 BX11
  rintro Wx10 ⟨bx2, bx3, bx5, bx7, bx10, bx11, HB⟩
  replace HB := Lib.hid HB
  refine wp_seq ?_
  have way2 := way.out; clear way; rcases way2 with ⟨hl1, hl2, he⟩ | ⟨hl1, hl2, he⟩ | ⟨hl1, hl2, he⟩ <;> replace hl1 := Lib.hid hl1 <;> replace hl2 := Lib.hid hl2
  · -- region 11
    have lx2 := bx2.cells
    have lx3 := bx3.cells
    have BX2 := Lib.hid bx2
    have BX3 := Lib.hid bx3
    have BX5 := Lib.hid bx5
    have BX7 := Lib.hid bx7
    have BX10 := Lib.hid bx10
    have BX11 := Lib.hid bx11
    clear bx2 bx3 bx5 bx7 bx10 bx11
    refine wp_seq_k fun K hK => ?_
    replace hK := Lib.hid hK
    refine wp_region_seqplan 3 [(true, 0), (true, 1), (true, 2)] (by rfl) (by simp) (fun T hT => ?_)
    iterate 2
      refine wpPlan_takeL (v := ?_) rfl (by rfl) (fun w' hw => ?_) ?_
      rotate_left
      · go_simp
        with_reducible rfl
      simp only [Act.put, List.setIfInBounds_toArray, List.set_cons_zero, List.set_cons_succ]
    refine wpPlan_callL rfl (by rfl) Try.call27 (fun w' hw => pless_any (a1) (a2) (b1) (b2) true _ (hl1.out) (by first | omega | exact Nat.le_trans (wl_small (by decide)) (by decide)) (by first | omega | exact Nat.le_trans (wl_small (by decide)) (by decide)) (by first | omega | exact Nat.le_trans (wl_small (by decide)) (by decide)) (by first | omega | exact Nat.le_trans (wl_small (by decide)) (by decide))) (by rfl) ?_
    simp only [Act.put, List.setIfInBounds_toArray, List.set_cons_zero, List.set_cons_succ]
    refine wpPlan_nil (hT.out _ _ ?_); clear hT T
    intro vw11 hg
    simp only [puts, Act.put, List.setIfInBounds_toArray, List.set_cons_zero, List.set_cons_succ, List.drop_succ_cons, List.drop_zero, ↓reduceIte, Nat.reduceEqDiff]
    clear lx2 lx3
    have HG := Lib.hid (hg)
    clear hg
    have bx2 := BX2.out.gr HG.out; clear BX2
    have bx3 := BX3.out.gr HG.out; clear BX3
    have bx5 := BX5.out.gr HG.out; clear BX5
    have bx7 := BX7.out.gr HG.out; clear BX7
    have bx10 := BX10.out.gr HG.out; clear BX10
    have bx11 := BX11.out.gr HG.out; clear BX11
    have r0 := Gr.refl vw11
    have BX2 := Lib.hid bx2; clear bx2
    have BX3 := Lib.hid bx3; clear bx3
    have BX5 := Lib.hid bx5; clear bx5
    have BX7 := Lib.hid bx7; clear bx7
    have BX10 := Lib.hid bx10; clear bx10
    have BX11 := Lib.hid bx11; clear bx11
    go_wp2
    refine hK.out _ _ ?_; clear hK K
    show Code.wp _ _ _ _ _
    clear r0
    refine forgetW (fun w2 => Bx w2 gx2 38 #[.int .u64 ((lo (Int.natAbs ((a1).num)) : Nat) : Int), .string (bg (Int.natAbs ((a1).num))), .bool (decide (((a1).num) < 0)), .int .u64 ((lo ((a1).den - 1) : Nat) : Int), .string (bg ((a1).den - 1)), .int .u64 ((lo (Int.natAbs ((a2).num)) : Nat) : Int), .string (bg (Int.natAbs ((a2).num))), .bool (decide (((a2).num) < 0)), .int .u64 ((lo ((a2).den - 1) : Nat) : Int), .string (bg ((a2).den - 1))] ∧ Bx w2 gx3 38 #[.int .u64 ((lo (Int.natAbs ((b1).num)) : Nat) : Int), .string (bg (Int.natAbs ((b1).num))), .bool (decide (((b1).num) < 0)), .int .u64 ((lo ((b1).den - 1) : Nat) : Int), .string (bg ((b1).den - 1)), .int .u64 ((lo (Int.natAbs ((b2).num)) : Nat) : Int), .string (bg (Int.natAbs ((b2).num))), .bool (decide (((b2).num) < 0)), .int .u64 ((lo ((b2).den - 1) : Nat) : Int), .string (bg ((b2).den - 1))] ∧ Bx w2 gx5 36 #[.int .u64 ((lo (Int.natAbs ((u7).num)) : Nat) : Int), .string (bg (Int.natAbs ((u7).num))), .bool (decide (((u7).num) < 0)), .int .u64 ((lo ((u7).den - 1) : Nat) : Int), .string (bg ((u7).den - 1))] ∧ Bx w2 gx7 36 #[.int .u64 ((lo (Int.natAbs ((u7).num)) : Nat) : Int), .string (bg (Int.natAbs ((u7).num))), .bool (decide (((u7).num) < 0)), .int .u64 ((lo ((u7).den - 1) : Nat) : Int), .string (bg ((u7).den - 1))] ∧ Bx w2 gx10 36 #[.int .u64 ((lo (Int.natAbs ((u17).num)) : Nat) : Int), .string (bg (Int.natAbs ((u17).num))), .bool (decide (((u17).num) < 0)), .int .u64 ((lo ((u17).den - 1) : Nat) : Int), .string (bg ((u17).den - 1))] ∧ Bx w2 gx11 38 #[.int .u64 ((lo (Int.natAbs ((u18).num)) : Nat) : Int), .string (bg (Int.natAbs ((u18).num))), .bool (decide (((u18).num) < 0)), .int .u64 ((lo ((u18).den - 1) : Nat) : Int), .string (bg ((u18).den - 1)), .int .u64 ((lo (Int.natAbs ((u19).num)) : Nat) : Int), .string (bg (Int.natAbs ((u19).num))), .bool (decide (((u19).num) < 0)), .int .u64 ((lo ((u19).den - 1) : Nat) : Int), .string (bg ((u19).den - 1))] ∧ Below w.heap.size w w2) ⟨BX2.out, BX3.out, BX5.out, BX7.out, BX10.out, BX11.out, HB.out.trans (HG.out.mono HB.out.size)⟩ ?_
    clear HB HG BX2 BX3 BX5 BX7 BX10 BX11
    rintro Wx11 ⟨bx2, bx3, bx5, bx7, bx10, bx11, HB⟩
    replace HB := Lib.hid HB
    refine wp_cond_true (by rfl) ?_
    -- region 12
    have BX2 := Lib.hid bx2
    have BX3 := Lib.hid bx3
    have BX5 := Lib.hid bx5
    have BX7 := Lib.hid bx7
    have BX10 := Lib.hid bx10
    have BX11 := Lib.hid bx11
    clear bx2 bx3 bx5 bx7 bx10 bx11
    refine wp_last_k fun K hK => ?_
    replace hK := Lib.hid hK
    refine wp_region_seqplan 3 [(true, 0), (true, 1), (true, 2)] (by rfl) (by simp) (fun T hT => ?_)
    iterate 3
      refine wpPlan_takeL (v := ?_) rfl (by rfl) (fun w' hw => ?_) ?_
      rotate_left
      · go_simp
        with_reducible rfl
      simp only [Act.put, List.setIfInBounds_toArray, List.set_cons_zero, List.set_cons_succ]
    refine wpPlan_nil (hT.out _ _ ?_); clear hT T
    intro vw12 hg
    simp only [puts, Act.put, List.setIfInBounds_toArray, List.set_cons_zero, List.set_cons_succ, List.drop_succ_cons, List.drop_zero, ↓reduceIte, Nat.reduceEqDiff]
    have HG := Lib.hid (hg)
    clear hg
    have bx2 := BX2.out.gr HG.out; clear BX2
    have bx3 := BX3.out.gr HG.out; clear BX3
    have bx5 := BX5.out.gr HG.out; clear BX5
    have bx7 := BX7.out.gr HG.out; clear BX7
    have bx10 := BX10.out.gr HG.out; clear BX10
    have bx11 := BX11.out.gr HG.out; clear BX11
    have r0 := Gr.refl vw12
    have BX2 := Lib.hid bx2; clear bx2
    have BX3 := Lib.hid bx3; clear bx3
    have BX5 := Lib.hid bx5; clear bx5
    have BX7 := Lib.hid bx7; clear bx7
    have BX10 := Lib.hid bx10; clear bx10
    have BX11 := Lib.hid bx11; clear bx11
    go_wp2
    refine hK.out _ _ ?_; clear hK K
    show Code.wp _ _ _ _ _
    clear r0
    refine forgetW (fun w2 => Bx w2 gx2 38 #[.int .u64 ((lo (Int.natAbs ((a1).num)) : Nat) : Int), .string (bg (Int.natAbs ((a1).num))), .bool (decide (((a1).num) < 0)), .int .u64 ((lo ((a1).den - 1) : Nat) : Int), .string (bg ((a1).den - 1)), .int .u64 ((lo (Int.natAbs ((a2).num)) : Nat) : Int), .string (bg (Int.natAbs ((a2).num))), .bool (decide (((a2).num) < 0)), .int .u64 ((lo ((a2).den - 1) : Nat) : Int), .string (bg ((a2).den - 1))] ∧ Bx w2 gx3 38 #[.int .u64 ((lo (Int.natAbs ((b1).num)) : Nat) : Int), .string (bg (Int.natAbs ((b1).num))), .bool (decide (((b1).num) < 0)), .int .u64 ((lo ((b1).den - 1) : Nat) : Int), .string (bg ((b1).den - 1)), .int .u64 ((lo (Int.natAbs ((b2).num)) : Nat) : Int), .string (bg (Int.natAbs ((b2).num))), .bool (decide (((b2).num) < 0)), .int .u64 ((lo ((b2).den - 1) : Nat) : Int), .string (bg ((b2).den - 1))] ∧ Bx w2 gx5 36 #[.int .u64 ((lo (Int.natAbs ((u7).num)) : Nat) : Int), .string (bg (Int.natAbs ((u7).num))), .bool (decide (((u7).num) < 0)), .int .u64 ((lo ((u7).den - 1) : Nat) : Int), .string (bg ((u7).den - 1))] ∧ Bx w2 gx7 36 #[.int .u64 ((lo (Int.natAbs ((u7).num)) : Nat) : Int), .string (bg (Int.natAbs ((u7).num))), .bool (decide (((u7).num) < 0)), .int .u64 ((lo ((u7).den - 1) : Nat) : Int), .string (bg ((u7).den - 1))] ∧ Bx w2 gx10 36 #[.int .u64 ((lo (Int.natAbs ((u17).num)) : Nat) : Int), .string (bg (Int.natAbs ((u17).num))), .bool (decide (((u17).num) < 0)), .int .u64 ((lo ((u17).den - 1) : Nat) : Int), .string (bg ((u17).den - 1))] ∧ Bx w2 gx11 38 #[.int .u64 ((lo (Int.natAbs ((u18).num)) : Nat) : Int), .string (bg (Int.natAbs ((u18).num))), .bool (decide (((u18).num) < 0)), .int .u64 ((lo ((u18).den - 1) : Nat) : Int), .string (bg ((u18).den - 1)), .int .u64 ((lo (Int.natAbs ((u19).num)) : Nat) : Int), .string (bg (Int.natAbs ((u19).num))), .bool (decide (((u19).num) < 0)), .int .u64 ((lo ((u19).den - 1) : Nat) : Int), .string (bg ((u19).den - 1))] ∧ Below w.heap.size w w2) ⟨BX2.out, BX3.out, BX5.out, BX7.out, BX10.out, BX11.out, HB.out.trans (HG.out.mono HB.out.size)⟩ ?_
    clear HB HG BX2 BX3 BX5 BX7 BX10 BX11
    rintro Wx12 ⟨bx2, bx3, bx5, bx7, bx10, bx11, HB⟩
    replace HB := Lib.hid HB
    refine wp_seq ?_
    -- region 13
    have lx2 := bx2.cells
    have lx3 := bx3.cells
    have BX2 := Lib.hid bx2
    have BX3 := Lib.hid bx3
    have BX5 := Lib.hid bx5
    have BX7 := Lib.hid bx7
    have BX10 := Lib.hid bx10
    have BX11 := Lib.hid bx11
    clear bx2 bx3 bx5 bx7 bx10 bx11
    refine wp_seq_k fun K hK => ?_
    replace hK := Lib.hid hK
    refine wp_region_seqplan 3 [(true, 0), (true, 1), (true, 2)] (by rfl) (by simp) (fun T hT => ?_)
    iterate 2
      refine wpPlan_takeL (v := ?_) rfl (by rfl) (fun w' hw => ?_) ?_
      rotate_left
      · go_simp
        with_reducible rfl
      simp only [Act.put, List.setIfInBounds_toArray, List.set_cons_zero, List.set_cons_succ]
    refine wpPlan_callL rfl (by rfl) Try.call27 (fun w' hw => pless_any (b1) (b2) (a1) (a2) false _ (hl2.out) (by first | omega | exact Nat.le_trans (wl_small (by decide)) (by decide)) (by first | omega | exact Nat.le_trans (wl_small (by decide)) (by decide)) (by first | omega | exact Nat.le_trans (wl_small (by decide)) (by decide)) (by first | omega | exact Nat.le_trans (wl_small (by decide)) (by decide))) (by rfl) ?_
    simp only [Act.put, List.setIfInBounds_toArray, List.set_cons_zero, List.set_cons_succ]
    refine wpPlan_nil (hT.out _ _ ?_); clear hT T
    intro vw13 hg
    simp only [puts, Act.put, List.setIfInBounds_toArray, List.set_cons_zero, List.set_cons_succ, List.drop_succ_cons, List.drop_zero, ↓reduceIte, Nat.reduceEqDiff]
    clear lx2 lx3
    have HG := Lib.hid (hg)
    clear hg
    have bx2 := BX2.out.gr HG.out; clear BX2
    have bx3 := BX3.out.gr HG.out; clear BX3
    have bx5 := BX5.out.gr HG.out; clear BX5
    have bx7 := BX7.out.gr HG.out; clear BX7
    have bx10 := BX10.out.gr HG.out; clear BX10
    have bx11 := BX11.out.gr HG.out; clear BX11
    have r0 := Gr.refl vw13
    have BX2 := Lib.hid bx2; clear bx2
    have BX3 := Lib.hid bx3; clear bx3
    have BX5 := Lib.hid bx5; clear bx5
    have BX7 := Lib.hid bx7; clear bx7
    have BX10 := Lib.hid bx10; clear bx10
    have BX11 := Lib.hid bx11; clear bx11
    go_wp2
    refine hK.out _ _ ?_; clear hK K
    show Code.wp _ _ _ _ _
    clear r0
    refine forgetW (fun w2 => Bx w2 gx2 38 #[.int .u64 ((lo (Int.natAbs ((a1).num)) : Nat) : Int), .string (bg (Int.natAbs ((a1).num))), .bool (decide (((a1).num) < 0)), .int .u64 ((lo ((a1).den - 1) : Nat) : Int), .string (bg ((a1).den - 1)), .int .u64 ((lo (Int.natAbs ((a2).num)) : Nat) : Int), .string (bg (Int.natAbs ((a2).num))), .bool (decide (((a2).num) < 0)), .int .u64 ((lo ((a2).den - 1) : Nat) : Int), .string (bg ((a2).den - 1))] ∧ Bx w2 gx3 38 #[.int .u64 ((lo (Int.natAbs ((b1).num)) : Nat) : Int), .string (bg (Int.natAbs ((b1).num))), .bool (decide (((b1).num) < 0)), .int .u64 ((lo ((b1).den - 1) : Nat) : Int), .string (bg ((b1).den - 1)), .int .u64 ((lo (Int.natAbs ((b2).num)) : Nat) : Int), .string (bg (Int.natAbs ((b2).num))), .bool (decide (((b2).num) < 0)), .int .u64 ((lo ((b2).den - 1) : Nat) : Int), .string (bg ((b2).den - 1))] ∧ Bx w2 gx5 36 #[.int .u64 ((lo (Int.natAbs ((u7).num)) : Nat) : Int), .string (bg (Int.natAbs ((u7).num))), .bool (decide (((u7).num) < 0)), .int .u64 ((lo ((u7).den - 1) : Nat) : Int), .string (bg ((u7).den - 1))] ∧ Bx w2 gx7 36 #[.int .u64 ((lo (Int.natAbs ((u7).num)) : Nat) : Int), .string (bg (Int.natAbs ((u7).num))), .bool (decide (((u7).num) < 0)), .int .u64 ((lo ((u7).den - 1) : Nat) : Int), .string (bg ((u7).den - 1))] ∧ Bx w2 gx10 36 #[.int .u64 ((lo (Int.natAbs ((u17).num)) : Nat) : Int), .string (bg (Int.natAbs ((u17).num))), .bool (decide (((u17).num) < 0)), .int .u64 ((lo ((u17).den - 1) : Nat) : Int), .string (bg ((u17).den - 1))] ∧ Bx w2 gx11 38 #[.int .u64 ((lo (Int.natAbs ((u18).num)) : Nat) : Int), .string (bg (Int.natAbs ((u18).num))), .bool (decide (((u18).num) < 0)), .int .u64 ((lo ((u18).den - 1) : Nat) : Int), .string (bg ((u18).den - 1)), .int .u64 ((lo (Int.natAbs ((u19).num)) : Nat) : Int), .string (bg (Int.natAbs ((u19).num))), .bool (decide (((u19).num) < 0)), .int .u64 ((lo ((u19).den - 1) : Nat) : Int), .string (bg ((u19).den - 1))] ∧ Below w.heap.size w w2) ⟨BX2.out, BX3.out, BX5.out, BX7.out, BX10.out, BX11.out, HB.out.trans (HG.out.mono HB.out.size)⟩ ?_
    clear HB HG BX2 BX3 BX5 BX7 BX10 BX11
    rintro Wx13 ⟨bx2, bx3, bx5, bx7, bx10, bx11, HB⟩
    replace HB := Lib.hid HB
    refine wp_cond_false (by rfl) ?_
    refine wp_skip ?_
    show Code.wp _ _ _ _ _
    refine wp_seq ?_
    -- region 15
    have lx2 := bx2.cells
    have lx3 := bx3.cells
    have BX2 := Lib.hid bx2
    have BX3 := Lib.hid bx3
    have BX5 := Lib.hid bx5
    have BX7 := Lib.hid bx7
    have BX10 := Lib.hid bx10
    have BX11 := Lib.hid bx11
    clear bx2 bx3 bx5 bx7 bx10 bx11
    refine wp_seq_k fun K hK => ?_
    replace hK := Lib.hid hK
    refine wp_region_seqplan 3 [(true, 0), (true, 1), (true, 2)] (by rfl) (by simp) (fun T hT => ?_)
    iterate 3
      refine wpPlan_takeL (v := ?_) rfl (by rfl) (fun w' hw => ?_) ?_
      rotate_left
      · go_simp
        with_reducible rfl
      simp only [Act.put, List.setIfInBounds_toArray, List.set_cons_zero, List.set_cons_succ]
    refine wpPlan_nil (hT.out _ _ ?_); clear hT T
    intro vw14 hg
    simp only [puts, Act.put, List.setIfInBounds_toArray, List.set_cons_zero, List.set_cons_succ, List.drop_succ_cons, List.drop_zero, ↓reduceIte, Nat.reduceEqDiff]
    clear lx2 lx3
    have HG := Lib.hid (hg)
    clear hg
    have bx2 := BX2.out.gr HG.out; clear BX2
    have bx3 := BX3.out.gr HG.out; clear BX3
    have bx5 := BX5.out.gr HG.out; clear BX5
    have bx7 := BX7.out.gr HG.out; clear BX7
    have bx10 := BX10.out.gr HG.out; clear BX10
    have bx11 := BX11.out.gr HG.out; clear BX11
    have r0 := Gr.refl vw14
    have BX2 := Lib.hid bx2; clear bx2
    have BX3 := Lib.hid bx3; clear bx3
    have BX5 := Lib.hid bx5; clear bx5
    have BX7 := Lib.hid bx7; clear bx7
    have BX10 := Lib.hid bx10; clear bx10
    have BX11 := Lib.hid bx11; clear bx11
    go_wp2
    refine hK.out _ _ ?_; clear hK K
    show Code.wp _ _ _ _ _
    clear r0
    refine forgetW (fun w2 => Bx w2 gx2 38 #[.int .u64 ((lo (Int.natAbs ((a1).num)) : Nat) : Int), .string (bg (Int.natAbs ((a1).num))), .bool (decide (((a1).num) < 0)), .int .u64 ((lo ((a1).den - 1) : Nat) : Int), .string (bg ((a1).den - 1)), .int .u64 ((lo (Int.natAbs ((a2).num)) : Nat) : Int), .string (bg (Int.natAbs ((a2).num))), .bool (decide (((a2).num) < 0)), .int .u64 ((lo ((a2).den - 1) : Nat) : Int), .string (bg ((a2).den - 1))] ∧ Bx w2 gx3 38 #[.int .u64 ((lo (Int.natAbs ((b1).num)) : Nat) : Int), .string (bg (Int.natAbs ((b1).num))), .bool (decide (((b1).num) < 0)), .int .u64 ((lo ((b1).den - 1) : Nat) : Int), .string (bg ((b1).den - 1)), .int .u64 ((lo (Int.natAbs ((b2).num)) : Nat) : Int), .string (bg (Int.natAbs ((b2).num))), .bool (decide (((b2).num) < 0)), .int .u64 ((lo ((b2).den - 1) : Nat) : Int), .string (bg ((b2).den - 1))] ∧ Bx w2 gx5 36 #[.int .u64 ((lo (Int.natAbs ((u7).num)) : Nat) : Int), .string (bg (Int.natAbs ((u7).num))), .bool (decide (((u7).num) < 0)), .int .u64 ((lo ((u7).den - 1) : Nat) : Int), .string (bg ((u7).den - 1))] ∧ Bx w2 gx7 36 #[.int .u64 ((lo (Int.natAbs ((u7).num)) : Nat) : Int), .string (bg (Int.natAbs ((u7).num))), .bool (decide (((u7).num) < 0)), .int .u64 ((lo ((u7).den - 1) : Nat) : Int), .string (bg ((u7).den - 1))] ∧ Bx w2 gx10 36 #[.int .u64 ((lo (Int.natAbs ((u17).num)) : Nat) : Int), .string (bg (Int.natAbs ((u17).num))), .bool (decide (((u17).num) < 0)), .int .u64 ((lo ((u17).den - 1) : Nat) : Int), .string (bg ((u17).den - 1))] ∧ Bx w2 gx11 38 #[.int .u64 ((lo (Int.natAbs ((u18).num)) : Nat) : Int), .string (bg (Int.natAbs ((u18).num))), .bool (decide (((u18).num) < 0)), .int .u64 ((lo ((u18).den - 1) : Nat) : Int), .string (bg ((u18).den - 1)), .int .u64 ((lo (Int.natAbs ((u19).num)) : Nat) : Int), .string (bg (Int.natAbs ((u19).num))), .bool (decide (((u19).num) < 0)), .int .u64 ((lo ((u19).den - 1) : Nat) : Int), .string (bg ((u19).den - 1))] ∧ Below w.heap.size w w2) ⟨BX2.out, BX3.out, BX5.out, BX7.out, BX10.out, BX11.out, HB.out.trans (HG.out.mono HB.out.size)⟩ ?_
    clear HB HG BX2 BX3 BX5 BX7 BX10 BX11
    rintro Wx15 ⟨bx2, bx3, bx5, bx7, bx10, bx11, HB⟩
    replace HB := Lib.hid HB
    refine wp_cond_false (by rfl) ?_
    refine wp_skip ?_
    show Code.wp _ _ _ _ _
    -- region 17
    obtain ⟨u20, HZ20⟩ : ∃ z, Hid ((a1) * (a1) + (a2) * (a2) = z) := ⟨_, Lib.hid rfl⟩
    have su20 : sz u20 ≤ 17 := by rw [← HZ20.out]; have := sz_dot (a1) (a2) (a1) (a2); omega
    obtain ⟨u21, HZ21⟩ : ∃ z, Hid ((b1) * (b1) + (b2) * (b2) = z) := ⟨_, Lib.hid rfl⟩
    have su21 : sz u21 ≤ 17 := by rw [← HZ21.out]; have := sz_dot (b1) (b2) (b1) (b2); omega
    have HZ22 : Hid ((u20) * (u21) = u17) := Lib.hid (by simp only [← HZ21.out, ← HZ20.out, ← HZ19.out, ← HZ18.out, ← HZ17.out, ← HZ16.out, ← HZ15.out, ← HZ14.out, ← HZ13.out, ← HZ11.out, ← HZ10.out, ← HZ9.out, ← HZ8.out, ← HZ7.out, ← HZ6.out, ← HZ5.out]; exact laws_all _ _ _ _)
    obtain ⟨u23, HZ23⟩ : ∃ z, Hid (((a1) - (u18)) * ((a1) - (u18)) + ((a2) - (u19)) * ((a2) - (u19)) = z) := ⟨_, Lib.hid rfl⟩
    have su23 : sz u23 ≤ 73 := by rw [← HZ23.out]; have := sz_square (u18) (u19) (a1) (a2); omega
    have HZ24 : Hid (((b1) - (u18)) * ((b1) - (u18)) + ((b2) - (u19)) * ((b2) - (u19)) = u23) := Lib.hid (by simp only [← HZ23.out, ← HZ21.out, ← HZ20.out, ← HZ19.out, ← HZ18.out, ← HZ17.out, ← HZ16.out, ← HZ15.out, ← HZ14.out, ← HZ13.out, ← HZ11.out, ← HZ10.out, ← HZ9.out, ← HZ8.out, ← HZ7.out, ← HZ6.out, ← HZ5.out]; exact laws_mid _ _ _ _)
    obtain ⟨u25, HZ25⟩ : ∃ z, Hid ((a1) + (b1) = z) := ⟨_, Lib.hid rfl⟩
    have su25 : sz u25 ≤ 9 := by rw [← HZ25.out]; have := sz_add (a1) (b1); omega
    obtain ⟨u26, HZ26⟩ : ∃ z, Hid ((a2) + (b2) = z) := ⟨_, Lib.hid rfl⟩
    have su26 : sz u26 ≤ 9 := by rw [← HZ26.out]; have := sz_add (a2) (b2); omega
    have HZ27 : Hid ((u25) - (b1) = a1) := Lib.hid (by simp only [← HZ26.out, ← HZ25.out, ← HZ23.out, ← HZ21.out, ← HZ20.out, ← HZ19.out, ← HZ18.out, ← HZ17.out, ← HZ16.out, ← HZ15.out, ← HZ14.out, ← HZ13.out, ← HZ11.out, ← HZ10.out, ← HZ9.out, ← HZ8.out, ← HZ7.out, ← HZ6.out, ← HZ5.out]; grind)
    have HZ28 : Hid ((u26) - (b2) = a2) := Lib.hid (by simp only [← HZ26.out, ← HZ25.out, ← HZ23.out, ← HZ21.out, ← HZ20.out, ← HZ19.out, ← HZ18.out, ← HZ17.out, ← HZ16.out, ← HZ15.out, ← HZ14.out, ← HZ13.out, ← HZ11.out, ← HZ10.out, ← HZ9.out, ← HZ8.out, ← HZ7.out, ← HZ6.out, ← HZ5.out]; grind)
    have lx2 := bx2.cells
    have lx3 := bx3.cells
    have lx5 := bx5.cells
    have lx7 := bx7.cells
    have lx10 := bx10.cells
    have lx11 := bx11.cells
    have BX2 := Lib.hid bx2
    have BX3 := Lib.hid bx3
    have BX5 := Lib.hid bx5
    have BX7 := Lib.hid bx7
    have BX10 := Lib.hid bx10
    have BX11 := Lib.hid bx11
    clear bx2 bx3 bx5 bx7 bx10 bx11
    refine wp_seq_k fun K hK => ?_
    replace hK := Lib.hid hK
    refine wp_region_plan 39 [] [] (fun _ => 0) (fun _ => .cells #[] 0) [(true, 0), (true, 1), (true, 2), (true, 3), (true, 4), (true, 5), (true, 6), (true, 8), (true, 9), (true, 7), (true, 10), (true, 11), (true, 12), (true, 13), (true, 14), (true, 15), (true, 16), (true, 18), (true, 19), (true, 17), (true, 20), (true, 21), (true, 22), (true, 23), (true, 24), (true, 25), (true, 26), (true, 27), (true, 28), (true, 29), (true, 31), (true, 33), (true, 30), (true, 32), (true, 34), (true, 35), (true, 36), (true, 37), (true, 38)] (by kernel_rfl) (by kernel_rfl) (fun i hi => by cases hi) (fun i hi => by cases hi) (fun _ _ _ _ _ h => h) (fun T hT => ?_)
    iterate 9
      refine wpPlan_takeL (v := ?_) rfl (by rfl) (fun w' hw => ?_) ?_
      rotate_left
      · go_simp
        with_reducible rfl
      simp only [Act.put, List.setIfInBounds_toArray, List.set_cons_zero, List.set_cons_succ]
    refine wpPlan_callL rfl (by rfl) Try.call26 (fun w' hw => pdot_any (a1) (a2) (a1) (a2) (u20) _ HZ20.out (by first | omega | exact Nat.le_trans (wl_small (by decide)) (by decide)) (by first | omega | exact Nat.le_trans (wl_small (by decide)) (by decide)) (by first | omega | exact Nat.le_trans (wl_small (by decide)) (by decide)) (by first | omega | exact Nat.le_trans (wl_small (by decide)) (by decide))) (by rfl) ?_
    simp only [Act.put, List.setIfInBounds_toArray, List.set_cons_zero, List.set_cons_succ]
    refine wpPlan_callL rfl (by rfl) Try.call26 (fun w' hw => pdot_any (b1) (b2) (b1) (b2) (u21) _ HZ21.out (by first | omega | exact Nat.le_trans (wl_small (by decide)) (by decide)) (by first | omega | exact Nat.le_trans (wl_small (by decide)) (by decide)) (by first | omega | exact Nat.le_trans (wl_small (by decide)) (by decide)) (by first | omega | exact Nat.le_trans (wl_small (by decide)) (by decide))) (by rfl) ?_
    simp only [Act.put, List.setIfInBounds_toArray, List.set_cons_zero, List.set_cons_succ]
    refine wpPlan_callL rfl (by rfl) Try.call10 (fun w' hw => fmul_any (u20) (u21) (u17) _ HZ22.out (by first | omega | exact Nat.le_trans (wl_small (by decide)) (by decide)) (by first | omega | exact Nat.le_trans (wl_small (by decide)) (by decide))) (by rfl) ?_
    simp only [Act.put, List.setIfInBounds_toArray, List.set_cons_zero, List.set_cons_succ]
    iterate 7
      refine wpPlan_takeL (v := ?_) rfl (by rfl) (fun w' hw => ?_) ?_
      rotate_left
      · go_simp
        with_reducible rfl
      simp only [Act.put, List.setIfInBounds_toArray, List.set_cons_zero, List.set_cons_succ]
    refine wpPlan_callL rfl (by rfl) Try.call24 (fun w' hw => psquare_any (u18) (u19) (a1) (a2) (u23) _ HZ23.out (by first | omega | exact Nat.le_trans (wl_small (by decide)) (by decide)) (by first | omega | exact Nat.le_trans (wl_small (by decide)) (by decide)) (by first | omega | exact Nat.le_trans (wl_small (by decide)) (by decide)) (by first | omega | exact Nat.le_trans (wl_small (by decide)) (by decide))) (by rfl) ?_
    simp only [Act.put, List.setIfInBounds_toArray, List.set_cons_zero, List.set_cons_succ]
    refine wpPlan_callL rfl (by rfl) Try.call24 (fun w' hw => psquare_any (u18) (u19) (b1) (b2) (u23) _ HZ24.out (by first | omega | exact Nat.le_trans (wl_small (by decide)) (by decide)) (by first | omega | exact Nat.le_trans (wl_small (by decide)) (by decide)) (by first | omega | exact Nat.le_trans (wl_small (by decide)) (by decide)) (by first | omega | exact Nat.le_trans (wl_small (by decide)) (by decide))) (by rfl) ?_
    simp only [Act.put, List.setIfInBounds_toArray, List.set_cons_zero, List.set_cons_succ]
    iterate 11
      refine wpPlan_takeL (v := ?_) rfl (by rfl) (fun w' hw => ?_) ?_
      rotate_left
      · go_simp
        with_reducible rfl
      simp only [Act.put, List.setIfInBounds_toArray, List.set_cons_zero, List.set_cons_succ]
    refine wpPlan_callL rfl (by rfl) Try.call14 (fun w' hw => padd_any (a1) (a2) (b1) (b2) (u25) (u26) _ HZ25.out HZ26.out (by first | omega | exact Nat.le_trans (wl_small (by decide)) (by decide)) (by first | omega | exact Nat.le_trans (wl_small (by decide)) (by decide)) (by first | omega | exact Nat.le_trans (wl_small (by decide)) (by decide)) (by first | omega | exact Nat.le_trans (wl_small (by decide)) (by decide))) (by rfl) ?_
    simp only [Act.put, List.setIfInBounds_toArray, List.set_cons_zero, List.set_cons_succ]
    refine wpPlan_callL rfl (by rfl) Try.call8 (fun w' hw => psub_any (u25) (u26) (b1) (b2) (a1) (a2) _ HZ27.out HZ28.out (by first | omega | exact Nat.le_trans (wl_small (by decide)) (by decide)) (by first | omega | exact Nat.le_trans (wl_small (by decide)) (by decide)) (by first | omega | exact Nat.le_trans (wl_small (by decide)) (by decide)) (by first | omega | exact Nat.le_trans (wl_small (by decide)) (by decide))) (by rfl) ?_
    simp only [Act.put, List.setIfInBounds_toArray, List.set_cons_zero, List.set_cons_succ]
    iterate 3
      refine wpPlan_takeL (v := ?_) rfl (by rfl) (fun w' hw => ?_) ?_
      rotate_left
      · go_simp
        with_reducible rfl
      simp only [Act.put, List.setIfInBounds_toArray, List.set_cons_zero, List.set_cons_succ]
    refine wpPlan_callL rfl (by rfl) Try.call16 (fun w' hw => lives_any _) (by rfl) ?_
    simp only [Act.put, List.setIfInBounds_toArray, List.set_cons_zero, List.set_cons_succ]
    iterate 1
      refine wpPlan_takeL (v := ?_) rfl (by rfl) (fun w' hw => ?_) ?_
      rotate_left
      · go_simp
        with_reducible rfl
      simp only [Act.put, List.setIfInBounds_toArray, List.set_cons_zero, List.set_cons_succ]
    refine wpPlan_nil (hT.out _ _ ?_); clear hT T
    intro G vw15 hg hf
    simp only [puts, Act.put, List.setIfInBounds_toArray, List.set_cons_zero, List.set_cons_succ, List.drop_succ_cons, List.drop_zero, ↓reduceIte, Nat.reduceEqDiff]
    clear lx2 lx3 lx5 lx7 lx10 lx11
    have HG := Lib.hid (hg)
    clear hg
    have bx2 := BX2.out.gr HG.out; clear BX2
    have bx3 := BX3.out.gr HG.out; clear BX3
    have bx5 := BX5.out.gr HG.out; clear BX5
    have bx7 := BX7.out.gr HG.out; clear BX7
    have bx10 := BX10.out.gr HG.out; clear BX10
    have bx11 := BX11.out.gr HG.out; clear BX11
    have r0 := Gr.refl vw15
    have BX2 := Lib.hid bx2; clear bx2
    have BX3 := Lib.hid bx3; clear bx3
    have BX5 := Lib.hid bx5; clear bx5
    have BX7 := Lib.hid bx7; clear bx7
    have BX10 := Lib.hid bx10; clear bx10
    have BX11 := Lib.hid bx11; clear bx11
    go_wp2
    refine hK.out _ _ ?_; clear hK K
    show Code.wp _ _ _ _ _
    clear r0
    refine forgetW (fun w2 => Below w.heap.size w w2) (HB.out.trans (HG.out.mono HB.out.size)) ?_
    clear HB HG BX2 BX3 BX5 BX7 BX10 BX11
    rintro Wx17 HB
    replace HB := Lib.hid HB
    refine wp_ret ?_
    try simp only [Exit.then, Exit.inBlock]
    have r0 := Gr.refl Wx17
    exact bodyPost_ret (v := .bool true) (by simp [results, Try.results6, go_sem]; rfl) rfl ⟨rfl, HB.out⟩
  · -- region 11
    have lx2 := bx2.cells
    have lx3 := bx3.cells
    have BX2 := Lib.hid bx2
    have BX3 := Lib.hid bx3
    have BX5 := Lib.hid bx5
    have BX7 := Lib.hid bx7
    have BX10 := Lib.hid bx10
    have BX11 := Lib.hid bx11
    clear bx2 bx3 bx5 bx7 bx10 bx11
    refine wp_seq_k fun K hK => ?_
    replace hK := Lib.hid hK
    refine wp_region_seqplan 3 [(true, 0), (true, 1), (true, 2)] (by rfl) (by simp) (fun T hT => ?_)
    iterate 2
      refine wpPlan_takeL (v := ?_) rfl (by rfl) (fun w' hw => ?_) ?_
      rotate_left
      · go_simp
        with_reducible rfl
      simp only [Act.put, List.setIfInBounds_toArray, List.set_cons_zero, List.set_cons_succ]
    refine wpPlan_callL rfl (by rfl) Try.call27 (fun w' hw => pless_any (a1) (a2) (b1) (b2) false _ (hl1.out) (by first | omega | exact Nat.le_trans (wl_small (by decide)) (by decide)) (by first | omega | exact Nat.le_trans (wl_small (by decide)) (by decide)) (by first | omega | exact Nat.le_trans (wl_small (by decide)) (by decide)) (by first | omega | exact Nat.le_trans (wl_small (by decide)) (by decide))) (by rfl) ?_
    simp only [Act.put, List.setIfInBounds_toArray, List.set_cons_zero, List.set_cons_succ]
    refine wpPlan_nil (hT.out _ _ ?_); clear hT T
    intro vw11 hg
    simp only [puts, Act.put, List.setIfInBounds_toArray, List.set_cons_zero, List.set_cons_succ, List.drop_succ_cons, List.drop_zero, ↓reduceIte, Nat.reduceEqDiff]
    clear lx2 lx3
    have HG := Lib.hid (hg)
    clear hg
    have bx2 := BX2.out.gr HG.out; clear BX2
    have bx3 := BX3.out.gr HG.out; clear BX3
    have bx5 := BX5.out.gr HG.out; clear BX5
    have bx7 := BX7.out.gr HG.out; clear BX7
    have bx10 := BX10.out.gr HG.out; clear BX10
    have bx11 := BX11.out.gr HG.out; clear BX11
    have r0 := Gr.refl vw11
    have BX2 := Lib.hid bx2; clear bx2
    have BX3 := Lib.hid bx3; clear bx3
    have BX5 := Lib.hid bx5; clear bx5
    have BX7 := Lib.hid bx7; clear bx7
    have BX10 := Lib.hid bx10; clear bx10
    have BX11 := Lib.hid bx11; clear bx11
    go_wp2
    refine hK.out _ _ ?_; clear hK K
    show Code.wp _ _ _ _ _
    clear r0
    refine forgetW (fun w2 => Bx w2 gx2 38 #[.int .u64 ((lo (Int.natAbs ((a1).num)) : Nat) : Int), .string (bg (Int.natAbs ((a1).num))), .bool (decide (((a1).num) < 0)), .int .u64 ((lo ((a1).den - 1) : Nat) : Int), .string (bg ((a1).den - 1)), .int .u64 ((lo (Int.natAbs ((a2).num)) : Nat) : Int), .string (bg (Int.natAbs ((a2).num))), .bool (decide (((a2).num) < 0)), .int .u64 ((lo ((a2).den - 1) : Nat) : Int), .string (bg ((a2).den - 1))] ∧ Bx w2 gx3 38 #[.int .u64 ((lo (Int.natAbs ((b1).num)) : Nat) : Int), .string (bg (Int.natAbs ((b1).num))), .bool (decide (((b1).num) < 0)), .int .u64 ((lo ((b1).den - 1) : Nat) : Int), .string (bg ((b1).den - 1)), .int .u64 ((lo (Int.natAbs ((b2).num)) : Nat) : Int), .string (bg (Int.natAbs ((b2).num))), .bool (decide (((b2).num) < 0)), .int .u64 ((lo ((b2).den - 1) : Nat) : Int), .string (bg ((b2).den - 1))] ∧ Bx w2 gx5 36 #[.int .u64 ((lo (Int.natAbs ((u7).num)) : Nat) : Int), .string (bg (Int.natAbs ((u7).num))), .bool (decide (((u7).num) < 0)), .int .u64 ((lo ((u7).den - 1) : Nat) : Int), .string (bg ((u7).den - 1))] ∧ Bx w2 gx7 36 #[.int .u64 ((lo (Int.natAbs ((u7).num)) : Nat) : Int), .string (bg (Int.natAbs ((u7).num))), .bool (decide (((u7).num) < 0)), .int .u64 ((lo ((u7).den - 1) : Nat) : Int), .string (bg ((u7).den - 1))] ∧ Bx w2 gx10 36 #[.int .u64 ((lo (Int.natAbs ((u17).num)) : Nat) : Int), .string (bg (Int.natAbs ((u17).num))), .bool (decide (((u17).num) < 0)), .int .u64 ((lo ((u17).den - 1) : Nat) : Int), .string (bg ((u17).den - 1))] ∧ Bx w2 gx11 38 #[.int .u64 ((lo (Int.natAbs ((u18).num)) : Nat) : Int), .string (bg (Int.natAbs ((u18).num))), .bool (decide (((u18).num) < 0)), .int .u64 ((lo ((u18).den - 1) : Nat) : Int), .string (bg ((u18).den - 1)), .int .u64 ((lo (Int.natAbs ((u19).num)) : Nat) : Int), .string (bg (Int.natAbs ((u19).num))), .bool (decide (((u19).num) < 0)), .int .u64 ((lo ((u19).den - 1) : Nat) : Int), .string (bg ((u19).den - 1))] ∧ Below w.heap.size w w2) ⟨BX2.out, BX3.out, BX5.out, BX7.out, BX10.out, BX11.out, HB.out.trans (HG.out.mono HB.out.size)⟩ ?_
    clear HB HG BX2 BX3 BX5 BX7 BX10 BX11
    rintro Wx11 ⟨bx2, bx3, bx5, bx7, bx10, bx11, HB⟩
    replace HB := Lib.hid HB
    refine wp_cond_false (by rfl) ?_
    refine wp_skip ?_
    show Code.wp _ _ _ _ _
    refine wp_seq ?_
    -- region 13
    have lx2 := bx2.cells
    have lx3 := bx3.cells
    have BX2 := Lib.hid bx2
    have BX3 := Lib.hid bx3
    have BX5 := Lib.hid bx5
    have BX7 := Lib.hid bx7
    have BX10 := Lib.hid bx10
    have BX11 := Lib.hid bx11
    clear bx2 bx3 bx5 bx7 bx10 bx11
    refine wp_seq_k fun K hK => ?_
    replace hK := Lib.hid hK
    refine wp_region_seqplan 3 [(true, 0), (true, 1), (true, 2)] (by rfl) (by simp) (fun T hT => ?_)
    iterate 2
      refine wpPlan_takeL (v := ?_) rfl (by rfl) (fun w' hw => ?_) ?_
      rotate_left
      · go_simp
        with_reducible rfl
      simp only [Act.put, List.setIfInBounds_toArray, List.set_cons_zero, List.set_cons_succ]
    refine wpPlan_callL rfl (by rfl) Try.call27 (fun w' hw => pless_any (b1) (b2) (a1) (a2) true _ (hl2.out) (by first | omega | exact Nat.le_trans (wl_small (by decide)) (by decide)) (by first | omega | exact Nat.le_trans (wl_small (by decide)) (by decide)) (by first | omega | exact Nat.le_trans (wl_small (by decide)) (by decide)) (by first | omega | exact Nat.le_trans (wl_small (by decide)) (by decide))) (by rfl) ?_
    simp only [Act.put, List.setIfInBounds_toArray, List.set_cons_zero, List.set_cons_succ]
    refine wpPlan_nil (hT.out _ _ ?_); clear hT T
    intro vw12 hg
    simp only [puts, Act.put, List.setIfInBounds_toArray, List.set_cons_zero, List.set_cons_succ, List.drop_succ_cons, List.drop_zero, ↓reduceIte, Nat.reduceEqDiff]
    clear lx2 lx3
    have HG := Lib.hid (hg)
    clear hg
    have bx2 := BX2.out.gr HG.out; clear BX2
    have bx3 := BX3.out.gr HG.out; clear BX3
    have bx5 := BX5.out.gr HG.out; clear BX5
    have bx7 := BX7.out.gr HG.out; clear BX7
    have bx10 := BX10.out.gr HG.out; clear BX10
    have bx11 := BX11.out.gr HG.out; clear BX11
    have r0 := Gr.refl vw12
    have BX2 := Lib.hid bx2; clear bx2
    have BX3 := Lib.hid bx3; clear bx3
    have BX5 := Lib.hid bx5; clear bx5
    have BX7 := Lib.hid bx7; clear bx7
    have BX10 := Lib.hid bx10; clear bx10
    have BX11 := Lib.hid bx11; clear bx11
    go_wp2
    refine hK.out _ _ ?_; clear hK K
    show Code.wp _ _ _ _ _
    clear r0
    refine forgetW (fun w2 => Bx w2 gx2 38 #[.int .u64 ((lo (Int.natAbs ((a1).num)) : Nat) : Int), .string (bg (Int.natAbs ((a1).num))), .bool (decide (((a1).num) < 0)), .int .u64 ((lo ((a1).den - 1) : Nat) : Int), .string (bg ((a1).den - 1)), .int .u64 ((lo (Int.natAbs ((a2).num)) : Nat) : Int), .string (bg (Int.natAbs ((a2).num))), .bool (decide (((a2).num) < 0)), .int .u64 ((lo ((a2).den - 1) : Nat) : Int), .string (bg ((a2).den - 1))] ∧ Bx w2 gx3 38 #[.int .u64 ((lo (Int.natAbs ((b1).num)) : Nat) : Int), .string (bg (Int.natAbs ((b1).num))), .bool (decide (((b1).num) < 0)), .int .u64 ((lo ((b1).den - 1) : Nat) : Int), .string (bg ((b1).den - 1)), .int .u64 ((lo (Int.natAbs ((b2).num)) : Nat) : Int), .string (bg (Int.natAbs ((b2).num))), .bool (decide (((b2).num) < 0)), .int .u64 ((lo ((b2).den - 1) : Nat) : Int), .string (bg ((b2).den - 1))] ∧ Bx w2 gx5 36 #[.int .u64 ((lo (Int.natAbs ((u7).num)) : Nat) : Int), .string (bg (Int.natAbs ((u7).num))), .bool (decide (((u7).num) < 0)), .int .u64 ((lo ((u7).den - 1) : Nat) : Int), .string (bg ((u7).den - 1))] ∧ Bx w2 gx7 36 #[.int .u64 ((lo (Int.natAbs ((u7).num)) : Nat) : Int), .string (bg (Int.natAbs ((u7).num))), .bool (decide (((u7).num) < 0)), .int .u64 ((lo ((u7).den - 1) : Nat) : Int), .string (bg ((u7).den - 1))] ∧ Bx w2 gx10 36 #[.int .u64 ((lo (Int.natAbs ((u17).num)) : Nat) : Int), .string (bg (Int.natAbs ((u17).num))), .bool (decide (((u17).num) < 0)), .int .u64 ((lo ((u17).den - 1) : Nat) : Int), .string (bg ((u17).den - 1))] ∧ Bx w2 gx11 38 #[.int .u64 ((lo (Int.natAbs ((u18).num)) : Nat) : Int), .string (bg (Int.natAbs ((u18).num))), .bool (decide (((u18).num) < 0)), .int .u64 ((lo ((u18).den - 1) : Nat) : Int), .string (bg ((u18).den - 1)), .int .u64 ((lo (Int.natAbs ((u19).num)) : Nat) : Int), .string (bg (Int.natAbs ((u19).num))), .bool (decide (((u19).num) < 0)), .int .u64 ((lo ((u19).den - 1) : Nat) : Int), .string (bg ((u19).den - 1))] ∧ Below w.heap.size w w2) ⟨BX2.out, BX3.out, BX5.out, BX7.out, BX10.out, BX11.out, HB.out.trans (HG.out.mono HB.out.size)⟩ ?_
    clear HB HG BX2 BX3 BX5 BX7 BX10 BX11
    rintro Wx13 ⟨bx2, bx3, bx5, bx7, bx10, bx11, HB⟩
    replace HB := Lib.hid HB
    refine wp_cond_true (by rfl) ?_
    -- region 14
    have BX2 := Lib.hid bx2
    have BX3 := Lib.hid bx3
    have BX5 := Lib.hid bx5
    have BX7 := Lib.hid bx7
    have BX10 := Lib.hid bx10
    have BX11 := Lib.hid bx11
    clear bx2 bx3 bx5 bx7 bx10 bx11
    refine wp_last_k fun K hK => ?_
    replace hK := Lib.hid hK
    refine wp_region_seqplan 3 [(true, 0), (true, 1), (true, 2)] (by rfl) (by simp) (fun T hT => ?_)
    iterate 3
      refine wpPlan_takeL (v := ?_) rfl (by rfl) (fun w' hw => ?_) ?_
      rotate_left
      · go_simp
        with_reducible rfl
      simp only [Act.put, List.setIfInBounds_toArray, List.set_cons_zero, List.set_cons_succ]
    refine wpPlan_nil (hT.out _ _ ?_); clear hT T
    intro vw13 hg
    simp only [puts, Act.put, List.setIfInBounds_toArray, List.set_cons_zero, List.set_cons_succ, List.drop_succ_cons, List.drop_zero, ↓reduceIte, Nat.reduceEqDiff]
    have HG := Lib.hid (hg)
    clear hg
    have bx2 := BX2.out.gr HG.out; clear BX2
    have bx3 := BX3.out.gr HG.out; clear BX3
    have bx5 := BX5.out.gr HG.out; clear BX5
    have bx7 := BX7.out.gr HG.out; clear BX7
    have bx10 := BX10.out.gr HG.out; clear BX10
    have bx11 := BX11.out.gr HG.out; clear BX11
    have r0 := Gr.refl vw13
    have BX2 := Lib.hid bx2; clear bx2
    have BX3 := Lib.hid bx3; clear bx3
    have BX5 := Lib.hid bx5; clear bx5
    have BX7 := Lib.hid bx7; clear bx7
    have BX10 := Lib.hid bx10; clear bx10
    have BX11 := Lib.hid bx11; clear bx11
    go_wp2
    refine hK.out _ _ ?_; clear hK K
    show Code.wp _ _ _ _ _
    clear r0
    refine forgetW (fun w2 => Bx w2 gx2 38 #[.int .u64 ((lo (Int.natAbs ((a1).num)) : Nat) : Int), .string (bg (Int.natAbs ((a1).num))), .bool (decide (((a1).num) < 0)), .int .u64 ((lo ((a1).den - 1) : Nat) : Int), .string (bg ((a1).den - 1)), .int .u64 ((lo (Int.natAbs ((a2).num)) : Nat) : Int), .string (bg (Int.natAbs ((a2).num))), .bool (decide (((a2).num) < 0)), .int .u64 ((lo ((a2).den - 1) : Nat) : Int), .string (bg ((a2).den - 1))] ∧ Bx w2 gx3 38 #[.int .u64 ((lo (Int.natAbs ((b1).num)) : Nat) : Int), .string (bg (Int.natAbs ((b1).num))), .bool (decide (((b1).num) < 0)), .int .u64 ((lo ((b1).den - 1) : Nat) : Int), .string (bg ((b1).den - 1)), .int .u64 ((lo (Int.natAbs ((b2).num)) : Nat) : Int), .string (bg (Int.natAbs ((b2).num))), .bool (decide (((b2).num) < 0)), .int .u64 ((lo ((b2).den - 1) : Nat) : Int), .string (bg ((b2).den - 1))] ∧ Bx w2 gx5 36 #[.int .u64 ((lo (Int.natAbs ((u7).num)) : Nat) : Int), .string (bg (Int.natAbs ((u7).num))), .bool (decide (((u7).num) < 0)), .int .u64 ((lo ((u7).den - 1) : Nat) : Int), .string (bg ((u7).den - 1))] ∧ Bx w2 gx7 36 #[.int .u64 ((lo (Int.natAbs ((u7).num)) : Nat) : Int), .string (bg (Int.natAbs ((u7).num))), .bool (decide (((u7).num) < 0)), .int .u64 ((lo ((u7).den - 1) : Nat) : Int), .string (bg ((u7).den - 1))] ∧ Bx w2 gx10 36 #[.int .u64 ((lo (Int.natAbs ((u17).num)) : Nat) : Int), .string (bg (Int.natAbs ((u17).num))), .bool (decide (((u17).num) < 0)), .int .u64 ((lo ((u17).den - 1) : Nat) : Int), .string (bg ((u17).den - 1))] ∧ Bx w2 gx11 38 #[.int .u64 ((lo (Int.natAbs ((u18).num)) : Nat) : Int), .string (bg (Int.natAbs ((u18).num))), .bool (decide (((u18).num) < 0)), .int .u64 ((lo ((u18).den - 1) : Nat) : Int), .string (bg ((u18).den - 1)), .int .u64 ((lo (Int.natAbs ((u19).num)) : Nat) : Int), .string (bg (Int.natAbs ((u19).num))), .bool (decide (((u19).num) < 0)), .int .u64 ((lo ((u19).den - 1) : Nat) : Int), .string (bg ((u19).den - 1))] ∧ Below w.heap.size w w2) ⟨BX2.out, BX3.out, BX5.out, BX7.out, BX10.out, BX11.out, HB.out.trans (HG.out.mono HB.out.size)⟩ ?_
    clear HB HG BX2 BX3 BX5 BX7 BX10 BX11
    rintro Wx14 ⟨bx2, bx3, bx5, bx7, bx10, bx11, HB⟩
    replace HB := Lib.hid HB
    refine wp_seq ?_
    -- region 15
    have lx2 := bx2.cells
    have lx3 := bx3.cells
    have BX2 := Lib.hid bx2
    have BX3 := Lib.hid bx3
    have BX5 := Lib.hid bx5
    have BX7 := Lib.hid bx7
    have BX10 := Lib.hid bx10
    have BX11 := Lib.hid bx11
    clear bx2 bx3 bx5 bx7 bx10 bx11
    refine wp_seq_k fun K hK => ?_
    replace hK := Lib.hid hK
    refine wp_region_seqplan 3 [(true, 0), (true, 1), (true, 2)] (by rfl) (by simp) (fun T hT => ?_)
    iterate 3
      refine wpPlan_takeL (v := ?_) rfl (by rfl) (fun w' hw => ?_) ?_
      rotate_left
      · go_simp
        with_reducible rfl
      simp only [Act.put, List.setIfInBounds_toArray, List.set_cons_zero, List.set_cons_succ]
    refine wpPlan_nil (hT.out _ _ ?_); clear hT T
    intro vw14 hg
    simp only [puts, Act.put, List.setIfInBounds_toArray, List.set_cons_zero, List.set_cons_succ, List.drop_succ_cons, List.drop_zero, ↓reduceIte, Nat.reduceEqDiff]
    clear lx2 lx3
    have HG := Lib.hid (hg)
    clear hg
    have bx2 := BX2.out.gr HG.out; clear BX2
    have bx3 := BX3.out.gr HG.out; clear BX3
    have bx5 := BX5.out.gr HG.out; clear BX5
    have bx7 := BX7.out.gr HG.out; clear BX7
    have bx10 := BX10.out.gr HG.out; clear BX10
    have bx11 := BX11.out.gr HG.out; clear BX11
    have r0 := Gr.refl vw14
    have BX2 := Lib.hid bx2; clear bx2
    have BX3 := Lib.hid bx3; clear bx3
    have BX5 := Lib.hid bx5; clear bx5
    have BX7 := Lib.hid bx7; clear bx7
    have BX10 := Lib.hid bx10; clear bx10
    have BX11 := Lib.hid bx11; clear bx11
    go_wp2
    refine hK.out _ _ ?_; clear hK K
    show Code.wp _ _ _ _ _
    clear r0
    refine forgetW (fun w2 => Bx w2 gx2 38 #[.int .u64 ((lo (Int.natAbs ((a1).num)) : Nat) : Int), .string (bg (Int.natAbs ((a1).num))), .bool (decide (((a1).num) < 0)), .int .u64 ((lo ((a1).den - 1) : Nat) : Int), .string (bg ((a1).den - 1)), .int .u64 ((lo (Int.natAbs ((a2).num)) : Nat) : Int), .string (bg (Int.natAbs ((a2).num))), .bool (decide (((a2).num) < 0)), .int .u64 ((lo ((a2).den - 1) : Nat) : Int), .string (bg ((a2).den - 1))] ∧ Bx w2 gx3 38 #[.int .u64 ((lo (Int.natAbs ((b1).num)) : Nat) : Int), .string (bg (Int.natAbs ((b1).num))), .bool (decide (((b1).num) < 0)), .int .u64 ((lo ((b1).den - 1) : Nat) : Int), .string (bg ((b1).den - 1)), .int .u64 ((lo (Int.natAbs ((b2).num)) : Nat) : Int), .string (bg (Int.natAbs ((b2).num))), .bool (decide (((b2).num) < 0)), .int .u64 ((lo ((b2).den - 1) : Nat) : Int), .string (bg ((b2).den - 1))] ∧ Bx w2 gx5 36 #[.int .u64 ((lo (Int.natAbs ((u7).num)) : Nat) : Int), .string (bg (Int.natAbs ((u7).num))), .bool (decide (((u7).num) < 0)), .int .u64 ((lo ((u7).den - 1) : Nat) : Int), .string (bg ((u7).den - 1))] ∧ Bx w2 gx7 36 #[.int .u64 ((lo (Int.natAbs ((u7).num)) : Nat) : Int), .string (bg (Int.natAbs ((u7).num))), .bool (decide (((u7).num) < 0)), .int .u64 ((lo ((u7).den - 1) : Nat) : Int), .string (bg ((u7).den - 1))] ∧ Bx w2 gx10 36 #[.int .u64 ((lo (Int.natAbs ((u17).num)) : Nat) : Int), .string (bg (Int.natAbs ((u17).num))), .bool (decide (((u17).num) < 0)), .int .u64 ((lo ((u17).den - 1) : Nat) : Int), .string (bg ((u17).den - 1))] ∧ Bx w2 gx11 38 #[.int .u64 ((lo (Int.natAbs ((u18).num)) : Nat) : Int), .string (bg (Int.natAbs ((u18).num))), .bool (decide (((u18).num) < 0)), .int .u64 ((lo ((u18).den - 1) : Nat) : Int), .string (bg ((u18).den - 1)), .int .u64 ((lo (Int.natAbs ((u19).num)) : Nat) : Int), .string (bg (Int.natAbs ((u19).num))), .bool (decide (((u19).num) < 0)), .int .u64 ((lo ((u19).den - 1) : Nat) : Int), .string (bg ((u19).den - 1))] ∧ Below w.heap.size w w2) ⟨BX2.out, BX3.out, BX5.out, BX7.out, BX10.out, BX11.out, HB.out.trans (HG.out.mono HB.out.size)⟩ ?_
    clear HB HG BX2 BX3 BX5 BX7 BX10 BX11
    rintro Wx15 ⟨bx2, bx3, bx5, bx7, bx10, bx11, HB⟩
    replace HB := Lib.hid HB
    refine wp_cond_false (by rfl) ?_
    refine wp_skip ?_
    show Code.wp _ _ _ _ _
    -- region 17
    obtain ⟨u20, HZ20⟩ : ∃ z, Hid ((a1) * (a1) + (a2) * (a2) = z) := ⟨_, Lib.hid rfl⟩
    have su20 : sz u20 ≤ 17 := by rw [← HZ20.out]; have := sz_dot (a1) (a2) (a1) (a2); omega
    obtain ⟨u21, HZ21⟩ : ∃ z, Hid ((b1) * (b1) + (b2) * (b2) = z) := ⟨_, Lib.hid rfl⟩
    have su21 : sz u21 ≤ 17 := by rw [← HZ21.out]; have := sz_dot (b1) (b2) (b1) (b2); omega
    have HZ22 : Hid ((u20) * (u21) = u17) := Lib.hid (by simp only [← HZ21.out, ← HZ20.out, ← HZ19.out, ← HZ18.out, ← HZ17.out, ← HZ16.out, ← HZ15.out, ← HZ14.out, ← HZ13.out, ← HZ11.out, ← HZ10.out, ← HZ9.out, ← HZ8.out, ← HZ7.out, ← HZ6.out, ← HZ5.out]; exact laws_all _ _ _ _)
    obtain ⟨u23, HZ23⟩ : ∃ z, Hid (((a1) - (u18)) * ((a1) - (u18)) + ((a2) - (u19)) * ((a2) - (u19)) = z) := ⟨_, Lib.hid rfl⟩
    have su23 : sz u23 ≤ 73 := by rw [← HZ23.out]; have := sz_square (u18) (u19) (a1) (a2); omega
    have HZ24 : Hid (((b1) - (u18)) * ((b1) - (u18)) + ((b2) - (u19)) * ((b2) - (u19)) = u23) := Lib.hid (by simp only [← HZ23.out, ← HZ21.out, ← HZ20.out, ← HZ19.out, ← HZ18.out, ← HZ17.out, ← HZ16.out, ← HZ15.out, ← HZ14.out, ← HZ13.out, ← HZ11.out, ← HZ10.out, ← HZ9.out, ← HZ8.out, ← HZ7.out, ← HZ6.out, ← HZ5.out]; exact laws_mid _ _ _ _)
    obtain ⟨u25, HZ25⟩ : ∃ z, Hid ((a1) + (b1) = z) := ⟨_, Lib.hid rfl⟩
    have su25 : sz u25 ≤ 9 := by rw [← HZ25.out]; have := sz_add (a1) (b1); omega
    obtain ⟨u26, HZ26⟩ : ∃ z, Hid ((a2) + (b2) = z) := ⟨_, Lib.hid rfl⟩
    have su26 : sz u26 ≤ 9 := by rw [← HZ26.out]; have := sz_add (a2) (b2); omega
    have HZ27 : Hid ((u25) - (b1) = a1) := Lib.hid (by simp only [← HZ26.out, ← HZ25.out, ← HZ23.out, ← HZ21.out, ← HZ20.out, ← HZ19.out, ← HZ18.out, ← HZ17.out, ← HZ16.out, ← HZ15.out, ← HZ14.out, ← HZ13.out, ← HZ11.out, ← HZ10.out, ← HZ9.out, ← HZ8.out, ← HZ7.out, ← HZ6.out, ← HZ5.out]; grind)
    have HZ28 : Hid ((u26) - (b2) = a2) := Lib.hid (by simp only [← HZ26.out, ← HZ25.out, ← HZ23.out, ← HZ21.out, ← HZ20.out, ← HZ19.out, ← HZ18.out, ← HZ17.out, ← HZ16.out, ← HZ15.out, ← HZ14.out, ← HZ13.out, ← HZ11.out, ← HZ10.out, ← HZ9.out, ← HZ8.out, ← HZ7.out, ← HZ6.out, ← HZ5.out]; grind)
    have lx2 := bx2.cells
    have lx3 := bx3.cells
    have lx5 := bx5.cells
    have lx7 := bx7.cells
    have lx10 := bx10.cells
    have lx11 := bx11.cells
    have BX2 := Lib.hid bx2
    have BX3 := Lib.hid bx3
    have BX5 := Lib.hid bx5
    have BX7 := Lib.hid bx7
    have BX10 := Lib.hid bx10
    have BX11 := Lib.hid bx11
    clear bx2 bx3 bx5 bx7 bx10 bx11
    refine wp_seq_k fun K hK => ?_
    replace hK := Lib.hid hK
    refine wp_region_plan 39 [] [] (fun _ => 0) (fun _ => .cells #[] 0) [(true, 0), (true, 1), (true, 2), (true, 3), (true, 4), (true, 5), (true, 6), (true, 8), (true, 9), (true, 7), (true, 10), (true, 11), (true, 12), (true, 13), (true, 14), (true, 15), (true, 16), (true, 18), (true, 19), (true, 17), (true, 20), (true, 21), (true, 22), (true, 23), (true, 24), (true, 25), (true, 26), (true, 27), (true, 28), (true, 29), (true, 31), (true, 33), (true, 30), (true, 32), (true, 34), (true, 35), (true, 36), (true, 37), (true, 38)] (by kernel_rfl) (by kernel_rfl) (fun i hi => by cases hi) (fun i hi => by cases hi) (fun _ _ _ _ _ h => h) (fun T hT => ?_)
    iterate 9
      refine wpPlan_takeL (v := ?_) rfl (by rfl) (fun w' hw => ?_) ?_
      rotate_left
      · go_simp
        with_reducible rfl
      simp only [Act.put, List.setIfInBounds_toArray, List.set_cons_zero, List.set_cons_succ]
    refine wpPlan_callL rfl (by rfl) Try.call26 (fun w' hw => pdot_any (a1) (a2) (a1) (a2) (u20) _ HZ20.out (by first | omega | exact Nat.le_trans (wl_small (by decide)) (by decide)) (by first | omega | exact Nat.le_trans (wl_small (by decide)) (by decide)) (by first | omega | exact Nat.le_trans (wl_small (by decide)) (by decide)) (by first | omega | exact Nat.le_trans (wl_small (by decide)) (by decide))) (by rfl) ?_
    simp only [Act.put, List.setIfInBounds_toArray, List.set_cons_zero, List.set_cons_succ]
    refine wpPlan_callL rfl (by rfl) Try.call26 (fun w' hw => pdot_any (b1) (b2) (b1) (b2) (u21) _ HZ21.out (by first | omega | exact Nat.le_trans (wl_small (by decide)) (by decide)) (by first | omega | exact Nat.le_trans (wl_small (by decide)) (by decide)) (by first | omega | exact Nat.le_trans (wl_small (by decide)) (by decide)) (by first | omega | exact Nat.le_trans (wl_small (by decide)) (by decide))) (by rfl) ?_
    simp only [Act.put, List.setIfInBounds_toArray, List.set_cons_zero, List.set_cons_succ]
    refine wpPlan_callL rfl (by rfl) Try.call10 (fun w' hw => fmul_any (u20) (u21) (u17) _ HZ22.out (by first | omega | exact Nat.le_trans (wl_small (by decide)) (by decide)) (by first | omega | exact Nat.le_trans (wl_small (by decide)) (by decide))) (by rfl) ?_
    simp only [Act.put, List.setIfInBounds_toArray, List.set_cons_zero, List.set_cons_succ]
    iterate 7
      refine wpPlan_takeL (v := ?_) rfl (by rfl) (fun w' hw => ?_) ?_
      rotate_left
      · go_simp
        with_reducible rfl
      simp only [Act.put, List.setIfInBounds_toArray, List.set_cons_zero, List.set_cons_succ]
    refine wpPlan_callL rfl (by rfl) Try.call24 (fun w' hw => psquare_any (u18) (u19) (a1) (a2) (u23) _ HZ23.out (by first | omega | exact Nat.le_trans (wl_small (by decide)) (by decide)) (by first | omega | exact Nat.le_trans (wl_small (by decide)) (by decide)) (by first | omega | exact Nat.le_trans (wl_small (by decide)) (by decide)) (by first | omega | exact Nat.le_trans (wl_small (by decide)) (by decide))) (by rfl) ?_
    simp only [Act.put, List.setIfInBounds_toArray, List.set_cons_zero, List.set_cons_succ]
    refine wpPlan_callL rfl (by rfl) Try.call24 (fun w' hw => psquare_any (u18) (u19) (b1) (b2) (u23) _ HZ24.out (by first | omega | exact Nat.le_trans (wl_small (by decide)) (by decide)) (by first | omega | exact Nat.le_trans (wl_small (by decide)) (by decide)) (by first | omega | exact Nat.le_trans (wl_small (by decide)) (by decide)) (by first | omega | exact Nat.le_trans (wl_small (by decide)) (by decide))) (by rfl) ?_
    simp only [Act.put, List.setIfInBounds_toArray, List.set_cons_zero, List.set_cons_succ]
    iterate 11
      refine wpPlan_takeL (v := ?_) rfl (by rfl) (fun w' hw => ?_) ?_
      rotate_left
      · go_simp
        with_reducible rfl
      simp only [Act.put, List.setIfInBounds_toArray, List.set_cons_zero, List.set_cons_succ]
    refine wpPlan_callL rfl (by rfl) Try.call14 (fun w' hw => padd_any (a1) (a2) (b1) (b2) (u25) (u26) _ HZ25.out HZ26.out (by first | omega | exact Nat.le_trans (wl_small (by decide)) (by decide)) (by first | omega | exact Nat.le_trans (wl_small (by decide)) (by decide)) (by first | omega | exact Nat.le_trans (wl_small (by decide)) (by decide)) (by first | omega | exact Nat.le_trans (wl_small (by decide)) (by decide))) (by rfl) ?_
    simp only [Act.put, List.setIfInBounds_toArray, List.set_cons_zero, List.set_cons_succ]
    refine wpPlan_callL rfl (by rfl) Try.call8 (fun w' hw => psub_any (u25) (u26) (b1) (b2) (a1) (a2) _ HZ27.out HZ28.out (by first | omega | exact Nat.le_trans (wl_small (by decide)) (by decide)) (by first | omega | exact Nat.le_trans (wl_small (by decide)) (by decide)) (by first | omega | exact Nat.le_trans (wl_small (by decide)) (by decide)) (by first | omega | exact Nat.le_trans (wl_small (by decide)) (by decide))) (by rfl) ?_
    simp only [Act.put, List.setIfInBounds_toArray, List.set_cons_zero, List.set_cons_succ]
    iterate 3
      refine wpPlan_takeL (v := ?_) rfl (by rfl) (fun w' hw => ?_) ?_
      rotate_left
      · go_simp
        with_reducible rfl
      simp only [Act.put, List.setIfInBounds_toArray, List.set_cons_zero, List.set_cons_succ]
    refine wpPlan_callL rfl (by rfl) Try.call16 (fun w' hw => lives_any _) (by rfl) ?_
    simp only [Act.put, List.setIfInBounds_toArray, List.set_cons_zero, List.set_cons_succ]
    iterate 1
      refine wpPlan_takeL (v := ?_) rfl (by rfl) (fun w' hw => ?_) ?_
      rotate_left
      · go_simp
        with_reducible rfl
      simp only [Act.put, List.setIfInBounds_toArray, List.set_cons_zero, List.set_cons_succ]
    refine wpPlan_nil (hT.out _ _ ?_); clear hT T
    intro G vw15 hg hf
    simp only [puts, Act.put, List.setIfInBounds_toArray, List.set_cons_zero, List.set_cons_succ, List.drop_succ_cons, List.drop_zero, ↓reduceIte, Nat.reduceEqDiff]
    clear lx2 lx3 lx5 lx7 lx10 lx11
    have HG := Lib.hid (hg)
    clear hg
    have bx2 := BX2.out.gr HG.out; clear BX2
    have bx3 := BX3.out.gr HG.out; clear BX3
    have bx5 := BX5.out.gr HG.out; clear BX5
    have bx7 := BX7.out.gr HG.out; clear BX7
    have bx10 := BX10.out.gr HG.out; clear BX10
    have bx11 := BX11.out.gr HG.out; clear BX11
    have r0 := Gr.refl vw15
    have BX2 := Lib.hid bx2; clear bx2
    have BX3 := Lib.hid bx3; clear bx3
    have BX5 := Lib.hid bx5; clear bx5
    have BX7 := Lib.hid bx7; clear bx7
    have BX10 := Lib.hid bx10; clear bx10
    have BX11 := Lib.hid bx11; clear bx11
    go_wp2
    refine hK.out _ _ ?_; clear hK K
    show Code.wp _ _ _ _ _
    clear r0
    refine forgetW (fun w2 => Below w.heap.size w w2) (HB.out.trans (HG.out.mono HB.out.size)) ?_
    clear HB HG BX2 BX3 BX5 BX7 BX10 BX11
    rintro Wx17 HB
    replace HB := Lib.hid HB
    refine wp_ret ?_
    try simp only [Exit.then, Exit.inBlock]
    have r0 := Gr.refl Wx17
    exact bodyPost_ret (v := .bool true) (by simp [results, Try.results6, go_sem]; rfl) rfl ⟨rfl, HB.out⟩
  · -- region 11
    have lx2 := bx2.cells
    have lx3 := bx3.cells
    have BX2 := Lib.hid bx2
    have BX3 := Lib.hid bx3
    have BX5 := Lib.hid bx5
    have BX7 := Lib.hid bx7
    have BX10 := Lib.hid bx10
    have BX11 := Lib.hid bx11
    clear bx2 bx3 bx5 bx7 bx10 bx11
    refine wp_seq_k fun K hK => ?_
    replace hK := Lib.hid hK
    refine wp_region_seqplan 3 [(true, 0), (true, 1), (true, 2)] (by rfl) (by simp) (fun T hT => ?_)
    iterate 2
      refine wpPlan_takeL (v := ?_) rfl (by rfl) (fun w' hw => ?_) ?_
      rotate_left
      · go_simp
        with_reducible rfl
      simp only [Act.put, List.setIfInBounds_toArray, List.set_cons_zero, List.set_cons_succ]
    refine wpPlan_callL rfl (by rfl) Try.call27 (fun w' hw => pless_any (a1) (a2) (b1) (b2) false _ (hl1.out) (by first | omega | exact Nat.le_trans (wl_small (by decide)) (by decide)) (by first | omega | exact Nat.le_trans (wl_small (by decide)) (by decide)) (by first | omega | exact Nat.le_trans (wl_small (by decide)) (by decide)) (by first | omega | exact Nat.le_trans (wl_small (by decide)) (by decide))) (by rfl) ?_
    simp only [Act.put, List.setIfInBounds_toArray, List.set_cons_zero, List.set_cons_succ]
    refine wpPlan_nil (hT.out _ _ ?_); clear hT T
    intro vw11 hg
    simp only [puts, Act.put, List.setIfInBounds_toArray, List.set_cons_zero, List.set_cons_succ, List.drop_succ_cons, List.drop_zero, ↓reduceIte, Nat.reduceEqDiff]
    clear lx2 lx3
    have HG := Lib.hid (hg)
    clear hg
    have bx2 := BX2.out.gr HG.out; clear BX2
    have bx3 := BX3.out.gr HG.out; clear BX3
    have bx5 := BX5.out.gr HG.out; clear BX5
    have bx7 := BX7.out.gr HG.out; clear BX7
    have bx10 := BX10.out.gr HG.out; clear BX10
    have bx11 := BX11.out.gr HG.out; clear BX11
    have r0 := Gr.refl vw11
    have BX2 := Lib.hid bx2; clear bx2
    have BX3 := Lib.hid bx3; clear bx3
    have BX5 := Lib.hid bx5; clear bx5
    have BX7 := Lib.hid bx7; clear bx7
    have BX10 := Lib.hid bx10; clear bx10
    have BX11 := Lib.hid bx11; clear bx11
    go_wp2
    refine hK.out _ _ ?_; clear hK K
    show Code.wp _ _ _ _ _
    clear r0
    refine forgetW (fun w2 => Bx w2 gx2 38 #[.int .u64 ((lo (Int.natAbs ((a1).num)) : Nat) : Int), .string (bg (Int.natAbs ((a1).num))), .bool (decide (((a1).num) < 0)), .int .u64 ((lo ((a1).den - 1) : Nat) : Int), .string (bg ((a1).den - 1)), .int .u64 ((lo (Int.natAbs ((a2).num)) : Nat) : Int), .string (bg (Int.natAbs ((a2).num))), .bool (decide (((a2).num) < 0)), .int .u64 ((lo ((a2).den - 1) : Nat) : Int), .string (bg ((a2).den - 1))] ∧ Bx w2 gx3 38 #[.int .u64 ((lo (Int.natAbs ((b1).num)) : Nat) : Int), .string (bg (Int.natAbs ((b1).num))), .bool (decide (((b1).num) < 0)), .int .u64 ((lo ((b1).den - 1) : Nat) : Int), .string (bg ((b1).den - 1)), .int .u64 ((lo (Int.natAbs ((b2).num)) : Nat) : Int), .string (bg (Int.natAbs ((b2).num))), .bool (decide (((b2).num) < 0)), .int .u64 ((lo ((b2).den - 1) : Nat) : Int), .string (bg ((b2).den - 1))] ∧ Bx w2 gx5 36 #[.int .u64 ((lo (Int.natAbs ((u7).num)) : Nat) : Int), .string (bg (Int.natAbs ((u7).num))), .bool (decide (((u7).num) < 0)), .int .u64 ((lo ((u7).den - 1) : Nat) : Int), .string (bg ((u7).den - 1))] ∧ Bx w2 gx7 36 #[.int .u64 ((lo (Int.natAbs ((u7).num)) : Nat) : Int), .string (bg (Int.natAbs ((u7).num))), .bool (decide (((u7).num) < 0)), .int .u64 ((lo ((u7).den - 1) : Nat) : Int), .string (bg ((u7).den - 1))] ∧ Bx w2 gx10 36 #[.int .u64 ((lo (Int.natAbs ((u17).num)) : Nat) : Int), .string (bg (Int.natAbs ((u17).num))), .bool (decide (((u17).num) < 0)), .int .u64 ((lo ((u17).den - 1) : Nat) : Int), .string (bg ((u17).den - 1))] ∧ Bx w2 gx11 38 #[.int .u64 ((lo (Int.natAbs ((u18).num)) : Nat) : Int), .string (bg (Int.natAbs ((u18).num))), .bool (decide (((u18).num) < 0)), .int .u64 ((lo ((u18).den - 1) : Nat) : Int), .string (bg ((u18).den - 1)), .int .u64 ((lo (Int.natAbs ((u19).num)) : Nat) : Int), .string (bg (Int.natAbs ((u19).num))), .bool (decide (((u19).num) < 0)), .int .u64 ((lo ((u19).den - 1) : Nat) : Int), .string (bg ((u19).den - 1))] ∧ Below w.heap.size w w2) ⟨BX2.out, BX3.out, BX5.out, BX7.out, BX10.out, BX11.out, HB.out.trans (HG.out.mono HB.out.size)⟩ ?_
    clear HB HG BX2 BX3 BX5 BX7 BX10 BX11
    rintro Wx11 ⟨bx2, bx3, bx5, bx7, bx10, bx11, HB⟩
    replace HB := Lib.hid HB
    refine wp_cond_false (by rfl) ?_
    refine wp_skip ?_
    show Code.wp _ _ _ _ _
    refine wp_seq ?_
    -- region 13
    have lx2 := bx2.cells
    have lx3 := bx3.cells
    have BX2 := Lib.hid bx2
    have BX3 := Lib.hid bx3
    have BX5 := Lib.hid bx5
    have BX7 := Lib.hid bx7
    have BX10 := Lib.hid bx10
    have BX11 := Lib.hid bx11
    clear bx2 bx3 bx5 bx7 bx10 bx11
    refine wp_seq_k fun K hK => ?_
    replace hK := Lib.hid hK
    refine wp_region_seqplan 3 [(true, 0), (true, 1), (true, 2)] (by rfl) (by simp) (fun T hT => ?_)
    iterate 2
      refine wpPlan_takeL (v := ?_) rfl (by rfl) (fun w' hw => ?_) ?_
      rotate_left
      · go_simp
        with_reducible rfl
      simp only [Act.put, List.setIfInBounds_toArray, List.set_cons_zero, List.set_cons_succ]
    refine wpPlan_callL rfl (by rfl) Try.call27 (fun w' hw => pless_any (b1) (b2) (a1) (a2) false _ (hl2.out) (by first | omega | exact Nat.le_trans (wl_small (by decide)) (by decide)) (by first | omega | exact Nat.le_trans (wl_small (by decide)) (by decide)) (by first | omega | exact Nat.le_trans (wl_small (by decide)) (by decide)) (by first | omega | exact Nat.le_trans (wl_small (by decide)) (by decide))) (by rfl) ?_
    simp only [Act.put, List.setIfInBounds_toArray, List.set_cons_zero, List.set_cons_succ]
    refine wpPlan_nil (hT.out _ _ ?_); clear hT T
    intro vw12 hg
    simp only [puts, Act.put, List.setIfInBounds_toArray, List.set_cons_zero, List.set_cons_succ, List.drop_succ_cons, List.drop_zero, ↓reduceIte, Nat.reduceEqDiff]
    clear lx2 lx3
    have HG := Lib.hid (hg)
    clear hg
    have bx2 := BX2.out.gr HG.out; clear BX2
    have bx3 := BX3.out.gr HG.out; clear BX3
    have bx5 := BX5.out.gr HG.out; clear BX5
    have bx7 := BX7.out.gr HG.out; clear BX7
    have bx10 := BX10.out.gr HG.out; clear BX10
    have bx11 := BX11.out.gr HG.out; clear BX11
    have r0 := Gr.refl vw12
    have BX2 := Lib.hid bx2; clear bx2
    have BX3 := Lib.hid bx3; clear bx3
    have BX5 := Lib.hid bx5; clear bx5
    have BX7 := Lib.hid bx7; clear bx7
    have BX10 := Lib.hid bx10; clear bx10
    have BX11 := Lib.hid bx11; clear bx11
    go_wp2
    refine hK.out _ _ ?_; clear hK K
    show Code.wp _ _ _ _ _
    clear r0
    refine forgetW (fun w2 => Bx w2 gx2 38 #[.int .u64 ((lo (Int.natAbs ((a1).num)) : Nat) : Int), .string (bg (Int.natAbs ((a1).num))), .bool (decide (((a1).num) < 0)), .int .u64 ((lo ((a1).den - 1) : Nat) : Int), .string (bg ((a1).den - 1)), .int .u64 ((lo (Int.natAbs ((a2).num)) : Nat) : Int), .string (bg (Int.natAbs ((a2).num))), .bool (decide (((a2).num) < 0)), .int .u64 ((lo ((a2).den - 1) : Nat) : Int), .string (bg ((a2).den - 1))] ∧ Bx w2 gx3 38 #[.int .u64 ((lo (Int.natAbs ((b1).num)) : Nat) : Int), .string (bg (Int.natAbs ((b1).num))), .bool (decide (((b1).num) < 0)), .int .u64 ((lo ((b1).den - 1) : Nat) : Int), .string (bg ((b1).den - 1)), .int .u64 ((lo (Int.natAbs ((b2).num)) : Nat) : Int), .string (bg (Int.natAbs ((b2).num))), .bool (decide (((b2).num) < 0)), .int .u64 ((lo ((b2).den - 1) : Nat) : Int), .string (bg ((b2).den - 1))] ∧ Bx w2 gx5 36 #[.int .u64 ((lo (Int.natAbs ((u7).num)) : Nat) : Int), .string (bg (Int.natAbs ((u7).num))), .bool (decide (((u7).num) < 0)), .int .u64 ((lo ((u7).den - 1) : Nat) : Int), .string (bg ((u7).den - 1))] ∧ Bx w2 gx7 36 #[.int .u64 ((lo (Int.natAbs ((u7).num)) : Nat) : Int), .string (bg (Int.natAbs ((u7).num))), .bool (decide (((u7).num) < 0)), .int .u64 ((lo ((u7).den - 1) : Nat) : Int), .string (bg ((u7).den - 1))] ∧ Bx w2 gx10 36 #[.int .u64 ((lo (Int.natAbs ((u17).num)) : Nat) : Int), .string (bg (Int.natAbs ((u17).num))), .bool (decide (((u17).num) < 0)), .int .u64 ((lo ((u17).den - 1) : Nat) : Int), .string (bg ((u17).den - 1))] ∧ Bx w2 gx11 38 #[.int .u64 ((lo (Int.natAbs ((u18).num)) : Nat) : Int), .string (bg (Int.natAbs ((u18).num))), .bool (decide (((u18).num) < 0)), .int .u64 ((lo ((u18).den - 1) : Nat) : Int), .string (bg ((u18).den - 1)), .int .u64 ((lo (Int.natAbs ((u19).num)) : Nat) : Int), .string (bg (Int.natAbs ((u19).num))), .bool (decide (((u19).num) < 0)), .int .u64 ((lo ((u19).den - 1) : Nat) : Int), .string (bg ((u19).den - 1))] ∧ Below w.heap.size w w2) ⟨BX2.out, BX3.out, BX5.out, BX7.out, BX10.out, BX11.out, HB.out.trans (HG.out.mono HB.out.size)⟩ ?_
    clear HB HG BX2 BX3 BX5 BX7 BX10 BX11
    rintro Wx13 ⟨bx2, bx3, bx5, bx7, bx10, bx11, HB⟩
    replace HB := Lib.hid HB
    refine wp_cond_false (by rfl) ?_
    refine wp_skip ?_
    show Code.wp _ _ _ _ _
    refine wp_seq ?_
    -- region 15
    have lx2 := bx2.cells
    have lx3 := bx3.cells
    have BX2 := Lib.hid bx2
    have BX3 := Lib.hid bx3
    have BX5 := Lib.hid bx5
    have BX7 := Lib.hid bx7
    have BX10 := Lib.hid bx10
    have BX11 := Lib.hid bx11
    clear bx2 bx3 bx5 bx7 bx10 bx11
    refine wp_seq_k fun K hK => ?_
    replace hK := Lib.hid hK
    refine wp_region_seqplan 3 [(true, 0), (true, 1), (true, 2)] (by rfl) (by simp) (fun T hT => ?_)
    iterate 3
      refine wpPlan_takeL (v := ?_) rfl (by rfl) (fun w' hw => ?_) ?_
      rotate_left
      · go_simp
        with_reducible rfl
      simp only [Act.put, List.setIfInBounds_toArray, List.set_cons_zero, List.set_cons_succ]
    refine wpPlan_nil (hT.out _ _ ?_); clear hT T
    intro vw13 hg
    simp only [puts, Act.put, List.setIfInBounds_toArray, List.set_cons_zero, List.set_cons_succ, List.drop_succ_cons, List.drop_zero, ↓reduceIte, Nat.reduceEqDiff]
    clear lx2 lx3
    have HG := Lib.hid (hg)
    clear hg
    have bx2 := BX2.out.gr HG.out; clear BX2
    have bx3 := BX3.out.gr HG.out; clear BX3
    have bx5 := BX5.out.gr HG.out; clear BX5
    have bx7 := BX7.out.gr HG.out; clear BX7
    have bx10 := BX10.out.gr HG.out; clear BX10
    have bx11 := BX11.out.gr HG.out; clear BX11
    have r0 := Gr.refl vw13
    have BX2 := Lib.hid bx2; clear bx2
    have BX3 := Lib.hid bx3; clear bx3
    have BX5 := Lib.hid bx5; clear bx5
    have BX7 := Lib.hid bx7; clear bx7
    have BX10 := Lib.hid bx10; clear bx10
    have BX11 := Lib.hid bx11; clear bx11
    go_wp2
    refine hK.out _ _ ?_; clear hK K
    show Code.wp _ _ _ _ _
    clear r0
    refine forgetW (fun w2 => Bx w2 gx2 38 #[.int .u64 ((lo (Int.natAbs ((a1).num)) : Nat) : Int), .string (bg (Int.natAbs ((a1).num))), .bool (decide (((a1).num) < 0)), .int .u64 ((lo ((a1).den - 1) : Nat) : Int), .string (bg ((a1).den - 1)), .int .u64 ((lo (Int.natAbs ((a2).num)) : Nat) : Int), .string (bg (Int.natAbs ((a2).num))), .bool (decide (((a2).num) < 0)), .int .u64 ((lo ((a2).den - 1) : Nat) : Int), .string (bg ((a2).den - 1))] ∧ Bx w2 gx3 38 #[.int .u64 ((lo (Int.natAbs ((b1).num)) : Nat) : Int), .string (bg (Int.natAbs ((b1).num))), .bool (decide (((b1).num) < 0)), .int .u64 ((lo ((b1).den - 1) : Nat) : Int), .string (bg ((b1).den - 1)), .int .u64 ((lo (Int.natAbs ((b2).num)) : Nat) : Int), .string (bg (Int.natAbs ((b2).num))), .bool (decide (((b2).num) < 0)), .int .u64 ((lo ((b2).den - 1) : Nat) : Int), .string (bg ((b2).den - 1))] ∧ Bx w2 gx5 36 #[.int .u64 ((lo (Int.natAbs ((u7).num)) : Nat) : Int), .string (bg (Int.natAbs ((u7).num))), .bool (decide (((u7).num) < 0)), .int .u64 ((lo ((u7).den - 1) : Nat) : Int), .string (bg ((u7).den - 1))] ∧ Bx w2 gx7 36 #[.int .u64 ((lo (Int.natAbs ((u7).num)) : Nat) : Int), .string (bg (Int.natAbs ((u7).num))), .bool (decide (((u7).num) < 0)), .int .u64 ((lo ((u7).den - 1) : Nat) : Int), .string (bg ((u7).den - 1))] ∧ Bx w2 gx10 36 #[.int .u64 ((lo (Int.natAbs ((u17).num)) : Nat) : Int), .string (bg (Int.natAbs ((u17).num))), .bool (decide (((u17).num) < 0)), .int .u64 ((lo ((u17).den - 1) : Nat) : Int), .string (bg ((u17).den - 1))] ∧ Bx w2 gx11 38 #[.int .u64 ((lo (Int.natAbs ((u18).num)) : Nat) : Int), .string (bg (Int.natAbs ((u18).num))), .bool (decide (((u18).num) < 0)), .int .u64 ((lo ((u18).den - 1) : Nat) : Int), .string (bg ((u18).den - 1)), .int .u64 ((lo (Int.natAbs ((u19).num)) : Nat) : Int), .string (bg (Int.natAbs ((u19).num))), .bool (decide (((u19).num) < 0)), .int .u64 ((lo ((u19).den - 1) : Nat) : Int), .string (bg ((u19).den - 1))] ∧ Below w.heap.size w w2) ⟨BX2.out, BX3.out, BX5.out, BX7.out, BX10.out, BX11.out, HB.out.trans (HG.out.mono HB.out.size)⟩ ?_
    clear HB HG BX2 BX3 BX5 BX7 BX10 BX11
    rintro Wx15 ⟨bx2, bx3, bx5, bx7, bx10, bx11, HB⟩
    replace HB := Lib.hid HB
    refine wp_cond_true (by rfl) ?_
    -- region 16
    have BX2 := Lib.hid bx2
    have BX3 := Lib.hid bx3
    have BX5 := Lib.hid bx5
    have BX7 := Lib.hid bx7
    have BX10 := Lib.hid bx10
    have BX11 := Lib.hid bx11
    clear bx2 bx3 bx5 bx7 bx10 bx11
    refine wp_last_k fun K hK => ?_
    replace hK := Lib.hid hK
    refine wp_region_seqplan 3 [(true, 0), (true, 1), (true, 2)] (by rfl) (by simp) (fun T hT => ?_)
    iterate 3
      refine wpPlan_takeL (v := ?_) rfl (by rfl) (fun w' hw => ?_) ?_
      rotate_left
      · go_simp
        with_reducible rfl
      simp only [Act.put, List.setIfInBounds_toArray, List.set_cons_zero, List.set_cons_succ]
    refine wpPlan_nil (hT.out _ _ ?_); clear hT T
    intro vw14 hg
    simp only [puts, Act.put, List.setIfInBounds_toArray, List.set_cons_zero, List.set_cons_succ, List.drop_succ_cons, List.drop_zero, ↓reduceIte, Nat.reduceEqDiff]
    have HG := Lib.hid (hg)
    clear hg
    have bx2 := BX2.out.gr HG.out; clear BX2
    have bx3 := BX3.out.gr HG.out; clear BX3
    have bx5 := BX5.out.gr HG.out; clear BX5
    have bx7 := BX7.out.gr HG.out; clear BX7
    have bx10 := BX10.out.gr HG.out; clear BX10
    have bx11 := BX11.out.gr HG.out; clear BX11
    have r0 := Gr.refl vw14
    have BX2 := Lib.hid bx2; clear bx2
    have BX3 := Lib.hid bx3; clear bx3
    have BX5 := Lib.hid bx5; clear bx5
    have BX7 := Lib.hid bx7; clear bx7
    have BX10 := Lib.hid bx10; clear bx10
    have BX11 := Lib.hid bx11; clear bx11
    go_wp2
    refine hK.out _ _ ?_; clear hK K
    show Code.wp _ _ _ _ _
    clear r0
    refine forgetW (fun w2 => Bx w2 gx2 38 #[.int .u64 ((lo (Int.natAbs ((a1).num)) : Nat) : Int), .string (bg (Int.natAbs ((a1).num))), .bool (decide (((a1).num) < 0)), .int .u64 ((lo ((a1).den - 1) : Nat) : Int), .string (bg ((a1).den - 1)), .int .u64 ((lo (Int.natAbs ((a2).num)) : Nat) : Int), .string (bg (Int.natAbs ((a2).num))), .bool (decide (((a2).num) < 0)), .int .u64 ((lo ((a2).den - 1) : Nat) : Int), .string (bg ((a2).den - 1))] ∧ Bx w2 gx3 38 #[.int .u64 ((lo (Int.natAbs ((b1).num)) : Nat) : Int), .string (bg (Int.natAbs ((b1).num))), .bool (decide (((b1).num) < 0)), .int .u64 ((lo ((b1).den - 1) : Nat) : Int), .string (bg ((b1).den - 1)), .int .u64 ((lo (Int.natAbs ((b2).num)) : Nat) : Int), .string (bg (Int.natAbs ((b2).num))), .bool (decide (((b2).num) < 0)), .int .u64 ((lo ((b2).den - 1) : Nat) : Int), .string (bg ((b2).den - 1))] ∧ Bx w2 gx5 36 #[.int .u64 ((lo (Int.natAbs ((u7).num)) : Nat) : Int), .string (bg (Int.natAbs ((u7).num))), .bool (decide (((u7).num) < 0)), .int .u64 ((lo ((u7).den - 1) : Nat) : Int), .string (bg ((u7).den - 1))] ∧ Bx w2 gx7 36 #[.int .u64 ((lo (Int.natAbs ((u7).num)) : Nat) : Int), .string (bg (Int.natAbs ((u7).num))), .bool (decide (((u7).num) < 0)), .int .u64 ((lo ((u7).den - 1) : Nat) : Int), .string (bg ((u7).den - 1))] ∧ Bx w2 gx10 36 #[.int .u64 ((lo (Int.natAbs ((u17).num)) : Nat) : Int), .string (bg (Int.natAbs ((u17).num))), .bool (decide (((u17).num) < 0)), .int .u64 ((lo ((u17).den - 1) : Nat) : Int), .string (bg ((u17).den - 1))] ∧ Bx w2 gx11 38 #[.int .u64 ((lo (Int.natAbs ((u18).num)) : Nat) : Int), .string (bg (Int.natAbs ((u18).num))), .bool (decide (((u18).num) < 0)), .int .u64 ((lo ((u18).den - 1) : Nat) : Int), .string (bg ((u18).den - 1)), .int .u64 ((lo (Int.natAbs ((u19).num)) : Nat) : Int), .string (bg (Int.natAbs ((u19).num))), .bool (decide (((u19).num) < 0)), .int .u64 ((lo ((u19).den - 1) : Nat) : Int), .string (bg ((u19).den - 1))] ∧ Below w.heap.size w w2) ⟨BX2.out, BX3.out, BX5.out, BX7.out, BX10.out, BX11.out, HB.out.trans (HG.out.mono HB.out.size)⟩ ?_
    clear HB HG BX2 BX3 BX5 BX7 BX10 BX11
    rintro Wx16 ⟨bx2, bx3, bx5, bx7, bx10, bx11, HB⟩
    replace HB := Lib.hid HB
    -- region 17
    obtain ⟨u20, HZ20⟩ : ∃ z, Hid ((a1) * (a1) + (a2) * (a2) = z) := ⟨_, Lib.hid rfl⟩
    have su20 : sz u20 ≤ 17 := by rw [← HZ20.out]; have := sz_dot (a1) (a2) (a1) (a2); omega
    obtain ⟨u21, HZ21⟩ : ∃ z, Hid ((b1) * (b1) + (b2) * (b2) = z) := ⟨_, Lib.hid rfl⟩
    have su21 : sz u21 ≤ 17 := by rw [← HZ21.out]; have := sz_dot (b1) (b2) (b1) (b2); omega
    have HZ22 : Hid ((u20) * (u21) = u17) := Lib.hid (by simp only [← HZ21.out, ← HZ20.out, ← HZ19.out, ← HZ18.out, ← HZ17.out, ← HZ16.out, ← HZ15.out, ← HZ14.out, ← HZ13.out, ← HZ11.out, ← HZ10.out, ← HZ9.out, ← HZ8.out, ← HZ7.out, ← HZ6.out, ← HZ5.out]; exact laws_all _ _ _ _)
    obtain ⟨u23, HZ23⟩ : ∃ z, Hid (((a1) - (u18)) * ((a1) - (u18)) + ((a2) - (u19)) * ((a2) - (u19)) = z) := ⟨_, Lib.hid rfl⟩
    have su23 : sz u23 ≤ 73 := by rw [← HZ23.out]; have := sz_square (u18) (u19) (a1) (a2); omega
    have HZ24 : Hid (((b1) - (u18)) * ((b1) - (u18)) + ((b2) - (u19)) * ((b2) - (u19)) = u23) := Lib.hid (by simp only [← HZ23.out, ← HZ21.out, ← HZ20.out, ← HZ19.out, ← HZ18.out, ← HZ17.out, ← HZ16.out, ← HZ15.out, ← HZ14.out, ← HZ13.out, ← HZ11.out, ← HZ10.out, ← HZ9.out, ← HZ8.out, ← HZ7.out, ← HZ6.out, ← HZ5.out]; exact laws_mid _ _ _ _)
    obtain ⟨u25, HZ25⟩ : ∃ z, Hid ((a1) + (b1) = z) := ⟨_, Lib.hid rfl⟩
    have su25 : sz u25 ≤ 9 := by rw [← HZ25.out]; have := sz_add (a1) (b1); omega
    obtain ⟨u26, HZ26⟩ : ∃ z, Hid ((a2) + (b2) = z) := ⟨_, Lib.hid rfl⟩
    have su26 : sz u26 ≤ 9 := by rw [← HZ26.out]; have := sz_add (a2) (b2); omega
    have HZ27 : Hid ((u25) - (b1) = a1) := Lib.hid (by simp only [← HZ26.out, ← HZ25.out, ← HZ23.out, ← HZ21.out, ← HZ20.out, ← HZ19.out, ← HZ18.out, ← HZ17.out, ← HZ16.out, ← HZ15.out, ← HZ14.out, ← HZ13.out, ← HZ11.out, ← HZ10.out, ← HZ9.out, ← HZ8.out, ← HZ7.out, ← HZ6.out, ← HZ5.out]; grind)
    have HZ28 : Hid ((u26) - (b2) = a2) := Lib.hid (by simp only [← HZ26.out, ← HZ25.out, ← HZ23.out, ← HZ21.out, ← HZ20.out, ← HZ19.out, ← HZ18.out, ← HZ17.out, ← HZ16.out, ← HZ15.out, ← HZ14.out, ← HZ13.out, ← HZ11.out, ← HZ10.out, ← HZ9.out, ← HZ8.out, ← HZ7.out, ← HZ6.out, ← HZ5.out]; grind)
    have lx2 := bx2.cells
    have lx3 := bx3.cells
    have lx5 := bx5.cells
    have lx7 := bx7.cells
    have lx10 := bx10.cells
    have lx11 := bx11.cells
    have BX2 := Lib.hid bx2
    have BX3 := Lib.hid bx3
    have BX5 := Lib.hid bx5
    have BX7 := Lib.hid bx7
    have BX10 := Lib.hid bx10
    have BX11 := Lib.hid bx11
    clear bx2 bx3 bx5 bx7 bx10 bx11
    refine wp_seq_k fun K hK => ?_
    replace hK := Lib.hid hK
    refine wp_region_plan 39 [] [] (fun _ => 0) (fun _ => .cells #[] 0) [(true, 0), (true, 1), (true, 2), (true, 3), (true, 4), (true, 5), (true, 6), (true, 8), (true, 9), (true, 7), (true, 10), (true, 11), (true, 12), (true, 13), (true, 14), (true, 15), (true, 16), (true, 18), (true, 19), (true, 17), (true, 20), (true, 21), (true, 22), (true, 23), (true, 24), (true, 25), (true, 26), (true, 27), (true, 28), (true, 29), (true, 31), (true, 33), (true, 30), (true, 32), (true, 34), (true, 35), (true, 36), (true, 37), (true, 38)] (by kernel_rfl) (by kernel_rfl) (fun i hi => by cases hi) (fun i hi => by cases hi) (fun _ _ _ _ _ h => h) (fun T hT => ?_)
    iterate 9
      refine wpPlan_takeL (v := ?_) rfl (by rfl) (fun w' hw => ?_) ?_
      rotate_left
      · go_simp
        with_reducible rfl
      simp only [Act.put, List.setIfInBounds_toArray, List.set_cons_zero, List.set_cons_succ]
    refine wpPlan_callL rfl (by rfl) Try.call26 (fun w' hw => pdot_any (a1) (a2) (a1) (a2) (u20) _ HZ20.out (by first | omega | exact Nat.le_trans (wl_small (by decide)) (by decide)) (by first | omega | exact Nat.le_trans (wl_small (by decide)) (by decide)) (by first | omega | exact Nat.le_trans (wl_small (by decide)) (by decide)) (by first | omega | exact Nat.le_trans (wl_small (by decide)) (by decide))) (by rfl) ?_
    simp only [Act.put, List.setIfInBounds_toArray, List.set_cons_zero, List.set_cons_succ]
    refine wpPlan_callL rfl (by rfl) Try.call26 (fun w' hw => pdot_any (b1) (b2) (b1) (b2) (u21) _ HZ21.out (by first | omega | exact Nat.le_trans (wl_small (by decide)) (by decide)) (by first | omega | exact Nat.le_trans (wl_small (by decide)) (by decide)) (by first | omega | exact Nat.le_trans (wl_small (by decide)) (by decide)) (by first | omega | exact Nat.le_trans (wl_small (by decide)) (by decide))) (by rfl) ?_
    simp only [Act.put, List.setIfInBounds_toArray, List.set_cons_zero, List.set_cons_succ]
    refine wpPlan_callL rfl (by rfl) Try.call10 (fun w' hw => fmul_any (u20) (u21) (u17) _ HZ22.out (by first | omega | exact Nat.le_trans (wl_small (by decide)) (by decide)) (by first | omega | exact Nat.le_trans (wl_small (by decide)) (by decide))) (by rfl) ?_
    simp only [Act.put, List.setIfInBounds_toArray, List.set_cons_zero, List.set_cons_succ]
    iterate 7
      refine wpPlan_takeL (v := ?_) rfl (by rfl) (fun w' hw => ?_) ?_
      rotate_left
      · go_simp
        with_reducible rfl
      simp only [Act.put, List.setIfInBounds_toArray, List.set_cons_zero, List.set_cons_succ]
    refine wpPlan_callL rfl (by rfl) Try.call24 (fun w' hw => psquare_any (u18) (u19) (a1) (a2) (u23) _ HZ23.out (by first | omega | exact Nat.le_trans (wl_small (by decide)) (by decide)) (by first | omega | exact Nat.le_trans (wl_small (by decide)) (by decide)) (by first | omega | exact Nat.le_trans (wl_small (by decide)) (by decide)) (by first | omega | exact Nat.le_trans (wl_small (by decide)) (by decide))) (by rfl) ?_
    simp only [Act.put, List.setIfInBounds_toArray, List.set_cons_zero, List.set_cons_succ]
    refine wpPlan_callL rfl (by rfl) Try.call24 (fun w' hw => psquare_any (u18) (u19) (b1) (b2) (u23) _ HZ24.out (by first | omega | exact Nat.le_trans (wl_small (by decide)) (by decide)) (by first | omega | exact Nat.le_trans (wl_small (by decide)) (by decide)) (by first | omega | exact Nat.le_trans (wl_small (by decide)) (by decide)) (by first | omega | exact Nat.le_trans (wl_small (by decide)) (by decide))) (by rfl) ?_
    simp only [Act.put, List.setIfInBounds_toArray, List.set_cons_zero, List.set_cons_succ]
    iterate 11
      refine wpPlan_takeL (v := ?_) rfl (by rfl) (fun w' hw => ?_) ?_
      rotate_left
      · go_simp
        with_reducible rfl
      simp only [Act.put, List.setIfInBounds_toArray, List.set_cons_zero, List.set_cons_succ]
    refine wpPlan_callL rfl (by rfl) Try.call14 (fun w' hw => padd_any (a1) (a2) (b1) (b2) (u25) (u26) _ HZ25.out HZ26.out (by first | omega | exact Nat.le_trans (wl_small (by decide)) (by decide)) (by first | omega | exact Nat.le_trans (wl_small (by decide)) (by decide)) (by first | omega | exact Nat.le_trans (wl_small (by decide)) (by decide)) (by first | omega | exact Nat.le_trans (wl_small (by decide)) (by decide))) (by rfl) ?_
    simp only [Act.put, List.setIfInBounds_toArray, List.set_cons_zero, List.set_cons_succ]
    refine wpPlan_callL rfl (by rfl) Try.call8 (fun w' hw => psub_any (u25) (u26) (b1) (b2) (a1) (a2) _ HZ27.out HZ28.out (by first | omega | exact Nat.le_trans (wl_small (by decide)) (by decide)) (by first | omega | exact Nat.le_trans (wl_small (by decide)) (by decide)) (by first | omega | exact Nat.le_trans (wl_small (by decide)) (by decide)) (by first | omega | exact Nat.le_trans (wl_small (by decide)) (by decide))) (by rfl) ?_
    simp only [Act.put, List.setIfInBounds_toArray, List.set_cons_zero, List.set_cons_succ]
    iterate 3
      refine wpPlan_takeL (v := ?_) rfl (by rfl) (fun w' hw => ?_) ?_
      rotate_left
      · go_simp
        with_reducible rfl
      simp only [Act.put, List.setIfInBounds_toArray, List.set_cons_zero, List.set_cons_succ]
    refine wpPlan_callL rfl (by rfl) Try.call16 (fun w' hw => lives_any _) (by rfl) ?_
    simp only [Act.put, List.setIfInBounds_toArray, List.set_cons_zero, List.set_cons_succ]
    iterate 1
      refine wpPlan_takeL (v := ?_) rfl (by rfl) (fun w' hw => ?_) ?_
      rotate_left
      · go_simp
        with_reducible rfl
      simp only [Act.put, List.setIfInBounds_toArray, List.set_cons_zero, List.set_cons_succ]
    refine wpPlan_nil (hT.out _ _ ?_); clear hT T
    intro G vw15 hg hf
    simp only [puts, Act.put, List.setIfInBounds_toArray, List.set_cons_zero, List.set_cons_succ, List.drop_succ_cons, List.drop_zero, ↓reduceIte, Nat.reduceEqDiff]
    clear lx2 lx3 lx5 lx7 lx10 lx11
    have HG := Lib.hid (hg)
    clear hg
    have bx2 := BX2.out.gr HG.out; clear BX2
    have bx3 := BX3.out.gr HG.out; clear BX3
    have bx5 := BX5.out.gr HG.out; clear BX5
    have bx7 := BX7.out.gr HG.out; clear BX7
    have bx10 := BX10.out.gr HG.out; clear BX10
    have bx11 := BX11.out.gr HG.out; clear BX11
    have r0 := Gr.refl vw15
    have BX2 := Lib.hid bx2; clear bx2
    have BX3 := Lib.hid bx3; clear bx3
    have BX5 := Lib.hid bx5; clear bx5
    have BX7 := Lib.hid bx7; clear bx7
    have BX10 := Lib.hid bx10; clear bx10
    have BX11 := Lib.hid bx11; clear bx11
    go_wp2
    refine hK.out _ _ ?_; clear hK K
    show Code.wp _ _ _ _ _
    clear r0
    refine forgetW (fun w2 => Below w.heap.size w w2) (HB.out.trans (HG.out.mono HB.out.size)) ?_
    clear HB HG BX2 BX3 BX5 BX7 BX10 BX11
    rintro Wx17 HB
    replace HB := Lib.hid HB
    refine wp_ret ?_
    try simp only [Exit.then, Exit.inBlock]
    have r0 := Gr.refl Wx17
    exact bodyPost_ret (v := .bool true) (by simp [results, Try.results6, go_sem]; rfl) rfl ⟨rfl, HB.out⟩

theorem laws_law (n0x d0x n0y d0y n1x d1x n1y d1y : Int) (w : World) (h1_0x : -9223372036854775808 ≤ n0x) (h2_0x : n0x ≤ 9223372036854775807) (h3_0x : 0 ≤ d0x) (h4_0x : d0x ≤ 4294967295) (h1_0y : -9223372036854775808 ≤ n0y) (h2_0y : n0y ≤ 9223372036854775807) (h3_0y : 0 ≤ d0y) (h4_0y : d0y ≤ 4294967295) (h1_1x : -9223372036854775808 ≤ n1x) (h2_1x : n1x ≤ 9223372036854775807) (h3_1x : 0 ≤ d1x) (h4_1x : d1x ≤ 4294967295) (h1_1y : -9223372036854775808 ≤ n1y) (h2_1y : n1y ≤ 9223372036854775807) (h3_1y : 0 ≤ d1y) (h4_1y : d1y ≤ 4294967295) :
    Calls Try.prog 6 #[(Value.agg #[.int .i64 (n0x), .int .u32 (d0x), .int .i64 (n0y), .int .u32 (d0y)]), (Value.agg #[.int .i64 (n1x), .int .u32 (d1x), .int .i64 (n1y), .int .u32 (d1y)])] w fun e w' => e = .returned (.bool true) ∧ Below w.heap.size w w' :=
  laws_walk n0x d0x n0y d0y n1x d1x n1y d1y (qv n0x d0x) (qv n0y d0y) (qv n1x d1x) (qv n1y d1y) w h1_0x h2_0x h3_0x h4_0x h1_0y h2_0y h3_0y h4_0y h1_1x h2_1x h3_1x h4_1x h1_1y h2_1y h3_1y h4_1y (Lib.hid rfl) (Lib.hid rfl) (Lib.hid rfl) (Lib.hid rfl) (sz_qv _ _ h1_0x h2_0x h3_0x h4_0x) (sz_qv _ _ h1_0y h2_0y h3_0y h4_0y) (sz_qv _ _ h1_1x h2_1x h3_1x h4_1x) (sz_qv _ _ h1_1y h2_1y h3_1y h4_1y) (ways_any _ _ _ _)

end Go.Proofs.Ytenpbnmmadbkdaa
