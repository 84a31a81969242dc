/- PointsFive: the law's walk. -/
import Derived.Test.YtenpbnmmadbkdaaOf3
namespace Go.Proofs.Ytenpbnmmadbkdaa
open Go.RowKit
set_option linter.unusedSimpArgs false
set_option linter.unusedVariables false
attribute [local go_sem ↓] Go.wp_at_zero Go.wp_at_succ
attribute [local go_sem ↓] eq_nat eq_nat_zero eq_int eq_frac eq_pt
set_option maxHeartbeats 8000000 in
theorem five_law (n0x d0x n0y d0y n1x d1x n1y d1y n2x d2x n2y d2y n3x d3x n3y d3y n4x d4x n4y d4y : Int) (w : World) (h1_0x : -9223372036854775808 ≤ n0x) (h2_0x : n0x ≤ 9223372036854775807) (h3_0x : 0 ≤ d0x) (h4_0x : d0x ≤ 4294967295) (h1_0y : -9223372036854775808 ≤ n0y) (h2_0y : n0y ≤ 9223372036854775807) (h3_0y : 0 ≤ d0y) (h4_0y : d0y ≤ 4294967295) (h1_1x : -9223372036854775808 ≤ n1x) (h2_1x : n1x ≤ 9223372036854775807) (h3_1x : 0 ≤ d1x) (h4_1x : d1x ≤ 4294967295) (h1_1y : -9223372036854775808 ≤ n1y) (h2_1y : n1y ≤ 9223372036854775807) (h3_1y : 0 ≤ d1y) (h4_1y : d1y ≤ 4294967295) (h1_2x : -9223372036854775808 ≤ n2x) (h2_2x : n2x ≤ 9223372036854775807) (h3_2x : 0 ≤ d2x) (h4_2x : d2x ≤ 4294967295) (h1_2y : -9223372036854775808 ≤ n2y) (h2_2y : n2y ≤ 9223372036854775807) (h3_2y : 0 ≤ d2y) (h4_2y : d2y ≤ 4294967295) (h1_3x : -9223372036854775808 ≤ n3x) (h2_3x : n3x ≤ 9223372036854775807) (h3_3x : 0 ≤ d3x) (h4_3x : d3x ≤ 4294967295) (h1_3y : -9223372036854775808 ≤ n3y) (h2_3y : n3y ≤ 9223372036854775807) (h3_3y : 0 ≤ d3y) (h4_3y : d3y ≤ 4294967295) (h1_4x : -9223372036854775808 ≤ n4x) (h2_4x : n4x ≤ 9223372036854775807) (h3_4x : 0 ≤ d4x) (h4_4x : d4x ≤ 4294967295) (h1_4y : -9223372036854775808 ≤ n4y) (h2_4y : n4y ≤ 9223372036854775807) (h3_4y : 0 ≤ d4y) (h4_4y : d4y ≤ 4294967295) :
    Calls Try.prog 3 #[(Value.agg #[.int .i64 (n0x), .int .u32 (d0x), .int .i64 (n0y), .int .u32 (d0y), .int .i64 (n1x), .int .u32 (d1x), .int .i64 (n1y), .int .u32 (d1y), .int .i64 (n2x), .int .u32 (d2x), .int .i64 (n2y), .int .u32 (d2y), .int .i64 (n3x), .int .u32 (d3x), .int .i64 (n3y), .int .u32 (d3y), .int .i64 (n4x), .int .u32 (d4x), .int .i64 (n4y), .int .u32 (d4y)])] w fun e w' => e = .returned (.bool true) ∧ Below w.heap.size w w' := by
  go_enter Try.func3, Try.ntmps3
  -- region 0
  refine wp_seq_k fun K hK => ?_
  replace hK := Lib.hid hK
  refine wp_region_lit ?_
  go_wp2
  refine hK.out _ _ ?_; clear hK K
  show Code.wp _ _ _ _ _
  refine forgetW (fun w2 => Bx w2 (w.heap.size) 27 #[.int .i64 (n0x), .int .u32 (d0x), .int .i64 (n0y), .int .u32 (d0y), .int .i64 (n1x), .int .u32 (d1x), .int .i64 (n1y), .int .u32 (d1y), .int .i64 (n2x), .int .u32 (d2x), .int .i64 (n2y), .int .u32 (d2y), .int .i64 (n3x), .int .u32 (d3x), .int .i64 (n3y), .int .u32 (d3y), .int .i64 (n4x), .int .u32 (d4x), .int .i64 (n4y), .int .u32 (d4y)] ∧ Below w.heap.size w w2) ⟨Bx.at rfl, (Below.refl _ _).alloc (Nat.le_refl _) _⟩ ?_
  rintro Wx ⟨bx0, HB⟩
  replace HB := Lib.hid HB
  -- region 1
  obtain ⟨u1, HZ1⟩ : ∃ z, Hid (qv (n0x) (d0x) = z) := ⟨_, Lib.hid rfl⟩
  have su1 : sz u1 ≤ 4 := by rw [← HZ1.out]; exact sz_qv (n0x) (d0x) (by first | omega | exact Nat.le_trans (wl_small (by decide)) (by decide)) (by first | omega | exact Nat.le_trans (wl_small (by decide)) (by decide)) (by first | omega | exact Nat.le_trans (wl_small (by decide)) (by decide)) (by first | omega | exact Nat.le_trans (wl_small (by decide)) (by decide))
  obtain ⟨u2, HZ2⟩ : ∃ z, Hid (qv (n0y) (d0y) = z) := ⟨_, Lib.hid rfl⟩
  have su2 : sz u2 ≤ 4 := by rw [← HZ2.out]; exact sz_qv (n0y) (d0y) (by first | omega | exact Nat.le_trans (wl_small (by decide)) (by decide)) (by first | omega | exact Nat.le_trans (wl_small (by decide)) (by decide)) (by first | omega | exact Nat.le_trans (wl_small (by decide)) (by decide)) (by first | omega | exact Nat.le_trans (wl_small (by decide)) (by decide))
  have lx0 := bx0.cells
  have BX0 := Lib.hid bx0
  clear bx0
  refine wp_seq_k fun K hK => ?_
  replace hK := Lib.hid hK
  refine wp_region_seqplan 3 [(true, 0), (true, 1), (true, 2)] (by rfl) (by simp) (fun T hT => ?_)
  iterate 2
    refine wpPlan_takeL (v := ?_) rfl (by rfl) (fun w' hw => ?_) ?_
    rotate_left
    · go_simp
      with_reducible rfl
    simp only [Act.put, List.setIfInBounds_toArray, List.set_cons_zero, List.set_cons_succ]
  refine wpPlan_callL rfl (by rfl) Try.call7 (fun w' hw => pof_any (n0x) (d0x) (n0y) (d0y) (u1) (u2) _ HZ1.out HZ2.out (by first | omega | exact Nat.le_trans (wl_small (by decide)) (by decide)) (by first | omega | exact Nat.le_trans (wl_small (by decide)) (by decide)) (by first | omega | exact Nat.le_trans (wl_small (by decide)) (by decide)) (by first | omega | exact Nat.le_trans (wl_small (by decide)) (by decide)) (by first | omega | exact Nat.le_trans (wl_small (by decide)) (by decide)) (by first | omega | exact Nat.le_trans (wl_small (by decide)) (by decide)) (by first | omega | exact Nat.le_trans (wl_small (by decide)) (by decide)) (by first | omega | exact Nat.le_trans (wl_small (by decide)) (by decide))) (by rfl) ?_
  simp only [Act.put, List.setIfInBounds_toArray, List.set_cons_zero, List.set_cons_succ]
  refine wpPlan_nil (hT.out _ _ ?_); clear hT T
  intro vw1 hg
  simp only [puts, Act.put, List.setIfInBounds_toArray, List.set_cons_zero, List.set_cons_succ, List.drop_succ_cons, List.drop_zero, ↓reduceIte, Nat.reduceEqDiff]
  clear lx0
  have HG := Lib.hid (hg)
  clear hg
  have bx0 := BX0.out.gr HG.out; clear BX0
  have r0 := Gr.refl vw1
  have BX0 := Lib.hid bx0; clear bx0
  go_wp2
  refine hK.out _ _ ?_; clear hK K
  show Code.wp _ _ _ _ _
  clear r0
  have hsz : w.heap.size ≤ vw1.heap.size := Nat.le_trans HB.out.size HG.out.size
  have mx0 : w.heap.size < vw1.heap.size := BX0.out.lt
  refine forgetW (fun w2 => Bx w2 (w.heap.size) 27 #[.int .i64 (n0x), .int .u32 (d0x), .int .i64 (n0y), .int .u32 (d0y), .int .i64 (n1x), .int .u32 (d1x), .int .i64 (n1y), .int .u32 (d1y), .int .i64 (n2x), .int .u32 (d2x), .int .i64 (n2y), .int .u32 (d2y), .int .i64 (n3x), .int .u32 (d3x), .int .i64 (n3y), .int .u32 (d3y), .int .i64 (n4x), .int .u32 (d4x), .int .i64 (n4y), .int .u32 (d4y)] ∧ Bx w2 (vw1.heap.size) 38 #[.int .u64 ((lo (Int.natAbs ((u1).num)) : Nat) : Int), .string (bg (Int.natAbs ((u1).num))), .bool (decide (((u1).num) < 0)), .int .u64 ((lo ((u1).den - 1) : Nat) : Int), .string (bg ((u1).den - 1)), .int .u64 ((lo (Int.natAbs ((u2).num)) : Nat) : Int), .string (bg (Int.natAbs ((u2).num))), .bool (decide (((u2).num) < 0)), .int .u64 ((lo ((u2).den - 1) : Nat) : Int), .string (bg ((u2).den - 1))] ∧ Below w.heap.size w w2) ⟨(BX0.out).alloc _, (Bx.at (by simp) : Bx _ (vw1.heap.size) _ _), (HB.out.trans (HG.out.mono HB.out.size)).alloc (by first | omega | (simp; omega)) _⟩ ?_
  clear HB HG BX0
  rintro Wx1 ⟨bx0, bx1, HB⟩
  replace HB := Lib.hid HB
  have yx1 : w.heap.size ≤ vw1.heap.size := by omega
  have qx0_1 : w.heap.size < vw1.heap.size := by omega
  generalize hx1 : vw1.heap.size = gx1 at *
  clear hx1
  clear hsz mx0
  -- region 2
  obtain ⟨u3, HZ3⟩ : ∃ z, Hid (qv (n1x) (d1x) = z) := ⟨_, Lib.hid rfl⟩
  have su3 : sz u3 ≤ 4 := by rw [← HZ3.out]; exact sz_qv (n1x) (d1x) (by first | omega | exact Nat.le_trans (wl_small (by decide)) (by decide)) (by first | omega | exact Nat.le_trans (wl_small (by decide)) (by decide)) (by first | omega | exact Nat.le_trans (wl_small (by decide)) (by decide)) (by first | omega | exact Nat.le_trans (wl_small (by decide)) (by decide))
  obtain ⟨u4, HZ4⟩ : ∃ z, Hid (qv (n1y) (d1y) = z) := ⟨_, Lib.hid rfl⟩
  have su4 : sz u4 ≤ 4 := by rw [← HZ4.out]; exact sz_qv (n1y) (d1y) (by first | omega | exact Nat.le_trans (wl_small (by decide)) (by decide)) (by first | omega | exact Nat.le_trans (wl_small (by decide)) (by decide)) (by first | omega | exact Nat.le_trans (wl_small (by decide)) (by decide)) (by first | omega | exact Nat.le_trans (wl_small (by decide)) (by decide))
  obtain ⟨u5, HZ5⟩ : ∃ z, Hid ((u3) - (u1) = z) := ⟨_, Lib.hid rfl⟩
  have su5 : sz u5 ≤ 9 := by rw [← HZ5.out]; have := sz_sub (u3) (u1); omega
  obtain ⟨u6, HZ6⟩ : ∃ z, Hid ((u4) - (u2) = z) := ⟨_, Lib.hid rfl⟩
  have su6 : sz u6 ≤ 9 := by rw [← HZ6.out]; have := sz_sub (u4) (u2); omega
  have lx0 := bx0.cells
  have lx1 := bx1.cells
  have BX0 := Lib.hid bx0
  have BX1 := Lib.hid bx1
  clear bx0 bx1
  refine wp_seq_k fun K hK => ?_
  replace hK := Lib.hid hK
  refine wp_region_plan 6 [5] [] (fun _ => 4) (fun _ => .cells #[.int .u64 0, .string ⟨#[]⟩, .bool false, .int .u64 0, .string ⟨#[]⟩, .int .u64 0, .string ⟨#[]⟩, .bool false, .int .u64 0, .string ⟨#[]⟩] 38) [(true, 0), (true, 1), (true, 3), (true, 2), (true, 4)] (by kernel_rfl) (by kernel_rfl) (by intro i hi; simp only [List.mem_cons, List.not_mem_nil, or_false] at hi; rcases hi with rfl <;> exact ⟨_, rfl, rfl, rfl, by simp, fun ρ w => by kernel_rfl⟩) (fun i hi => by cases hi) (fun _ _ _ _ _ h => h) (fun T hT => ?_)
  iterate 3
    refine wpPlan_takeL (v := ?_) rfl (by rfl) (fun w' hw => ?_) ?_
    rotate_left
    · go_simp
      with_reducible rfl
    simp only [Act.put, List.setIfInBounds_toArray, List.set_cons_zero, List.set_cons_succ]
  refine wpPlan_callL rfl (by rfl) Try.call7 (fun w' hw => pof_any (n1x) (d1x) (n1y) (d1y) (u3) (u4) _ HZ3.out HZ4.out (by first | omega | exact Nat.le_trans (wl_small (by decide)) (by decide)) (by first | omega | exact Nat.le_trans (wl_small (by decide)) (by decide)) (by first | omega | exact Nat.le_trans (wl_small (by decide)) (by decide)) (by first | omega | exact Nat.le_trans (wl_small (by decide)) (by decide)) (by first | omega | exact Nat.le_trans (wl_small (by decide)) (by decide)) (by first | omega | exact Nat.le_trans (wl_small (by decide)) (by decide)) (by first | omega | exact Nat.le_trans (wl_small (by decide)) (by decide)) (by first | omega | exact Nat.le_trans (wl_small (by decide)) (by decide))) (by rfl) ?_
  simp only [Act.put, List.setIfInBounds_toArray, List.set_cons_zero, List.set_cons_succ]
  refine wpPlan_callL rfl (by rfl) Try.call8 (fun w' hw => psub_any (u3) (u4) (u1) (u2) (u5) (u6) _ HZ5.out HZ6.out (by first | omega | exact Nat.le_trans (wl_small (by decide)) (by decide)) (by first | omega | exact Nat.le_trans (wl_small (by decide)) (by decide)) (by first | omega | exact Nat.le_trans (wl_small (by decide)) (by decide)) (by first | omega | exact Nat.le_trans (wl_small (by decide)) (by decide))) (by rfl) ?_
  simp only [Act.put, List.setIfInBounds_toArray, List.set_cons_zero, List.set_cons_succ]
  refine wpPlan_nil (hT.out _ _ ?_); clear hT T
  intro G vw2 hg hf
  simp only [puts, Act.put, List.setIfInBounds_toArray, List.set_cons_zero, List.set_cons_succ, List.drop_succ_cons, List.drop_zero, ↓reduceIte, Nat.reduceEqDiff]
  clear lx0 lx1
  have HG := Lib.hid (hg)
  clear hg
  have bx2 := Bx.of_fresh hf (i := 5) (by decide) rfl
  have yx2 := (hf.1 5 (by decide)).1
  clear hf
  generalize G 5 = gx2 at *
  have qx0_2 : w.heap.size < gx2 := Nat.lt_of_lt_of_le BX0.out.lt yx2
  have qx1_2 : gx1 < gx2 := Nat.lt_of_lt_of_le BX1.out.lt yx2
  replace yx2 : w.heap.size ≤ gx2 := Nat.le_trans HB.out.size yx2
  have bx0 := BX0.out.gr HG.out; clear BX0
  have bx1 := BX1.out.gr HG.out; clear BX1
  have lx2 := bx2.cells; have fx2 := bx2.free
  have r0 := Gr.refl vw2
  have BX0 := Lib.hid bx0; clear bx0
  have BX1 := Lib.hid bx1; clear bx1
  have BX2 := Lib.hid bx2; clear bx2
  go_wp2
  refine hK.out _ _ ?_; clear hK K
  show Code.wp _ _ _ _ _
  clear lx2 fx2
  clear r0
  refine forgetW (fun w2 => Bx w2 (w.heap.size) 27 #[.int .i64 (n0x), .int .u32 (d0x), .int .i64 (n0y), .int .u32 (d0y), .int .i64 (n1x), .int .u32 (d1x), .int .i64 (n1y), .int .u32 (d1y), .int .i64 (n2x), .int .u32 (d2x), .int .i64 (n2y), .int .u32 (d2y), .int .i64 (n3x), .int .u32 (d3x), .int .i64 (n3y), .int .u32 (d3y), .int .i64 (n4x), .int .u32 (d4x), .int .i64 (n4y), .int .u32 (d4y)] ∧ Bx w2 gx1 38 #[.int .u64 ((lo (Int.natAbs ((u1).num)) : Nat) : Int), .string (bg (Int.natAbs ((u1).num))), .bool (decide (((u1).num) < 0)), .int .u64 ((lo ((u1).den - 1) : Nat) : Int), .string (bg ((u1).den - 1)), .int .u64 ((lo (Int.natAbs ((u2).num)) : Nat) : Int), .string (bg (Int.natAbs ((u2).num))), .bool (decide (((u2).num) < 0)), .int .u64 ((lo ((u2).den - 1) : Nat) : Int), .string (bg ((u2).den - 1))] ∧ Bx w2 gx2 38 #[.int .u64 ((lo (Int.natAbs ((u5).num)) : Nat) : Int), .string (bg (Int.natAbs ((u5).num))), .bool (decide (((u5).num) < 0)), .int .u64 ((lo ((u5).den - 1) : Nat) : Int), .string (bg ((u5).den - 1)), .int .u64 ((lo (Int.natAbs ((u6).num)) : Nat) : Int), .string (bg (Int.natAbs ((u6).num))), .bool (decide (((u6).num) < 0)), .int .u64 ((lo ((u6).den - 1) : Nat) : Int), .string (bg ((u6).den - 1))] ∧ Below w.heap.size w w2) ⟨((((((((((BX0.out).setOther (by show w.heap.size ≠ gx2; omega) _).setOther (by show w.heap.size ≠ gx2; omega) _).setOther (by show w.heap.size ≠ gx2; omega) _).setOther (by show w.heap.size ≠ gx2; omega) _).setOther (by show w.heap.size ≠ gx2; omega) _).setOther (by show w.heap.size ≠ gx2; omega) _).setOther (by show w.heap.size ≠ gx2; omega) _).setOther (by show w.heap.size ≠ gx2; omega) _).setOther (by show w.heap.size ≠ gx2; omega) _).setOther (by show w.heap.size ≠ gx2; omega) _, ((((((((((BX1.out).setOther (by show gx1 ≠ gx2; omega) _).setOther (by show gx1 ≠ gx2; omega) _).setOther (by show gx1 ≠ gx2; omega) _).setOther (by show gx1 ≠ gx2; omega) _).setOther (by show gx1 ≠ gx2; omega) _).setOther (by show gx1 ≠ gx2; omega) _).setOther (by show gx1 ≠ gx2; omega) _).setOther (by show gx1 ≠ gx2; omega) _).setOther (by show gx1 ≠ gx2; omega) _).setOther (by show gx1 ≠ gx2; omega) _, (((((((((((BX2.out).set 0 _).set 1 _).set 2 _).set 3 _).set 4 _).set 5 _).set 6 _).set 7 _).set 8 _).set 9 _).eq (by simp only [List.setIfInBounds_toArray, List.set_cons_zero, List.set_cons_succ]), ((((((((((HB.out.trans (HG.out.mono HB.out.size)).setCell (by show w.heap.size ≤ gx2; omega) _).setCell (by show w.heap.size ≤ gx2; omega) _).setCell (by show w.heap.size ≤ gx2; omega) _).setCell (by show w.heap.size ≤ gx2; omega) _).setCell (by show w.heap.size ≤ gx2; omega) _).setCell (by show w.heap.size ≤ gx2; omega) _).setCell (by show w.heap.size ≤ gx2; omega) _).setCell (by show w.heap.size ≤ gx2; omega) _).setCell (by show w.heap.size ≤ gx2; omega) _).setCell (by show w.heap.size ≤ gx2; omega) _⟩ ?_
  clear HB HG BX0 BX1 BX2
  rintro Wx2 ⟨bx0, bx1, bx2, HB⟩
  replace HB := Lib.hid HB
  -- region 3
  obtain ⟨u7, HZ7⟩ : ∃ z, Hid (qv (n2x) (d2x) = z) := ⟨_, Lib.hid rfl⟩
  have su7 : sz u7 ≤ 4 := by rw [← HZ7.out]; exact sz_qv (n2x) (d2x) (by first | omega | exact Nat.le_trans (wl_small (by decide)) (by decide)) (by first | omega | exact Nat.le_trans (wl_small (by decide)) (by decide)) (by first | omega | exact Nat.le_trans (wl_small (by decide)) (by decide)) (by first | omega | exact Nat.le_trans (wl_small (by decide)) (by decide))
  obtain ⟨u8, HZ8⟩ : ∃ z, Hid (qv (n2y) (d2y) = z) := ⟨_, Lib.hid rfl⟩
  have su8 : sz u8 ≤ 4 := by rw [← HZ8.out]; exact sz_qv (n2y) (d2y) (by first | omega | exact Nat.le_trans (wl_small (by decide)) (by decide)) (by first | omega | exact Nat.le_trans (wl_small (by decide)) (by decide)) (by first | omega | exact Nat.le_trans (wl_small (by decide)) (by decide)) (by first | omega | exact Nat.le_trans (wl_small (by decide)) (by decide))
  obtain ⟨u9, HZ9⟩ : ∃ z, Hid ((u7) - (u1) = z) := ⟨_, Lib.hid rfl⟩
  have su9 : sz u9 ≤ 9 := by rw [← HZ9.out]; have := sz_sub (u7) (u1); omega
  obtain ⟨u10, HZ10⟩ : ∃ z, Hid ((u8) - (u2) = z) := ⟨_, Lib.hid rfl⟩
  have su10 : sz u10 ≤ 9 := by rw [← HZ10.out]; have := sz_sub (u8) (u2); omega
  have lx0 := bx0.cells
  have lx1 := bx1.cells
  have BX0 := Lib.hid bx0
  have BX1 := Lib.hid bx1
  have BX2 := Lib.hid bx2
  clear bx0 bx1 bx2
  refine wp_seq_k fun K hK => ?_
  replace hK := Lib.hid hK
  refine wp_region_plan 6 [5] [] (fun _ => 5) (fun _ => .cells #[.int .u64 0, .string ⟨#[]⟩, .bool false, .int .u64 0, .string ⟨#[]⟩, .int .u64 0, .string ⟨#[]⟩, .bool false, .int .u64 0, .string ⟨#[]⟩] 38) [(true, 0), (true, 1), (true, 3), (true, 2), (true, 4)] (by kernel_rfl) (by kernel_rfl) (by intro i hi; simp only [List.mem_cons, List.not_mem_nil, or_false] at hi; rcases hi with rfl <;> exact ⟨_, rfl, rfl, rfl, by simp, fun ρ w => by kernel_rfl⟩) (fun i hi => by cases hi) (fun _ _ _ _ _ h => h) (fun T hT => ?_)
  iterate 3
    refine wpPlan_takeL (v := ?_) rfl (by rfl) (fun w' hw => ?_) ?_
    rotate_left
    · go_simp
      with_reducible rfl
    simp only [Act.put, List.setIfInBounds_toArray, List.set_cons_zero, List.set_cons_succ]
  refine wpPlan_callL rfl (by rfl) Try.call7 (fun w' hw => pof_any (n2x) (d2x) (n2y) (d2y) (u7) (u8) _ HZ7.out HZ8.out (by first | omega | exact Nat.le_trans (wl_small (by decide)) (by decide)) (by first | omega | exact Nat.le_trans (wl_small (by decide)) (by decide)) (by first | omega | exact Nat.le_trans (wl_small (by decide)) (by decide)) (by first | omega | exact Nat.le_trans (wl_small (by decide)) (by decide)) (by first | omega | exact Nat.le_trans (wl_small (by decide)) (by decide)) (by first | omega | exact Nat.le_trans (wl_small (by decide)) (by decide)) (by first | omega | exact Nat.le_trans (wl_small (by decide)) (by decide)) (by first | omega | exact Nat.le_trans (wl_small (by decide)) (by decide))) (by rfl) ?_
  simp only [Act.put, List.setIfInBounds_toArray, List.set_cons_zero, List.set_cons_succ]
  refine wpPlan_callL rfl (by rfl) Try.call8 (fun w' hw => psub_any (u7) (u8) (u1) (u2) (u9) (u10) _ HZ9.out HZ10.out (by first | omega | exact Nat.le_trans (wl_small (by decide)) (by decide)) (by first | omega | exact Nat.le_trans (wl_small (by decide)) (by decide)) (by first | omega | exact Nat.le_trans (wl_small (by decide)) (by decide)) (by first | omega | exact Nat.le_trans (wl_small (by decide)) (by decide))) (by rfl) ?_
  simp only [Act.put, List.setIfInBounds_toArray, List.set_cons_zero, List.set_cons_succ]
  refine wpPlan_nil (hT.out _ _ ?_); clear hT T
  intro G vw3 hg hf
  simp only [puts, Act.put, List.setIfInBounds_toArray, List.set_cons_zero, List.set_cons_succ, List.drop_succ_cons, List.drop_zero, ↓reduceIte, Nat.reduceEqDiff]
  clear lx0 lx1
  have HG := Lib.hid (hg)
  clear hg
  have bx3 := Bx.of_fresh hf (i := 5) (by decide) rfl
  have yx3 := (hf.1 5 (by decide)).1
  clear hf
  generalize G 5 = gx3 at *
  have qx0_3 : w.heap.size < gx3 := Nat.lt_of_lt_of_le BX0.out.lt yx3
  have qx1_3 : gx1 < gx3 := Nat.lt_of_lt_of_le BX1.out.lt yx3
  have qx2_3 : gx2 < gx3 := Nat.lt_of_lt_of_le BX2.out.lt yx3
  replace yx3 : w.heap.size ≤ gx3 := Nat.le_trans HB.out.size yx3
  have bx0 := BX0.out.gr HG.out; clear BX0
  have bx1 := BX1.out.gr HG.out; clear BX1
  have bx2 := BX2.out.gr HG.out; clear BX2
  have lx3 := bx3.cells; have fx3 := bx3.free
  have r0 := Gr.refl vw3
  have BX0 := Lib.hid bx0; clear bx0
  have BX1 := Lib.hid bx1; clear bx1
  have BX2 := Lib.hid bx2; clear bx2
  have BX3 := Lib.hid bx3; clear bx3
  go_wp2
  refine hK.out _ _ ?_; clear hK K
  show Code.wp _ _ _ _ _
  clear lx3 fx3
  clear r0
  refine forgetW (fun w2 => Bx w2 (w.heap.size) 27 #[.int .i64 (n0x), .int .u32 (d0x), .int .i64 (n0y), .int .u32 (d0y), .int .i64 (n1x), .int .u32 (d1x), .int .i64 (n1y), .int .u32 (d1y), .int .i64 (n2x), .int .u32 (d2x), .int .i64 (n2y), .int .u32 (d2y), .int .i64 (n3x), .int .u32 (d3x), .int .i64 (n3y), .int .u32 (d3y), .int .i64 (n4x), .int .u32 (d4x), .int .i64 (n4y), .int .u32 (d4y)] ∧ Bx w2 gx1 38 #[.int .u64 ((lo (Int.natAbs ((u1).num)) : Nat) : Int), .string (bg (Int.natAbs ((u1).num))), .bool (decide (((u1).num) < 0)), .int .u64 ((lo ((u1).den - 1) : Nat) : Int), .string (bg ((u1).den - 1)), .int .u64 ((lo (Int.natAbs ((u2).num)) : Nat) : Int), .string (bg (Int.natAbs ((u2).num))), .bool (decide (((u2).num) < 0)), .int .u64 ((lo ((u2).den - 1) : Nat) : Int), .string (bg ((u2).den - 1))] ∧ Bx w2 gx2 38 #[.int .u64 ((lo (Int.natAbs ((u5).num)) : Nat) : Int), .string (bg (Int.natAbs ((u5).num))), .bool (decide (((u5).num) < 0)), .int .u64 ((lo ((u5).den - 1) : Nat) : Int), .string (bg ((u5).den - 1)), .int .u64 ((lo (Int.natAbs ((u6).num)) : Nat) : Int), .string (bg (Int.natAbs ((u6).num))), .bool (decide (((u6).num) < 0)), .int .u64 ((lo ((u6).den - 1) : Nat) : Int), .string (bg ((u6).den - 1))] ∧ Bx w2 gx3 38 #[.int .u64 ((lo (Int.natAbs ((u9).num)) : Nat) : Int), .string (bg (Int.natAbs ((u9).num))), .bool (decide (((u9).num) < 0)), .int .u64 ((lo ((u9).den - 1) : Nat) : Int), .string (bg ((u9).den - 1)), .int .u64 ((lo (Int.natAbs ((u10).num)) : Nat) : Int), .string (bg (Int.natAbs ((u10).num))), .bool (decide (((u10).num) < 0)), .int .u64 ((lo ((u10).den - 1) : Nat) : Int), .string (bg ((u10).den - 1))] ∧ Below w.heap.size w w2) ⟨((((((((((BX0.out).setOther (by show w.heap.size ≠ gx3; omega) _).setOther (by show w.heap.size ≠ gx3; omega) _).setOther (by show w.heap.size ≠ gx3; omega) _).setOther (by show w.heap.size ≠ gx3; omega) _).setOther (by show w.heap.size ≠ gx3; omega) _).setOther (by show w.heap.size ≠ gx3; omega) _).setOther (by show w.heap.size ≠ gx3; omega) _).setOther (by show w.heap.size ≠ gx3; omega) _).setOther (by show w.heap.size ≠ gx3; omega) _).setOther (by show w.heap.size ≠ gx3; omega) _, ((((((((((BX1.out).setOther (by show gx1 ≠ gx3; omega) _).setOther (by show gx1 ≠ gx3; omega) _).setOther (by show gx1 ≠ gx3; omega) _).setOther (by show gx1 ≠ gx3; omega) _).setOther (by show gx1 ≠ gx3; omega) _).setOther (by show gx1 ≠ gx3; omega) _).setOther (by show gx1 ≠ gx3; omega) _).setOther (by show gx1 ≠ gx3; omega) _).setOther (by show gx1 ≠ gx3; omega) _).setOther (by show gx1 ≠ gx3; omega) _, ((((((((((BX2.out).setOther (by show gx2 ≠ gx3; omega) _).setOther (by show gx2 ≠ gx3; omega) _).setOther (by show gx2 ≠ gx3; omega) _).setOther (by show gx2 ≠ gx3; omega) _).setOther (by show gx2 ≠ gx3; omega) _).setOther (by show gx2 ≠ gx3; omega) _).setOther (by show gx2 ≠ gx3; omega) _).setOther (by show gx2 ≠ gx3; omega) _).setOther (by show gx2 ≠ gx3; omega) _).setOther (by show gx2 ≠ gx3; omega) _, (((((((((((BX3.out).set 0 _).set 1 _).set 2 _).set 3 _).set 4 _).set 5 _).set 6 _).set 7 _).set 8 _).set 9 _).eq (by simp only [List.setIfInBounds_toArray, List.set_cons_zero, List.set_cons_succ]), ((((((((((HB.out.trans (HG.out.mono HB.out.size)).setCell (by show w.heap.size ≤ gx3; omega) _).setCell (by show w.heap.size ≤ gx3; omega) _).setCell (by show w.heap.size ≤ gx3; omega) _).setCell (by show w.heap.size ≤ gx3; omega) _).setCell (by show w.heap.size ≤ gx3; omega) _).setCell (by show w.heap.size ≤ gx3; omega) _).setCell (by show w.heap.size ≤ gx3; omega) _).setCell (by show w.heap.size ≤ gx3; omega) _).setCell (by show w.heap.size ≤ gx3; omega) _).setCell (by show w.heap.size ≤ gx3; omega) _⟩ ?_
  clear HB HG BX0 BX1 BX2 BX3
  rintro Wx3 ⟨bx0, bx1, bx2, bx3, HB⟩
  replace HB := Lib.hid HB
  -- region 4
  obtain ⟨u11, HZ11⟩ : ∃ z, Hid (qv (n3x) (d3x) = z) := ⟨_, Lib.hid rfl⟩
  have su11 : sz u11 ≤ 4 := by rw [← HZ11.out]; exact sz_qv (n3x) (d3x) (by first | omega | exact Nat.le_trans (wl_small (by decide)) (by decide)) (by first | omega | exact Nat.le_trans (wl_small (by decide)) (by decide)) (by first | omega | exact Nat.le_trans (wl_small (by decide)) (by decide)) (by first | omega | exact Nat.le_trans (wl_small (by decide)) (by decide))
  obtain ⟨u12, HZ12⟩ : ∃ z, Hid (qv (n3y) (d3y) = z) := ⟨_, Lib.hid rfl⟩
  have su12 : sz u12 ≤ 4 := by rw [← HZ12.out]; exact sz_qv (n3y) (d3y) (by first | omega | exact Nat.le_trans (wl_small (by decide)) (by decide)) (by first | omega | exact Nat.le_trans (wl_small (by decide)) (by decide)) (by first | omega | exact Nat.le_trans (wl_small (by decide)) (by decide)) (by first | omega | exact Nat.le_trans (wl_small (by decide)) (by decide))
  obtain ⟨u13, HZ13⟩ : ∃ z, Hid ((u11) - (u1) = z) := ⟨_, Lib.hid rfl⟩
  have su13 : sz u13 ≤ 9 := by rw [← HZ13.out]; have := sz_sub (u11) (u1); omega
  obtain ⟨u14, HZ14⟩ : ∃ z, Hid ((u12) - (u2) = z) := ⟨_, Lib.hid rfl⟩
  have su14 : sz u14 ≤ 9 := by rw [← HZ14.out]; have := sz_sub (u12) (u2); omega
  have lx0 := bx0.cells
  have lx1 := bx1.cells
  have BX0 := Lib.hid bx0
  have BX1 := Lib.hid bx1
  have BX2 := Lib.hid bx2
  have BX3 := Lib.hid bx3
  clear bx0 bx1 bx2 bx3
  refine wp_seq_k fun K hK => ?_
  replace hK := Lib.hid hK
  refine wp_region_plan 6 [5] [] (fun _ => 6) (fun _ => .cells #[.int .u64 0, .string ⟨#[]⟩, .bool false, .int .u64 0, .string ⟨#[]⟩, .int .u64 0, .string ⟨#[]⟩, .bool false, .int .u64 0, .string ⟨#[]⟩] 38) [(true, 0), (true, 1), (true, 3), (true, 2), (true, 4)] (by kernel_rfl) (by kernel_rfl) (by intro i hi; simp only [List.mem_cons, List.not_mem_nil, or_false] at hi; rcases hi with rfl <;> exact ⟨_, rfl, rfl, rfl, by simp, fun ρ w => by kernel_rfl⟩) (fun i hi => by cases hi) (fun _ _ _ _ _ h => h) (fun T hT => ?_)
  iterate 3
    refine wpPlan_takeL (v := ?_) rfl (by rfl) (fun w' hw => ?_) ?_
    rotate_left
    · go_simp
      with_reducible rfl
    simp only [Act.put, List.setIfInBounds_toArray, List.set_cons_zero, List.set_cons_succ]
  refine wpPlan_callL rfl (by rfl) Try.call7 (fun w' hw => pof_any (n3x) (d3x) (n3y) (d3y) (u11) (u12) _ HZ11.out HZ12.out (by first | omega | exact Nat.le_trans (wl_small (by decide)) (by decide)) (by first | omega | exact Nat.le_trans (wl_small (by decide)) (by decide)) (by first | omega | exact Nat.le_trans (wl_small (by decide)) (by decide)) (by first | omega | exact Nat.le_trans (wl_small (by decide)) (by decide)) (by first | omega | exact Nat.le_trans (wl_small (by decide)) (by decide)) (by first | omega | exact Nat.le_trans (wl_small (by decide)) (by decide)) (by first | omega | exact Nat.le_trans (wl_small (by decide)) (by decide)) (by first | omega | exact Nat.le_trans (wl_small (by decide)) (by decide))) (by rfl) ?_
  simp only [Act.put, List.setIfInBounds_toArray, List.set_cons_zero, List.set_cons_succ]
  refine wpPlan_callL rfl (by rfl) Try.call8 (fun w' hw => psub_any (u11) (u12) (u1) (u2) (u13) (u14) _ HZ13.out HZ14.out (by first | omega | exact Nat.le_trans (wl_small (by decide)) (by decide)) (by first | omega | exact Nat.le_trans (wl_small (by decide)) (by decide)) (by first | omega | exact Nat.le_trans (wl_small (by decide)) (by decide)) (by first | omega | exact Nat.le_trans (wl_small (by decide)) (by decide))) (by rfl) ?_
  simp only [Act.put, List.setIfInBounds_toArray, List.set_cons_zero, List.set_cons_succ]
  refine wpPlan_nil (hT.out _ _ ?_); clear hT T
  intro G vw4 hg hf
  simp only [puts, Act.put, List.setIfInBounds_toArray, List.set_cons_zero, List.set_cons_succ, List.drop_succ_cons, List.drop_zero, ↓reduceIte, Nat.reduceEqDiff]
  clear lx0 lx1
  have HG := Lib.hid (hg)
  clear hg
  have bx4 := Bx.of_fresh hf (i := 5) (by decide) rfl
  have yx4 := (hf.1 5 (by decide)).1
  clear hf
  generalize G 5 = gx4 at *
  have qx0_4 : w.heap.size < gx4 := Nat.lt_of_lt_of_le BX0.out.lt yx4
  have qx1_4 : gx1 < gx4 := Nat.lt_of_lt_of_le BX1.out.lt yx4
  have qx2_4 : gx2 < gx4 := Nat.lt_of_lt_of_le BX2.out.lt yx4
  have qx3_4 : gx3 < gx4 := Nat.lt_of_lt_of_le BX3.out.lt yx4
  replace yx4 : w.heap.size ≤ gx4 := Nat.le_trans HB.out.size yx4
  have bx0 := BX0.out.gr HG.out; clear BX0
  have bx1 := BX1.out.gr HG.out; clear BX1
  have bx2 := BX2.out.gr HG.out; clear BX2
  have bx3 := BX3.out.gr HG.out; clear BX3
  have lx4 := bx4.cells; have fx4 := bx4.free
  have r0 := Gr.refl vw4
  have BX0 := Lib.hid bx0; clear bx0
  have BX1 := Lib.hid bx1; clear bx1
  have BX2 := Lib.hid bx2; clear bx2
  have BX3 := Lib.hid bx3; clear bx3
  have BX4 := Lib.hid bx4; clear bx4
  go_wp2
  refine hK.out _ _ ?_; clear hK K
  show Code.wp _ _ _ _ _
  clear lx4 fx4
  clear r0
  refine forgetW (fun w2 => Bx w2 (w.heap.size) 27 #[.int .i64 (n0x), .int .u32 (d0x), .int .i64 (n0y), .int .u32 (d0y), .int .i64 (n1x), .int .u32 (d1x), .int .i64 (n1y), .int .u32 (d1y), .int .i64 (n2x), .int .u32 (d2x), .int .i64 (n2y), .int .u32 (d2y), .int .i64 (n3x), .int .u32 (d3x), .int .i64 (n3y), .int .u32 (d3y), .int .i64 (n4x), .int .u32 (d4x), .int .i64 (n4y), .int .u32 (d4y)] ∧ Bx w2 gx1 38 #[.int .u64 ((lo (Int.natAbs ((u1).num)) : Nat) : Int), .string (bg (Int.natAbs ((u1).num))), .bool (decide (((u1).num) < 0)), .int .u64 ((lo ((u1).den - 1) : Nat) : Int), .string (bg ((u1).den - 1)), .int .u64 ((lo (Int.natAbs ((u2).num)) : Nat) : Int), .string (bg (Int.natAbs ((u2).num))), .bool (decide (((u2).num) < 0)), .int .u64 ((lo ((u2).den - 1) : Nat) : Int), .string (bg ((u2).den - 1))] ∧ Bx w2 gx2 38 #[.int .u64 ((lo (Int.natAbs ((u5).num)) : Nat) : Int), .string (bg (Int.natAbs ((u5).num))), .bool (decide (((u5).num) < 0)), .int .u64 ((lo ((u5).den - 1) : Nat) : Int), .string (bg ((u5).den - 1)), .int .u64 ((lo (Int.natAbs ((u6).num)) : Nat) : Int), .string (bg (Int.natAbs ((u6).num))), .bool (decide (((u6).num) < 0)), .int .u64 ((lo ((u6).den - 1) : Nat) : Int), .string (bg ((u6).den - 1))] ∧ Bx w2 gx3 38 #[.int .u64 ((lo (Int.natAbs ((u9).num)) : Nat) : Int), .string (bg (Int.natAbs ((u9).num))), .bool (decide (((u9).num) < 0)), .int .u64 ((lo ((u9).den - 1) : Nat) : Int), .string (bg ((u9).den - 1)), .int .u64 ((lo (Int.natAbs ((u10).num)) : Nat) : Int), .string (bg (Int.natAbs ((u10).num))), .bool (decide (((u10).num) < 0)), .int .u64 ((lo ((u10).den - 1) : Nat) : Int), .string (bg ((u10).den - 1))] ∧ Bx w2 gx4 38 #[.int .u64 ((lo (Int.natAbs ((u13).num)) : Nat) : Int), .string (bg (Int.natAbs ((u13).num))), .bool (decide (((u13).num) < 0)), .int .u64 ((lo ((u13).den - 1) : Nat) : Int), .string (bg ((u13).den - 1)), .int .u64 ((lo (Int.natAbs ((u14).num)) : Nat) : Int), .string (bg (Int.natAbs ((u14).num))), .bool (decide (((u14).num) < 0)), .int .u64 ((lo ((u14).den - 1) : Nat) : Int), .string (bg ((u14).den - 1))] ∧ Below w.heap.size w w2) ⟨((((((((((BX0.out).setOther (by show w.heap.size ≠ gx4; omega) _).setOther (by show w.heap.size ≠ gx4; omega) _).setOther (by show w.heap.size ≠ gx4; omega) _).setOther (by show w.heap.size ≠ gx4; omega) _).setOther (by show w.heap.size ≠ gx4; omega) _).setOther (by show w.heap.size ≠ gx4; omega) _).setOther (by show w.heap.size ≠ gx4; omega) _).setOther (by show w.heap.size ≠ gx4; omega) _).setOther (by show w.heap.size ≠ gx4; omega) _).setOther (by show w.heap.size ≠ gx4; omega) _, ((((((((((BX1.out).setOther (by show gx1 ≠ gx4; omega) _).setOther (by show gx1 ≠ gx4; omega) _).setOther (by show gx1 ≠ gx4; omega) _).setOther (by show gx1 ≠ gx4; omega) _).setOther (by show gx1 ≠ gx4; omega) _).setOther (by show gx1 ≠ gx4; omega) _).setOther (by show gx1 ≠ gx4; omega) _).setOther (by show gx1 ≠ gx4; omega) _).setOther (by show gx1 ≠ gx4; omega) _).setOther (by show gx1 ≠ gx4; omega) _, ((((((((((BX2.out).setOther (by show gx2 ≠ gx4; omega) _).setOther (by show gx2 ≠ gx4; omega) _).setOther (by show gx2 ≠ gx4; omega) _).setOther (by show gx2 ≠ gx4; omega) _).setOther (by show gx2 ≠ gx4; omega) _).setOther (by show gx2 ≠ gx4; omega) _).setOther (by show gx2 ≠ gx4; omega) _).setOther (by show gx2 ≠ gx4; omega) _).setOther (by show gx2 ≠ gx4; omega) _).setOther (by show gx2 ≠ gx4; omega) _, ((((((((((BX3.out).setOther (by show gx3 ≠ gx4; omega) _).setOther (by show gx3 ≠ gx4; omega) _).setOther (by show gx3 ≠ gx4; omega) _).setOther (by show gx3 ≠ gx4; omega) _).setOther (by show gx3 ≠ gx4; omega) _).setOther (by show gx3 ≠ gx4; omega) _).setOther (by show gx3 ≠ gx4; omega) _).setOther (by show gx3 ≠ gx4; omega) _).setOther (by show gx3 ≠ gx4; omega) _).setOther (by show gx3 ≠ gx4; omega) _, (((((((((((BX4.out).set 0 _).set 1 _).set 2 _).set 3 _).set 4 _).set 5 _).set 6 _).set 7 _).set 8 _).set 9 _).eq (by simp only [List.setIfInBounds_toArray, List.set_cons_zero, List.set_cons_succ]), ((((((((((HB.out.trans (HG.out.mono HB.out.size)).setCell (by show w.heap.size ≤ gx4; omega) _).setCell (by show w.heap.size ≤ gx4; omega) _).setCell (by show w.heap.size ≤ gx4; omega) _).setCell (by show w.heap.size ≤ gx4; omega) _).setCell (by show w.heap.size ≤ gx4; omega) _).setCell (by show w.heap.size ≤ gx4; omega) _).setCell (by show w.heap.size ≤ gx4; omega) _).setCell (by show w.heap.size ≤ gx4; omega) _).setCell (by show w.heap.size ≤ gx4; omega) _).setCell (by show w.heap.size ≤ gx4; omega) _⟩ ?_
  clear HB HG BX0 BX1 BX2 BX3 BX4
  rintro Wx4 ⟨bx0, bx1, bx2, bx3, bx4, HB⟩
  replace HB := Lib.hid HB
  -- region 5
  obtain ⟨u15, HZ15⟩ : ∃ z, Hid (qv (n4x) (d4x) = z) := ⟨_, Lib.hid rfl⟩
  have su15 : sz u15 ≤ 4 := by rw [← HZ15.out]; exact sz_qv (n4x) (d4x) (by first | omega | exact Nat.le_trans (wl_small (by decide)) (by decide)) (by first | omega | exact Nat.le_trans (wl_small (by decide)) (by decide)) (by first | omega | exact Nat.le_trans (wl_small (by decide)) (by decide)) (by first | omega | exact Nat.le_trans (wl_small (by decide)) (by decide))
  obtain ⟨u16, HZ16⟩ : ∃ z, Hid (qv (n4y) (d4y) = z) := ⟨_, Lib.hid rfl⟩
  have su16 : sz u16 ≤ 4 := by rw [← HZ16.out]; exact sz_qv (n4y) (d4y) (by first | omega | exact Nat.le_trans (wl_small (by decide)) (by decide)) (by first | omega | exact Nat.le_trans (wl_small (by decide)) (by decide)) (by first | omega | exact Nat.le_trans (wl_small (by decide)) (by decide)) (by first | omega | exact Nat.le_trans (wl_small (by decide)) (by decide))
  obtain ⟨u17, HZ17⟩ : ∃ z, Hid ((u15) - (u1) = z) := ⟨_, Lib.hid rfl⟩
  have su17 : sz u17 ≤ 9 := by rw [← HZ17.out]; have := sz_sub (u15) (u1); omega
  obtain ⟨u18, HZ18⟩ : ∃ z, Hid ((u16) - (u2) = z) := ⟨_, Lib.hid rfl⟩
  have su18 : sz u18 ≤ 9 := by rw [← HZ18.out]; have := sz_sub (u16) (u2); omega
  have lx0 := bx0.cells
  have lx1 := bx1.cells
  have BX0 := Lib.hid bx0
  have BX1 := Lib.hid bx1
  have BX2 := Lib.hid bx2
  have BX3 := Lib.hid bx3
  have BX4 := Lib.hid bx4
  clear bx0 bx1 bx2 bx3 bx4
  refine wp_seq_k fun K hK => ?_
  replace hK := Lib.hid hK
  refine wp_region_plan 6 [5] [] (fun _ => 7) (fun _ => .cells #[.int .u64 0, .string ⟨#[]⟩, .bool false, .int .u64 0, .string ⟨#[]⟩, .int .u64 0, .string ⟨#[]⟩, .bool false, .int .u64 0, .string ⟨#[]⟩] 38) [(true, 0), (true, 1), (true, 3), (true, 2), (true, 4)] (by kernel_rfl) (by kernel_rfl) (by intro i hi; simp only [List.mem_cons, List.not_mem_nil, or_false] at hi; rcases hi with rfl <;> exact ⟨_, rfl, rfl, rfl, by simp, fun ρ w => by kernel_rfl⟩) (fun i hi => by cases hi) (fun _ _ _ _ _ h => h) (fun T hT => ?_)
  iterate 3
    refine wpPlan_takeL (v := ?_) rfl (by rfl) (fun w' hw => ?_) ?_
    rotate_left
    · go_simp
      with_reducible rfl
    simp only [Act.put, List.setIfInBounds_toArray, List.set_cons_zero, List.set_cons_succ]
  refine wpPlan_callL rfl (by rfl) Try.call7 (fun w' hw => pof_any (n4x) (d4x) (n4y) (d4y) (u15) (u16) _ HZ15.out HZ16.out (by first | omega | exact Nat.le_trans (wl_small (by decide)) (by decide)) (by first | omega | exact Nat.le_trans (wl_small (by decide)) (by decide)) (by first | omega | exact Nat.le_trans (wl_small (by decide)) (by decide)) (by first | omega | exact Nat.le_trans (wl_small (by decide)) (by decide)) (by first | omega | exact Nat.le_trans (wl_small (by decide)) (by decide)) (by first | omega | exact Nat.le_trans (wl_small (by decide)) (by decide)) (by first | omega | exact Nat.le_trans (wl_small (by decide)) (by decide)) (by first | omega | exact Nat.le_trans (wl_small (by decide)) (by decide))) (by rfl) ?_
  simp only [Act.put, List.setIfInBounds_toArray, List.set_cons_zero, List.set_cons_succ]
  refine wpPlan_callL rfl (by rfl) Try.call8 (fun w' hw => psub_any (u15) (u16) (u1) (u2) (u17) (u18) _ HZ17.out HZ18.out (by first | omega | exact Nat.le_trans (wl_small (by decide)) (by decide)) (by first | omega | exact Nat.le_trans (wl_small (by decide)) (by decide)) (by first | omega | exact Nat.le_trans (wl_small (by decide)) (by decide)) (by first | omega | exact Nat.le_trans (wl_small (by decide)) (by decide))) (by rfl) ?_
  simp only [Act.put, List.setIfInBounds_toArray, List.set_cons_zero, List.set_cons_succ]
  refine wpPlan_nil (hT.out _ _ ?_); clear hT T
  intro G vw5 hg hf
  simp only [puts, Act.put, List.setIfInBounds_toArray, List.set_cons_zero, List.set_cons_succ, List.drop_succ_cons, List.drop_zero, ↓reduceIte, Nat.reduceEqDiff]
  clear lx0 lx1
  have HG := Lib.hid (hg)
  clear hg
  have bx5 := Bx.of_fresh hf (i := 5) (by decide) rfl
  have yx5 := (hf.1 5 (by decide)).1
  clear hf
  generalize G 5 = gx5 at *
  have qx0_5 : w.heap.size < gx5 := Nat.lt_of_lt_of_le BX0.out.lt yx5
  have qx1_5 : gx1 < gx5 := Nat.lt_of_lt_of_le BX1.out.lt yx5
  have qx2_5 : gx2 < gx5 := Nat.lt_of_lt_of_le BX2.out.lt yx5
  have qx3_5 : gx3 < gx5 := Nat.lt_of_lt_of_le BX3.out.lt yx5
  have qx4_5 : gx4 < gx5 := Nat.lt_of_lt_of_le BX4.out.lt yx5
  replace yx5 : w.heap.size ≤ gx5 := Nat.le_trans HB.out.size yx5
  have bx0 := BX0.out.gr HG.out; clear BX0
  have bx1 := BX1.out.gr HG.out; clear BX1
  have bx2 := BX2.out.gr HG.out; clear BX2
  have bx3 := BX3.out.gr HG.out; clear BX3
  have bx4 := BX4.out.gr HG.out; clear BX4
  have lx5 := bx5.cells; have fx5 := bx5.free
  have r0 := Gr.refl vw5
  have BX0 := Lib.hid bx0; clear bx0
  have BX1 := Lib.hid bx1; clear bx1
  have BX2 := Lib.hid bx2; clear bx2
  have BX3 := Lib.hid bx3; clear bx3
  have BX4 := Lib.hid bx4; clear bx4
  have BX5 := Lib.hid bx5; clear bx5
  go_wp2
  refine hK.out _ _ ?_; clear hK K
  show Code.wp _ _ _ _ _
  clear lx5 fx5
  clear r0
  refine forgetW (fun w2 => Bx w2 gx1 38 #[.int .u64 ((lo (Int.natAbs ((u1).num)) : Nat) : Int), .string (bg (Int.natAbs ((u1).num))), .bool (decide (((u1).num) < 0)), .int .u64 ((lo ((u1).den - 1) : Nat) : Int), .string (bg ((u1).den - 1)), .int .u64 ((lo (Int.natAbs ((u2).num)) : Nat) : Int), .string (bg (Int.natAbs ((u2).num))), .bool (decide (((u2).num) < 0)), .int .u64 ((lo ((u2).den - 1) : Nat) : Int), .string (bg ((u2).den - 1))] ∧ Bx w2 gx2 38 #[.int .u64 ((lo (Int.natAbs ((u5).num)) : Nat) : Int), .string (bg (Int.natAbs ((u5).num))), .bool (decide (((u5).num) < 0)), .int .u64 ((lo ((u5).den - 1) : Nat) : Int), .string (bg ((u5).den - 1)), .int .u64 ((lo (Int.natAbs ((u6).num)) : Nat) : Int), .string (bg (Int.natAbs ((u6).num))), .bool (decide (((u6).num) < 0)), .int .u64 ((lo ((u6).den - 1) : Nat) : Int), .string (bg ((u6).den - 1))] ∧ Bx w2 gx3 38 #[.int .u64 ((lo (Int.natAbs ((u9).num)) : Nat) : Int), .string (bg (Int.natAbs ((u9).num))), .bool (decide (((u9).num) < 0)), .int .u64 ((lo ((u9).den - 1) : Nat) : Int), .string (bg ((u9).den - 1)), .int .u64 ((lo (Int.natAbs ((u10).num)) : Nat) : Int), .string (bg (Int.natAbs ((u10).num))), .bool (decide (((u10).num) < 0)), .int .u64 ((lo ((u10).den - 1) : Nat) : Int), .string (bg ((u10).den - 1))] ∧ Bx w2 gx4 38 #[.int .u64 ((lo (Int.natAbs ((u13).num)) : Nat) : Int), .string (bg (Int.natAbs ((u13).num))), .bool (decide (((u13).num) < 0)), .int .u64 ((lo ((u13).den - 1) : Nat) : Int), .string (bg ((u13).den - 1)), .int .u64 ((lo (Int.natAbs ((u14).num)) : Nat) : Int), .string (bg (Int.natAbs ((u14).num))), .bool (decide (((u14).num) < 0)), .int .u64 ((lo ((u14).den - 1) : Nat) : Int), .string (bg ((u14).den - 1))] ∧ Bx w2 gx5 38 #[.int .u64 ((lo (Int.natAbs ((u17).num)) : Nat) : Int), .string (bg (Int.natAbs ((u17).num))), .bool (decide (((u17).num) < 0)), .int .u64 ((lo ((u17).den - 1) : Nat) : Int), .string (bg ((u17).den - 1)), .int .u64 ((lo (Int.natAbs ((u18).num)) : Nat) : Int), .string (bg (Int.natAbs ((u18).num))), .bool (decide (((u18).num) < 0)), .int .u64 ((lo ((u18).den - 1) : Nat) : Int), .string (bg ((u18).den - 1))] ∧ Below w.heap.size w w2) ⟨((((((((((BX1.out).setOther (by show gx1 ≠ gx5; omega) _).setOther (by show gx1 ≠ gx5; omega) _).setOther (by show gx1 ≠ gx5; omega) _).setOther (by show gx1 ≠ gx5; omega) _).setOther (by show gx1 ≠ gx5; omega) _).setOther (by show gx1 ≠ gx5; omega) _).setOther (by show gx1 ≠ gx5; omega) _).setOther (by show gx1 ≠ gx5; omega) _).setOther (by show gx1 ≠ gx5; omega) _).setOther (by show gx1 ≠ gx5; omega) _, ((((((((((BX2.out).setOther (by show gx2 ≠ gx5; omega) _).setOther (by show gx2 ≠ gx5; omega) _).setOther (by show gx2 ≠ gx5; omega) _).setOther (by show gx2 ≠ gx5; omega) _).setOther (by show gx2 ≠ gx5; omega) _).setOther (by show gx2 ≠ gx5; omega) _).setOther (by show gx2 ≠ gx5; omega) _).setOther (by show gx2 ≠ gx5; omega) _).setOther (by show gx2 ≠ gx5; omega) _).setOther (by show gx2 ≠ gx5; omega) _, ((((((((((BX3.out).setOther (by show gx3 ≠ gx5; omega) _).setOther (by show gx3 ≠ gx5; omega) _).setOther (by show gx3 ≠ gx5; omega) _).setOther (by show gx3 ≠ gx5; omega) _).setOther (by show gx3 ≠ gx5; omega) _).setOther (by show gx3 ≠ gx5; omega) _).setOther (by show gx3 ≠ gx5; omega) _).setOther (by show gx3 ≠ gx5; omega) _).setOther (by show gx3 ≠ gx5; omega) _).setOther (by show gx3 ≠ gx5; omega) _, ((((((((((BX4.out).setOther (by show gx4 ≠ gx5; omega) _).setOther (by show gx4 ≠ gx5; omega) _).setOther (by show gx4 ≠ gx5; omega) _).setOther (by show gx4 ≠ gx5; omega) _).setOther (by show gx4 ≠ gx5; omega) _).setOther (by show gx4 ≠ gx5; omega) _).setOther (by show gx4 ≠ gx5; omega) _).setOther (by show gx4 ≠ gx5; omega) _).setOther (by show gx4 ≠ gx5; omega) _).setOther (by show gx4 ≠ gx5; omega) _, (((((((((((BX5.out).set 0 _).set 1 _).set 2 _).set 3 _).set 4 _).set 5 _).set 6 _).set 7 _).set 8 _).set 9 _).eq (by simp only [List.setIfInBounds_toArray, List.set_cons_zero, List.set_cons_succ]), ((((((((((HB.out.trans (HG.out.mono HB.out.size)).setCell (by show w.heap.size ≤ gx5; omega) _).setCell (by show w.heap.size ≤ gx5; omega) _).setCell (by show w.heap.size ≤ gx5; omega) _).setCell (by show w.heap.size ≤ gx5; omega) _).setCell (by show w.heap.size ≤ gx5; omega) _).setCell (by show w.heap.size ≤ gx5; omega) _).setCell (by show w.heap.size ≤ gx5; omega) _).setCell (by show w.heap.size ≤ gx5; omega) _).setCell (by show w.heap.size ≤ gx5; omega) _).setCell (by show w.heap.size ≤ gx5; omega) _⟩ ?_
  clear HB HG BX0 BX1 BX2 BX3 BX4 BX5
  rintro Wx5 ⟨bx1, bx2, bx3, bx4, bx5, HB⟩
  replace HB := Lib.hid HB
  -- region 6
  obtain ⟨u19, HZ19⟩ : ∃ z, Hid ((u5) * (u10) - (u6) * (u9) = z) := ⟨_, Lib.hid rfl⟩
  have su19 : sz u19 ≤ 37 := by rw [← HZ19.out]; have := sz_cross (u5) (u6) (u9) (u10); omega
  obtain ⟨u20, HZ20⟩ : ∃ z, Hid ((u13) * (u18) - (u14) * (u17) = z) := ⟨_, Lib.hid rfl⟩
  have su20 : sz u20 ≤ 37 := by rw [← HZ20.out]; have := sz_cross (u13) (u14) (u17) (u18); omega
  obtain ⟨u21, HZ21⟩ : ∃ z, Hid ((u19) * (u20) = z) := ⟨_, Lib.hid rfl⟩
  have su21 : sz u21 ≤ 74 := by rw [← HZ21.out]; have := sz_mul (u19) (u20); omega
  obtain ⟨u22, HZ22⟩ : ∃ z, Hid ((u5) * (u14) - (u6) * (u13) = z) := ⟨_, Lib.hid rfl⟩
  have su22 : sz u22 ≤ 37 := by rw [← HZ22.out]; have := sz_cross (u5) (u6) (u13) (u14); omega
  obtain ⟨u23, HZ23⟩ : ∃ z, Hid ((u9) * (u18) - (u10) * (u17) = z) := ⟨_, Lib.hid rfl⟩
  have su23 : sz u23 ≤ 37 := by rw [← HZ23.out]; have := sz_cross (u9) (u10) (u17) (u18); omega
  obtain ⟨u24, HZ24⟩ : ∃ z, Hid ((u22) * (u23) = z) := ⟨_, Lib.hid rfl⟩
  have su24 : sz u24 ≤ 74 := by rw [← HZ24.out]; have := sz_mul (u22) (u23); omega
  obtain ⟨u25, HZ25⟩ : ∃ z, Hid ((u21) - (u24) = z) := ⟨_, Lib.hid rfl⟩
  have su25 : sz u25 ≤ 149 := by rw [← HZ25.out]; have := sz_sub (u21) (u24); omega
  have lx2 := bx2.cells
  have lx3 := bx3.cells
  have lx4 := bx4.cells
  have lx5 := bx5.cells
  have BX1 := Lib.hid bx1
  have BX2 := Lib.hid bx2
  have BX3 := Lib.hid bx3
  have BX4 := Lib.hid bx4
  have BX5 := Lib.hid bx5
  clear bx1 bx2 bx3 bx4 bx5
  refine wp_seq_k fun K hK => ?_
  replace hK := Lib.hid hK
  refine wp_region_plan 16 [15] [] (fun _ => 8) (fun _ => .cells #[.int .u64 0, .string ⟨#[]⟩, .bool false, .int .u64 0, .string ⟨#[]⟩] 36) [(true, 0), (true, 1), (true, 3), (true, 4), (true, 7), (true, 8), (true, 10), (true, 11), (true, 2), (true, 5), (true, 6), (true, 9), (true, 12), (true, 13), (true, 14)] (by kernel_rfl) (by kernel_rfl) (by intro i hi; simp only [List.mem_cons, List.not_mem_nil, or_false] at hi; rcases hi with rfl <;> exact ⟨_, rfl, rfl, rfl, by simp, fun ρ w => by kernel_rfl⟩) (fun i hi => by cases hi) (fun _ _ _ _ _ h => h) (fun T hT => ?_)
  iterate 8
    refine wpPlan_takeL (v := ?_) rfl (by rfl) (fun w' hw => ?_) ?_
    rotate_left
    · go_simp
      with_reducible rfl
    simp only [Act.put, List.setIfInBounds_toArray, List.set_cons_zero, List.set_cons_succ]
  refine wpPlan_callL rfl (by rfl) Try.call11 (fun w' hw => pcross_any (u5) (u6) (u9) (u10) (u19) _ HZ19.out (by first | omega | exact Nat.le_trans (wl_small (by decide)) (by decide)) (by first | omega | exact Nat.le_trans (wl_small (by decide)) (by decide)) (by first | omega | exact Nat.le_trans (wl_small (by decide)) (by decide)) (by first | omega | exact Nat.le_trans (wl_small (by decide)) (by decide))) (by rfl) ?_
  simp only [Act.put, List.setIfInBounds_toArray, List.set_cons_zero, List.set_cons_succ]
  refine wpPlan_callL rfl (by rfl) Try.call11 (fun w' hw => pcross_any (u13) (u14) (u17) (u18) (u20) _ HZ20.out (by first | omega | exact Nat.le_trans (wl_small (by decide)) (by decide)) (by first | omega | exact Nat.le_trans (wl_small (by decide)) (by decide)) (by first | omega | exact Nat.le_trans (wl_small (by decide)) (by decide)) (by first | omega | exact Nat.le_trans (wl_small (by decide)) (by decide))) (by rfl) ?_
  simp only [Act.put, List.setIfInBounds_toArray, List.set_cons_zero, List.set_cons_succ]
  refine wpPlan_callL rfl (by rfl) Try.call10 (fun w' hw => fmul_any (u19) (u20) (u21) _ HZ21.out (by first | omega | exact Nat.le_trans (wl_small (by decide)) (by decide)) (by first | omega | exact Nat.le_trans (wl_small (by decide)) (by decide))) (by rfl) ?_
  simp only [Act.put, List.setIfInBounds_toArray, List.set_cons_zero, List.set_cons_succ]
  refine wpPlan_callL rfl (by rfl) Try.call11 (fun w' hw => pcross_any (u5) (u6) (u13) (u14) (u22) _ HZ22.out (by first | omega | exact Nat.le_trans (wl_small (by decide)) (by decide)) (by first | omega | exact Nat.le_trans (wl_small (by decide)) (by decide)) (by first | omega | exact Nat.le_trans (wl_small (by decide)) (by decide)) (by first | omega | exact Nat.le_trans (wl_small (by decide)) (by decide))) (by rfl) ?_
  simp only [Act.put, List.setIfInBounds_toArray, List.set_cons_zero, List.set_cons_succ]
  refine wpPlan_callL rfl (by rfl) Try.call11 (fun w' hw => pcross_any (u9) (u10) (u17) (u18) (u23) _ HZ23.out (by first | omega | exact Nat.le_trans (wl_small (by decide)) (by decide)) (by first | omega | exact Nat.le_trans (wl_small (by decide)) (by decide)) (by first | omega | exact Nat.le_trans (wl_small (by decide)) (by decide)) (by first | omega | exact Nat.le_trans (wl_small (by decide)) (by decide))) (by rfl) ?_
  simp only [Act.put, List.setIfInBounds_toArray, List.set_cons_zero, List.set_cons_succ]
  refine wpPlan_callL rfl (by rfl) Try.call10 (fun w' hw => fmul_any (u22) (u23) (u24) _ HZ24.out (by first | omega | exact Nat.le_trans (wl_small (by decide)) (by decide)) (by first | omega | exact Nat.le_trans (wl_small (by decide)) (by decide))) (by rfl) ?_
  simp only [Act.put, List.setIfInBounds_toArray, List.set_cons_zero, List.set_cons_succ]
  refine wpPlan_callL rfl (by rfl) Try.call9 (fun w' hw => fsub_any (u21) (u24) (u25) _ HZ25.out (by first | omega | exact Nat.le_trans (wl_small (by decide)) (by decide)) (by first | omega | exact Nat.le_trans (wl_small (by decide)) (by decide))) (by rfl) ?_
  simp only [Act.put, List.setIfInBounds_toArray, List.set_cons_zero, List.set_cons_succ]
  refine wpPlan_nil (hT.out _ _ ?_); clear hT T
  intro G vw6 hg hf
  simp only [puts, Act.put, List.setIfInBounds_toArray, List.set_cons_zero, List.set_cons_succ, List.drop_succ_cons, List.drop_zero, ↓reduceIte, Nat.reduceEqDiff]
  clear lx2 lx3 lx4 lx5
  have HG := Lib.hid (hg)
  clear hg
  have bx6 := Bx.of_fresh hf (i := 15) (by decide) rfl
  have yx6 := (hf.1 15 (by decide)).1
  clear hf
  generalize G 15 = gx6 at *
  have qx1_6 : gx1 < gx6 := Nat.lt_of_lt_of_le BX1.out.lt yx6
  have qx2_6 : gx2 < gx6 := Nat.lt_of_lt_of_le BX2.out.lt yx6
  have qx3_6 : gx3 < gx6 := Nat.lt_of_lt_of_le BX3.out.lt yx6
  have qx4_6 : gx4 < gx6 := Nat.lt_of_lt_of_le BX4.out.lt yx6
  have qx5_6 : gx5 < gx6 := Nat.lt_of_lt_of_le BX5.out.lt yx6
  replace yx6 : w.heap.size ≤ gx6 := Nat.le_trans HB.out.size yx6
  have bx1 := BX1.out.gr HG.out; clear BX1
  have bx2 := BX2.out.gr HG.out; clear BX2
  have bx3 := BX3.out.gr HG.out; clear BX3
  have bx4 := BX4.out.gr HG.out; clear BX4
  have bx5 := BX5.out.gr HG.out; clear BX5
  have lx6 := bx6.cells; have fx6 := bx6.free
  have r0 := Gr.refl vw6
  have BX1 := Lib.hid bx1; clear bx1
  have BX2 := Lib.hid bx2; clear bx2
  have BX3 := Lib.hid bx3; clear bx3
  have BX4 := Lib.hid bx4; clear bx4
  have BX5 := Lib.hid bx5; clear bx5
  have BX6 := Lib.hid bx6; clear bx6
  go_wp2
  refine hK.out _ _ ?_; clear hK K
  show Code.wp _ _ _ _ _
  clear lx6 fx6
  clear r0
  refine forgetW (fun w2 => Bx w2 gx1 38 #[.int .u64 ((lo (Int.natAbs ((u1).num)) : Nat) : Int), .string (bg (Int.natAbs ((u1).num))), .bool (decide (((u1).num) < 0)), .int .u64 ((lo ((u1).den - 1) : Nat) : Int), .string (bg ((u1).den - 1)), .int .u64 ((lo (Int.natAbs ((u2).num)) : Nat) : Int), .string (bg (Int.natAbs ((u2).num))), .bool (decide (((u2).num) < 0)), .int .u64 ((lo ((u2).den - 1) : Nat) : Int), .string (bg ((u2).den - 1))] ∧ Bx w2 gx2 38 #[.int .u64 ((lo (Int.natAbs ((u5).num)) : Nat) : Int), .string (bg (Int.natAbs ((u5).num))), .bool (decide (((u5).num) < 0)), .int .u64 ((lo ((u5).den - 1) : Nat) : Int), .string (bg ((u5).den - 1)), .int .u64 ((lo (Int.natAbs ((u6).num)) : Nat) : Int), .string (bg (Int.natAbs ((u6).num))), .bool (decide (((u6).num) < 0)), .int .u64 ((lo ((u6).den - 1) : Nat) : Int), .string (bg ((u6).den - 1))] ∧ Bx w2 gx3 38 #[.int .u64 ((lo (Int.natAbs ((u9).num)) : Nat) : Int), .string (bg (Int.natAbs ((u9).num))), .bool (decide (((u9).num) < 0)), .int .u64 ((lo ((u9).den - 1) : Nat) : Int), .string (bg ((u9).den - 1)), .int .u64 ((lo (Int.natAbs ((u10).num)) : Nat) : Int), .string (bg (Int.natAbs ((u10).num))), .bool (decide (((u10).num) < 0)), .int .u64 ((lo ((u10).den - 1) : Nat) : Int), .string (bg ((u10).den - 1))] ∧ Bx w2 gx4 38 #[.int .u64 ((lo (Int.natAbs ((u13).num)) : Nat) : Int), .string (bg (Int.natAbs ((u13).num))), .bool (decide (((u13).num) < 0)), .int .u64 ((lo ((u13).den - 1) : Nat) : Int), .string (bg ((u13).den - 1)), .int .u64 ((lo (Int.natAbs ((u14).num)) : Nat) : Int), .string (bg (Int.natAbs ((u14).num))), .bool (decide (((u14).num) < 0)), .int .u64 ((lo ((u14).den - 1) : Nat) : Int), .string (bg ((u14).den - 1))] ∧ Bx w2 gx5 38 #[.int .u64 ((lo (Int.natAbs ((u17).num)) : Nat) : Int), .string (bg (Int.natAbs ((u17).num))), .bool (decide (((u17).num) < 0)), .int .u64 ((lo ((u17).den - 1) : Nat) : Int), .string (bg ((u17).den - 1)), .int .u64 ((lo (Int.natAbs ((u18).num)) : Nat) : Int), .string (bg (Int.natAbs ((u18).num))), .bool (decide (((u18).num) < 0)), .int .u64 ((lo ((u18).den - 1) : Nat) : Int), .string (bg ((u18).den - 1))] ∧ Bx w2 gx6 36 #[.int .u64 ((lo (Int.natAbs ((u25).num)) : Nat) : Int), .string (bg (Int.natAbs ((u25).num))), .bool (decide (((u25).num) < 0)), .int .u64 ((lo ((u25).den - 1) : Nat) : Int), .string (bg ((u25).den - 1))] ∧ Below w.heap.size w w2) ⟨(((((BX1.out).setOther (by show gx1 ≠ gx6; omega) _).setOther (by show gx1 ≠ gx6; omega) _).setOther (by show gx1 ≠ gx6; omega) _).setOther (by show gx1 ≠ gx6; omega) _).setOther (by show gx1 ≠ gx6; omega) _, (((((BX2.out).setOther (by show gx2 ≠ gx6; omega) _).setOther (by show gx2 ≠ gx6; omega) _).setOther (by show gx2 ≠ gx6; omega) _).setOther (by show gx2 ≠ gx6; omega) _).setOther (by show gx2 ≠ gx6; omega) _, (((((BX3.out).setOther (by show gx3 ≠ gx6; omega) _).setOther (by show gx3 ≠ gx6; omega) _).setOther (by show gx3 ≠ gx6; omega) _).setOther (by show gx3 ≠ gx6; omega) _).setOther (by show gx3 ≠ gx6; omega) _, (((((BX4.out).setOther (by show gx4 ≠ gx6; omega) _).setOther (by show gx4 ≠ gx6; omega) _).setOther (by show gx4 ≠ gx6; omega) _).setOther (by show gx4 ≠ gx6; omega) _).setOther (by show gx4 ≠ gx6; omega) _, (((((BX5.out).setOther (by show gx5 ≠ gx6; omega) _).setOther (by show gx5 ≠ gx6; omega) _).setOther (by show gx5 ≠ gx6; omega) _).setOther (by show gx5 ≠ gx6; omega) _).setOther (by show gx5 ≠ gx6; omega) _, ((((((BX6.out).set 0 _).set 1 _).set 2 _).set 3 _).set 4 _).eq (by simp only [List.setIfInBounds_toArray, List.set_cons_zero, List.set_cons_succ]), (((((HB.out.trans (HG.out.mono HB.out.size)).setCell (by show w.heap.size ≤ gx6; omega) _).setCell (by show w.heap.size ≤ gx6; omega) _).setCell (by show w.heap.size ≤ gx6; omega) _).setCell (by show w.heap.size ≤ gx6; omega) _).setCell (by show w.heap.size ≤ gx6; omega) _⟩ ?_
  clear HB HG BX1 BX2 BX3 BX4 BX5 BX6
  rintro Wx6 ⟨bx1, bx2, bx3, bx4, bx5, bx6, HB⟩
  replace HB := Lib.hid HB
  -- region 7
  obtain ⟨u26, HZ26⟩ : ∃ z, Hid ((u5) * (u18) - (u6) * (u17) = z) := ⟨_, Lib.hid rfl⟩
  have su26 : sz u26 ≤ 37 := by rw [← HZ26.out]; have := sz_cross (u5) (u6) (u17) (u18); omega
  obtain ⟨u27, HZ27⟩ : ∃ z, Hid ((u9) * (u14) - (u10) * (u13) = z) := ⟨_, Lib.hid rfl⟩
  have su27 : sz u27 ≤ 37 := by rw [← HZ27.out]; have := sz_cross (u9) (u10) (u13) (u14); omega
  obtain ⟨u28, HZ28⟩ : ∃ z, Hid ((u26) * (u27) = z) := ⟨_, Lib.hid rfl⟩
  have su28 : sz u28 ≤ 74 := by rw [← HZ28.out]; have := sz_mul (u26) (u27); omega
  obtain ⟨u29, HZ29⟩ : ∃ z, Hid ((u25) + (u28) = z) := ⟨_, Lib.hid rfl⟩
  have su29 : sz u29 ≤ 224 := by rw [← HZ29.out]; have := sz_add (u25) (u28); omega
  have lx2 := bx2.cells
  have lx3 := bx3.cells
  have lx4 := bx4.cells
  have lx5 := bx5.cells
  have lx6 := bx6.cells
  have BX1 := Lib.hid bx1
  have BX2 := Lib.hid bx2
  have BX3 := Lib.hid bx3
  have BX4 := Lib.hid bx4
  have BX5 := Lib.hid bx5
  have BX6 := Lib.hid bx6
  clear bx1 bx2 bx3 bx4 bx5 bx6
  refine wp_seq_k fun K hK => ?_
  replace hK := Lib.hid hK
  refine wp_region_plan 9 [] [] (fun _ => 0) (fun _ => .cells #[] 0) [(true, 0), (true, 1), (true, 2), (true, 4), (true, 5), (true, 3), (true, 6), (true, 7), (true, 8)] (by kernel_rfl) (by kernel_rfl) (fun i hi => by cases hi) (fun i hi => by cases hi) (fun _ _ _ _ _ h => h) (fun T hT => ?_)
  iterate 5
    refine wpPlan_takeL (v := ?_) rfl (by rfl) (fun w' hw => ?_) ?_
    rotate_left
    · go_simp
      with_reducible rfl
    simp only [Act.put, List.setIfInBounds_toArray, List.set_cons_zero, List.set_cons_succ]
  refine wpPlan_callL rfl (by rfl) Try.call11 (fun w' hw => pcross_any (u5) (u6) (u17) (u18) (u26) _ HZ26.out (by first | omega | exact Nat.le_trans (wl_small (by decide)) (by decide)) (by first | omega | exact Nat.le_trans (wl_small (by decide)) (by decide)) (by first | omega | exact Nat.le_trans (wl_small (by decide)) (by decide)) (by first | omega | exact Nat.le_trans (wl_small (by decide)) (by decide))) (by rfl) ?_
  simp only [Act.put, List.setIfInBounds_toArray, List.set_cons_zero, List.set_cons_succ]
  refine wpPlan_callL rfl (by rfl) Try.call11 (fun w' hw => pcross_any (u9) (u10) (u13) (u14) (u27) _ HZ27.out (by first | omega | exact Nat.le_trans (wl_small (by decide)) (by decide)) (by first | omega | exact Nat.le_trans (wl_small (by decide)) (by decide)) (by first | omega | exact Nat.le_trans (wl_small (by decide)) (by decide)) (by first | omega | exact Nat.le_trans (wl_small (by decide)) (by decide))) (by rfl) ?_
  simp only [Act.put, List.setIfInBounds_toArray, List.set_cons_zero, List.set_cons_succ]
  refine wpPlan_callL rfl (by rfl) Try.call10 (fun w' hw => fmul_any (u26) (u27) (u28) _ HZ28.out (by first | omega | exact Nat.le_trans (wl_small (by decide)) (by decide)) (by first | omega | exact Nat.le_trans (wl_small (by decide)) (by decide))) (by rfl) ?_
  simp only [Act.put, List.setIfInBounds_toArray, List.set_cons_zero, List.set_cons_succ]
  refine wpPlan_callL rfl (by rfl) Try.call12 (fun w' hw => fadd_any (u25) (u28) (u29) _ HZ29.out (by first | omega | exact Nat.le_trans (wl_small (by decide)) (by decide)) (by first | omega | exact Nat.le_trans (wl_small (by decide)) (by decide))) (by rfl) ?_
  simp only [Act.put, List.setIfInBounds_toArray, List.set_cons_zero, List.set_cons_succ]
  refine wpPlan_nil (hT.out _ _ ?_); clear hT T
  intro G vw7 hg hf
  simp only [puts, Act.put, List.setIfInBounds_toArray, List.set_cons_zero, List.set_cons_succ, List.drop_succ_cons, List.drop_zero, ↓reduceIte, Nat.reduceEqDiff]
  clear lx2 lx3 lx4 lx5 lx6
  have HG := Lib.hid (hg)
  clear hg
  have bx1 := BX1.out.gr HG.out; clear BX1
  have bx2 := BX2.out.gr HG.out; clear BX2
  have bx3 := BX3.out.gr HG.out; clear BX3
  have bx4 := BX4.out.gr HG.out; clear BX4
  have bx5 := BX5.out.gr HG.out; clear BX5
  have bx6 := BX6.out.gr HG.out; clear BX6
  have lx6 := bx6.cells; have fx6 := bx6.free
  have r0 := Gr.refl vw7
  have BX1 := Lib.hid bx1; clear bx1
  have BX2 := Lib.hid bx2; clear bx2
  have BX3 := Lib.hid bx3; clear bx3
  have BX4 := Lib.hid bx4; clear bx4
  have BX5 := Lib.hid bx5; clear bx5
  have BX6 := Lib.hid bx6; clear bx6
  go_wp2
  refine hK.out _ _ ?_; clear hK K
  show Code.wp _ _ _ _ _
  clear lx6 fx6
  clear r0
  refine forgetW (fun w2 => Bx w2 gx1 38 #[.int .u64 ((lo (Int.natAbs ((u1).num)) : Nat) : Int), .string (bg (Int.natAbs ((u1).num))), .bool (decide (((u1).num) < 0)), .int .u64 ((lo ((u1).den - 1) : Nat) : Int), .string (bg ((u1).den - 1)), .int .u64 ((lo (Int.natAbs ((u2).num)) : Nat) : Int), .string (bg (Int.natAbs ((u2).num))), .bool (decide (((u2).num) < 0)), .int .u64 ((lo ((u2).den - 1) : Nat) : Int), .string (bg ((u2).den - 1))] ∧ Bx w2 gx2 38 #[.int .u64 ((lo (Int.natAbs ((u5).num)) : Nat) : Int), .string (bg (Int.natAbs ((u5).num))), .bool (decide (((u5).num) < 0)), .int .u64 ((lo ((u5).den - 1) : Nat) : Int), .string (bg ((u5).den - 1)), .int .u64 ((lo (Int.natAbs ((u6).num)) : Nat) : Int), .string (bg (Int.natAbs ((u6).num))), .bool (decide (((u6).num) < 0)), .int .u64 ((lo ((u6).den - 1) : Nat) : Int), .string (bg ((u6).den - 1))] ∧ Bx w2 gx3 38 #[.int .u64 ((lo (Int.natAbs ((u9).num)) : Nat) : Int), .string (bg (Int.natAbs ((u9).num))), .bool (decide (((u9).num) < 0)), .int .u64 ((lo ((u9).den - 1) : Nat) : Int), .string (bg ((u9).den - 1)), .int .u64 ((lo (Int.natAbs ((u10).num)) : Nat) : Int), .string (bg (Int.natAbs ((u10).num))), .bool (decide (((u10).num) < 0)), .int .u64 ((lo ((u10).den - 1) : Nat) : Int), .string (bg ((u10).den - 1))] ∧ Bx w2 gx4 38 #[.int .u64 ((lo (Int.natAbs ((u13).num)) : Nat) : Int), .string (bg (Int.natAbs ((u13).num))), .bool (decide (((u13).num) < 0)), .int .u64 ((lo ((u13).den - 1) : Nat) : Int), .string (bg ((u13).den - 1)), .int .u64 ((lo (Int.natAbs ((u14).num)) : Nat) : Int), .string (bg (Int.natAbs ((u14).num))), .bool (decide (((u14).num) < 0)), .int .u64 ((lo ((u14).den - 1) : Nat) : Int), .string (bg ((u14).den - 1))] ∧ Bx w2 gx6 36 #[.int .u64 ((lo (Int.natAbs ((u29).num)) : Nat) : Int), .string (bg (Int.natAbs ((u29).num))), .bool (decide (((u29).num) < 0)), .int .u64 ((lo ((u29).den - 1) : Nat) : Int), .string (bg ((u29).den - 1))] ∧ Below w.heap.size w w2) ⟨(((((BX1.out).setOther (by show gx1 ≠ gx6; omega) _).setOther (by show gx1 ≠ gx6; omega) _).setOther (by show gx1 ≠ gx6; omega) _).setOther (by show gx1 ≠ gx6; omega) _).setOther (by show gx1 ≠ gx6; omega) _, (((((BX2.out).setOther (by show gx2 ≠ gx6; omega) _).setOther (by show gx2 ≠ gx6; omega) _).setOther (by show gx2 ≠ gx6; omega) _).setOther (by show gx2 ≠ gx6; omega) _).setOther (by show gx2 ≠ gx6; omega) _, (((((BX3.out).setOther (by show gx3 ≠ gx6; omega) _).setOther (by show gx3 ≠ gx6; omega) _).setOther (by show gx3 ≠ gx6; omega) _).setOther (by show gx3 ≠ gx6; omega) _).setOther (by show gx3 ≠ gx6; omega) _, (((((BX4.out).setOther (by show gx4 ≠ gx6; omega) _).setOther (by show gx4 ≠ gx6; omega) _).setOther (by show gx4 ≠ gx6; omega) _).setOther (by show gx4 ≠ gx6; omega) _).setOther (by show gx4 ≠ gx6; omega) _, ((((((BX6.out).set 0 _).set 1 _).set 2 _).set 3 _).set 4 _).eq (by simp only [List.setIfInBounds_toArray, List.set_cons_zero, List.set_cons_succ]), (((((HB.out.trans (HG.out.mono HB.out.size)).setCell (by show w.heap.size ≤ gx6; omega) _).setCell (by show w.heap.size ≤ gx6; omega) _).setCell (by show w.heap.size ≤ gx6; omega) _).setCell (by show w.heap.size ≤ gx6; omega) _).setCell (by show w.heap.size ≤ gx6; omega) _⟩ ?_
  clear HB HG BX1 BX2 BX3 BX4 BX5 BX6
  rintro Wx7 ⟨bx1, bx2, bx3, bx4, bx6, HB⟩
  replace HB := Lib.hid HB
  -- region 8
  obtain ⟨t30, HT30⟩ : ∃ t, Hid (turn (u5) (u6) (u9) (u10) (u13) (u14) = t) := ⟨_, Lib.hid rfl⟩
  have hta30 : -1 ≤ t30 := by rw [← HT30.out]; exact (sgQ_bd _).1
  have htb30 : t30 ≤ 1 := by rw [← HT30.out]; exact (sgQ_bd _).2
  have hng30 : IntKind.i64.wrap (-t30) = -t30 := by rw [IntKind.wrap_i64]; omega
  have lx2 := bx2.cells
  have lx3 := bx3.cells
  have lx4 := bx4.cells
  have BX1 := Lib.hid bx1
  have BX2 := Lib.hid bx2
  have BX3 := Lib.hid bx3
  have BX4 := Lib.hid bx4
  have BX6 := Lib.hid bx6
  clear bx1 bx2 bx3 bx4 bx6
  refine wp_seq_k fun K hK => ?_
  replace hK := Lib.hid hK
  refine wp_region_seqplan 5 [(true, 0), (true, 1), (true, 2), (true, 3), (true, 4)] (by rfl) (by simp) (fun T hT => ?_)
  iterate 3
    refine wpPlan_takeL (v := ?_) rfl (by rfl) (fun w' hw => ?_) ?_
    rotate_left
    · go_simp
      with_reducible rfl
    simp only [Act.put, List.setIfInBounds_toArray, List.set_cons_zero, List.set_cons_succ]
  refine wpPlan_callL rfl (by rfl) Try.call13 (fun w' hw => pturn_any (u5) (u6) (u9) (u10) (u13) (u14) (t30) _ HT30.out (by first | omega | exact Nat.le_trans (wl_small (by decide)) (by decide)) (by first | omega | exact Nat.le_trans (wl_small (by decide)) (by decide)) (by first | omega | exact Nat.le_trans (wl_small (by decide)) (by decide)) (by first | omega | exact Nat.le_trans (wl_small (by decide)) (by decide)) (by first | omega | exact Nat.le_trans (wl_small (by decide)) (by decide)) (by first | omega | exact Nat.le_trans (wl_small (by decide)) (by decide))) (by rfl) ?_
  simp only [Act.put, List.setIfInBounds_toArray, List.set_cons_zero, List.set_cons_succ]
  iterate 1
    refine wpPlan_takeL (v := ?_) rfl (by rfl) (fun w' hw => ?_) ?_
    rotate_left
    · go_simp
      with_reducible rfl
    simp only [Act.put, List.setIfInBounds_toArray, List.set_cons_zero, List.set_cons_succ]
  refine wpPlan_nil (hT.out _ _ ?_); clear hT T
  intro vw8 hg
  simp only [puts, Act.put, List.setIfInBounds_toArray, List.set_cons_zero, List.set_cons_succ, List.drop_succ_cons, List.drop_zero, ↓reduceIte, Nat.reduceEqDiff]
  clear lx2 lx3 lx4
  have HG := Lib.hid (hg)
  clear hg
  have bx1 := BX1.out.gr HG.out; clear BX1
  have bx2 := BX2.out.gr HG.out; clear BX2
  have bx3 := BX3.out.gr HG.out; clear BX3
  have bx4 := BX4.out.gr HG.out; clear BX4
  have bx6 := BX6.out.gr HG.out; clear BX6
  have r0 := Gr.refl vw8
  have BX1 := Lib.hid bx1; clear bx1
  have BX2 := Lib.hid bx2; clear bx2
  have BX3 := Lib.hid bx3; clear bx3
  have BX4 := Lib.hid bx4; clear bx4
  have BX6 := Lib.hid bx6; clear bx6
  go_wp2
  refine hK.out _ _ ?_; clear hK K
  show Code.wp _ _ _ _ _
  clear r0
  refine forgetW (fun w2 => Bx w2 gx1 38 #[.int .u64 ((lo (Int.natAbs ((u1).num)) : Nat) : Int), .string (bg (Int.natAbs ((u1).num))), .bool (decide (((u1).num) < 0)), .int .u64 ((lo ((u1).den - 1) : Nat) : Int), .string (bg ((u1).den - 1)), .int .u64 ((lo (Int.natAbs ((u2).num)) : Nat) : Int), .string (bg (Int.natAbs ((u2).num))), .bool (decide (((u2).num) < 0)), .int .u64 ((lo ((u2).den - 1) : Nat) : Int), .string (bg ((u2).den - 1))] ∧ Bx w2 gx2 38 #[.int .u64 ((lo (Int.natAbs ((u5).num)) : Nat) : Int), .string (bg (Int.natAbs ((u5).num))), .bool (decide (((u5).num) < 0)), .int .u64 ((lo ((u5).den - 1) : Nat) : Int), .string (bg ((u5).den - 1)), .int .u64 ((lo (Int.natAbs ((u6).num)) : Nat) : Int), .string (bg (Int.natAbs ((u6).num))), .bool (decide (((u6).num) < 0)), .int .u64 ((lo ((u6).den - 1) : Nat) : Int), .string (bg ((u6).den - 1))] ∧ Bx w2 gx3 38 #[.int .u64 ((lo (Int.natAbs ((u9).num)) : Nat) : Int), .string (bg (Int.natAbs ((u9).num))), .bool (decide (((u9).num) < 0)), .int .u64 ((lo ((u9).den - 1) : Nat) : Int), .string (bg ((u9).den - 1)), .int .u64 ((lo (Int.natAbs ((u10).num)) : Nat) : Int), .string (bg (Int.natAbs ((u10).num))), .bool (decide (((u10).num) < 0)), .int .u64 ((lo ((u10).den - 1) : Nat) : Int), .string (bg ((u10).den - 1))] ∧ Bx w2 gx4 38 #[.int .u64 ((lo (Int.natAbs ((u13).num)) : Nat) : Int), .string (bg (Int.natAbs ((u13).num))), .bool (decide (((u13).num) < 0)), .int .u64 ((lo ((u13).den - 1) : Nat) : Int), .string (bg ((u13).den - 1)), .int .u64 ((lo (Int.natAbs ((u14).num)) : Nat) : Int), .string (bg (Int.natAbs ((u14).num))), .bool (decide (((u14).num) < 0)), .int .u64 ((lo ((u14).den - 1) : Nat) : Int), .string (bg ((u14).den - 1))] ∧ Bx w2 gx6 36 #[.int .u64 ((lo (Int.natAbs ((u29).num)) : Nat) : Int), .string (bg (Int.natAbs ((u29).num))), .bool (decide (((u29).num) < 0)), .int .u64 ((lo ((u29).den - 1) : Nat) : Int), .string (bg ((u29).den - 1))] ∧ Below w.heap.size w w2) ⟨BX1.out, BX2.out, BX3.out, BX4.out, BX6.out, HB.out.trans (HG.out.mono HB.out.size)⟩ ?_
  clear HB HG BX1 BX2 BX3 BX4 BX6
  rintro Wx8 ⟨bx1, bx2, bx3, bx4, bx6, HB⟩
  replace HB := Lib.hid HB
  -- region 9
  obtain ⟨u31, HZ31⟩ : ∃ z, Hid ((u5) + (u1) = z) := ⟨_, Lib.hid rfl⟩
  have su31 : sz u31 ≤ 14 := by rw [← HZ31.out]; have := sz_add (u5) (u1); omega
  obtain ⟨u32, HZ32⟩ : ∃ z, Hid ((u6) + (u2) = z) := ⟨_, Lib.hid rfl⟩
  have su32 : sz u32 ≤ 14 := by rw [← HZ32.out]; have := sz_add (u6) (u2); omega
  obtain ⟨u33, HZ33⟩ : ∃ z, Hid ((u9) + (u1) = z) := ⟨_, Lib.hid rfl⟩
  have su33 : sz u33 ≤ 14 := by rw [← HZ33.out]; have := sz_add (u9) (u1); omega
  obtain ⟨u34, HZ34⟩ : ∃ z, Hid ((u10) + (u2) = z) := ⟨_, Lib.hid rfl⟩
  have su34 : sz u34 ≤ 14 := by rw [← HZ34.out]; have := sz_add (u10) (u2); omega
  obtain ⟨u35, HZ35⟩ : ∃ z, Hid ((u13) + (u1) = z) := ⟨_, Lib.hid rfl⟩
  have su35 : sz u35 ≤ 14 := by rw [← HZ35.out]; have := sz_add (u13) (u1); omega
  obtain ⟨u36, HZ36⟩ : ∃ z, Hid ((u14) + (u2) = z) := ⟨_, Lib.hid rfl⟩
  have su36 : sz u36 ≤ 14 := by rw [← HZ36.out]; have := sz_add (u14) (u2); omega
  have lx1 := bx1.cells
  have lx2 := bx2.cells
  have lx3 := bx3.cells
  have lx4 := bx4.cells
  have BX1 := Lib.hid bx1
  have BX2 := Lib.hid bx2
  have BX3 := Lib.hid bx3
  have BX4 := Lib.hid bx4
  have BX6 := Lib.hid bx6
  clear bx1 bx2 bx3 bx4 bx6
  refine wp_seq_k fun K hK => ?_
  replace hK := Lib.hid hK
  refine wp_region_plan 29 [] [] (fun _ => 0) (fun _ => .cells #[] 0) [(true, 0), (true, 1), (true, 2), (true, 4), (true, 5), (true, 3), (true, 6), (true, 7), (true, 8), (true, 9), (true, 10), (true, 12), (true, 11), (true, 13), (true, 14), (true, 15), (true, 16), (true, 17), (true, 19), (true, 20), (true, 22), (true, 23), (true, 26), (true, 18), (true, 21), (true, 24), (true, 25), (true, 27), (true, 28)] (by kernel_rfl) (by kernel_rfl) (fun i hi => by cases hi) (fun i hi => by cases hi) (fun _ _ _ _ _ h => h) (fun T hT => ?_)
  iterate 4
    refine wpPlan_takeL (v := ?_) rfl (by rfl) (fun w' hw => ?_) ?_
    rotate_left
    · go_simp
      with_reducible rfl
    simp only [Act.put, List.setIfInBounds_toArray, List.set_cons_zero, List.set_cons_succ]
  refine wpPlan_takeL (v := ?_) rfl (by rfl) (fun w' hw => ?_) ?_
  rotate_left
  · go_simp
    first | (simp only [hng30]; with_reducible rfl) | (trace_state; with_reducible rfl)
  simp only [Act.put, List.setIfInBounds_toArray, List.set_cons_zero, List.set_cons_succ]
  refine wpPlan_callL rfl (by rfl) Try.call13 (fun w' hw => pturn_any (u9) (u10) (u5) (u6) (u13) (u14) (-t30) _ (by rw [← HT30.out]; exact turn_swap _ _ _ _ _ _) (by first | omega | exact Nat.le_trans (wl_small (by decide)) (by decide)) (by first | omega | exact Nat.le_trans (wl_small (by decide)) (by decide)) (by first | omega | exact Nat.le_trans (wl_small (by decide)) (by decide)) (by first | omega | exact Nat.le_trans (wl_small (by decide)) (by decide)) (by first | omega | exact Nat.le_trans (wl_small (by decide)) (by decide)) (by first | omega | exact Nat.le_trans (wl_small (by decide)) (by decide))) (by rfl) ?_
  simp only [Act.put, List.setIfInBounds_toArray, List.set_cons_zero, List.set_cons_succ]
  iterate 6
    refine wpPlan_takeL (v := ?_) rfl (by rfl) (fun w' hw => ?_) ?_
    rotate_left
    · go_simp
      with_reducible rfl
    simp only [Act.put, List.setIfInBounds_toArray, List.set_cons_zero, List.set_cons_succ]
  refine wpPlan_callL rfl (by rfl) Try.call13 (fun w' hw => pturn_any (u9) (u10) (u13) (u14) (u5) (u6) (t30) _ (by rw [← HT30.out]; exact turn_rot _ _ _ _ _ _) (by first | omega | exact Nat.le_trans (wl_small (by decide)) (by decide)) (by first | omega | exact Nat.le_trans (wl_small (by decide)) (by decide)) (by first | omega | exact Nat.le_trans (wl_small (by decide)) (by decide)) (by first | omega | exact Nat.le_trans (wl_small (by decide)) (by decide)) (by first | omega | exact Nat.le_trans (wl_small (by decide)) (by decide)) (by first | omega | exact Nat.le_trans (wl_small (by decide)) (by decide))) (by rfl) ?_
  simp only [Act.put, List.setIfInBounds_toArray, List.set_cons_zero, List.set_cons_succ]
  iterate 10
    refine wpPlan_takeL (v := ?_) rfl (by rfl) (fun w' hw => ?_) ?_
    rotate_left
    · go_simp
      with_reducible rfl
    simp only [Act.put, List.setIfInBounds_toArray, List.set_cons_zero, List.set_cons_succ]
  refine wpPlan_callL rfl (by rfl) Try.call14 (fun w' hw => padd_any (u5) (u6) (u1) (u2) (u31) (u32) _ HZ31.out HZ32.out (by first | omega | exact Nat.le_trans (wl_small (by decide)) (by decide)) (by first | omega | exact Nat.le_trans (wl_small (by decide)) (by decide)) (by first | omega | exact Nat.le_trans (wl_small (by decide)) (by decide)) (by first | omega | exact Nat.le_trans (wl_small (by decide)) (by decide))) (by rfl) ?_
  simp only [Act.put, List.setIfInBounds_toArray, List.set_cons_zero, List.set_cons_succ]
  refine wpPlan_callL rfl (by rfl) Try.call14 (fun w' hw => padd_any (u9) (u10) (u1) (u2) (u33) (u34) _ HZ33.out HZ34.out (by first | omega | exact Nat.le_trans (wl_small (by decide)) (by decide)) (by first | omega | exact Nat.le_trans (wl_small (by decide)) (by decide)) (by first | omega | exact Nat.le_trans (wl_small (by decide)) (by decide)) (by first | omega | exact Nat.le_trans (wl_small (by decide)) (by decide))) (by rfl) ?_
  simp only [Act.put, List.setIfInBounds_toArray, List.set_cons_zero, List.set_cons_succ]
  refine wpPlan_callL rfl (by rfl) Try.call14 (fun w' hw => padd_any (u13) (u14) (u1) (u2) (u35) (u36) _ HZ35.out HZ36.out (by first | omega | exact Nat.le_trans (wl_small (by decide)) (by decide)) (by first | omega | exact Nat.le_trans (wl_small (by decide)) (by decide)) (by first | omega | exact Nat.le_trans (wl_small (by decide)) (by decide)) (by first | omega | exact Nat.le_trans (wl_small (by decide)) (by decide))) (by rfl) ?_
  simp only [Act.put, List.setIfInBounds_toArray, List.set_cons_zero, List.set_cons_succ]
  refine wpPlan_callL rfl (by rfl) Try.call13 (fun w' hw => pturn_any (u31) (u32) (u33) (u34) (u35) (u36) (t30) _ (by rw [← HT30.out]; simp only [← HZ36.out, ← HZ35.out, ← HZ34.out, ← HZ33.out, ← HZ32.out, ← HZ31.out, ← HZ29.out]; exact turn_move _ _ _ _ _ _ _ _) (by first | omega | exact Nat.le_trans (wl_small (by decide)) (by decide)) (by first | omega | exact Nat.le_trans (wl_small (by decide)) (by decide)) (by first | omega | exact Nat.le_trans (wl_small (by decide)) (by decide)) (by first | omega | exact Nat.le_trans (wl_small (by decide)) (by decide)) (by first | omega | exact Nat.le_trans (wl_small (by decide)) (by decide)) (by first | omega | exact Nat.le_trans (wl_small (by decide)) (by decide))) (by rfl) ?_
  simp only [Act.put, List.setIfInBounds_toArray, List.set_cons_zero, List.set_cons_succ]
  iterate 2
    refine wpPlan_takeL (v := ?_) rfl (by rfl) (fun w' hw => ?_) ?_
    rotate_left
    · go_simp
      with_reducible rfl
    simp only [Act.put, List.setIfInBounds_toArray, List.set_cons_zero, List.set_cons_succ]
  refine wpPlan_nil (hT.out _ _ ?_); clear hT T
  intro G vw9 hg hf
  simp only [puts, Act.put, List.setIfInBounds_toArray, List.set_cons_zero, List.set_cons_succ, List.drop_succ_cons, List.drop_zero, ↓reduceIte, Nat.reduceEqDiff]
  clear lx1 lx2 lx3 lx4
  have HG := Lib.hid (hg)
  clear hg
  have bx1 := BX1.out.gr HG.out; clear BX1
  have bx2 := BX2.out.gr HG.out; clear BX2
  have bx3 := BX3.out.gr HG.out; clear BX3
  have bx4 := BX4.out.gr HG.out; clear BX4
  have bx6 := BX6.out.gr HG.out; clear BX6
  have r0 := Gr.refl vw9
  have BX1 := Lib.hid bx1; clear bx1
  have BX2 := Lib.hid bx2; clear bx2
  have BX3 := Lib.hid bx3; clear bx3
  have BX4 := Lib.hid bx4; clear bx4
  have BX6 := Lib.hid bx6; clear bx6
  go_wp2
  refine hK.out _ _ ?_; clear hK K
  show Code.wp _ _ _ _ _
  clear r0
  refine forgetW (fun w2 => Bx w2 gx6 36 #[.int .u64 ((lo (Int.natAbs ((u29).num)) : Nat) : Int), .string (bg (Int.natAbs ((u29).num))), .bool (decide (((u29).num) < 0)), .int .u64 ((lo ((u29).den - 1) : Nat) : Int), .string (bg ((u29).den - 1))] ∧ Below w.heap.size w w2) ⟨BX6.out, HB.out.trans (HG.out.mono HB.out.size)⟩ ?_
  clear HB HG BX1 BX2 BX3 BX4 BX6
  rintro Wx9 ⟨bx6, HB⟩
  replace HB := Lib.hid HB
  -- region 10
  have lx6 := bx6.cells
  have BX6 := Lib.hid bx6
  clear bx6
  refine wp_seq_k fun K hK => ?_
  replace hK := Lib.hid hK
  refine wp_region_seqplan 10 [(true, 0), (true, 1), (true, 2), (true, 3), (true, 4), (true, 5), (true, 6), (true, 7), (true, 8), (true, 9)] (by rfl) (by simp) (fun T hT => ?_)
  iterate 1
    refine wpPlan_takeL (v := ?_) rfl (by rfl) (fun w' hw => ?_) ?_
    rotate_left
    · go_simp
      with_reducible rfl
    simp only [Act.put, List.setIfInBounds_toArray, List.set_cons_zero, List.set_cons_succ]
  refine wpPlan_callL rfl (by rfl) Try.call15 (fun w' hw => fsign_any (u29) (0) _ (by simp only [← HZ36.out, ← HZ35.out, ← HZ34.out, ← HZ33.out, ← HZ32.out, ← HZ31.out, ← HZ29.out, ← HZ28.out, ← HZ27.out, ← HZ26.out, ← HZ25.out, ← HZ24.out, ← HZ23.out, ← HZ22.out, ← HZ21.out, ← HZ20.out, ← HZ19.out, ← HZ18.out, ← HZ17.out, ← HZ14.out, ← HZ13.out, ← HZ10.out, ← HZ9.out, ← HZ6.out, ← HZ5.out]; rw [five]; rfl)) (by rfl) ?_
  simp only [Act.put, List.setIfInBounds_toArray, List.set_cons_zero, List.set_cons_succ]
  iterate 5
    refine wpPlan_takeL (v := ?_) rfl (by rfl) (fun w' hw => ?_) ?_
    rotate_left
    · go_simp
      with_reducible rfl
    simp only [Act.put, List.setIfInBounds_toArray, List.set_cons_zero, List.set_cons_succ]
  refine wpPlan_callL rfl (by rfl) Try.call16 (fun w' hw => lives_any _) (by rfl) ?_
  simp only [Act.put, List.setIfInBounds_toArray, List.set_cons_zero, List.set_cons_succ]
  iterate 2
    refine wpPlan_takeL (v := ?_) rfl (by rfl) (fun w' hw => ?_) ?_
    rotate_left
    · go_simp
      with_reducible rfl
    simp only [Act.put, List.setIfInBounds_toArray, List.set_cons_zero, List.set_cons_succ]
  refine wpPlan_nil (hT.out _ _ ?_); clear hT T
  intro vw10 hg
  simp only [puts, Act.put, List.setIfInBounds_toArray, List.set_cons_zero, List.set_cons_succ, List.drop_succ_cons, List.drop_zero, ↓reduceIte, Nat.reduceEqDiff]
  clear lx6
  have HG := Lib.hid (hg)
  clear hg
  have bx6 := BX6.out.gr HG.out; clear BX6
  have r0 := Gr.refl vw10
  have BX6 := Lib.hid bx6; clear bx6
  go_wp2
  refine hK.out _ _ ?_; clear hK K
  show Code.wp _ _ _ _ _
  clear r0
  refine forgetW (fun w2 => Below w.heap.size w w2) (HB.out.trans (HG.out.mono HB.out.size)) ?_
  clear HB HG BX6
  rintro Wx10 HB
  replace HB := Lib.hid HB
  refine wp_ret ?_
  try simp only [Exit.then, Exit.inBlock]
  have r0 := Gr.refl Wx10
  exact bodyPost_ret (v := .bool true) (by simp [results, Try.results3, go_sem]) rfl ⟨rfl, HB.out⟩

end Go.Proofs.Ytenpbnmmadbkdaa
