
/- points: On, Circle. -/
import Derived.Test.YtobojnodohjiaaaGreatDoorPts2
import Derived.Test.YtobojnodohjiaaaGreatDoorEarly
import Derived.Test.YtobojnodohjiaaaGreatDoorHp
set_option linter.unusedVariables false
set_option linter.unusedSimpArgs false
namespace Go.Proofs.YtobojnodohjiaaaGreatDoor
open Go.RowKit
attribute [local go_sem ↓] Go.wp_at_zero Go.wp_at_succ
def onB (a1 a2 b1 b2 p1 p2 : Rat) : Bool :=
  (turn a1 a2 b1 b2 p1 p2 == 0) && (!plt p1 p2 (if plt b1 b2 a1 a2 then b1 else a1) (if plt b1 b2 a1 a2 then b2 else a2) && !plt (if plt a1 a2 b1 b2 then b1 else a1) (if plt a1 a2 b1 b2 then b2 else a2) p1 p2)
def incirc (a1 a2 b1 b2 c1 c2 d1 d2 : Rat) : Rat :=
  psum [((a1 - d1) * (a1 - d1) + (a2 - d2) * (a2 - d2)) * ((b1 - d1) * (c2 - d2) - (b2 - d2) * (c1 - d1)),
    ((b1 - d1) * (b1 - d1) + (b2 - d2) * (b2 - d2)) * ((c1 - d1) * (a2 - d2) - (c2 - d2) * (a1 - d1)),
    ((c1 - d1) * (c1 - d1) + (c2 - d2) * (c2 - d2)) * ((a1 - d1) * (b2 - d2) - (a2 - d2) * (b1 - d1))] 3
set_option maxHeartbeats 1000000 in
theorem pcircle_any (a1 a2 b1 b2 c1 c2 d1 d2 : Rat) (s t r : Int) (w : World) (hsg : sgQ (incirc a1 a2 b1 b2 c1 c2 d1 d2) = s) (ht : turn a1 a2 b1 b2 c1 c2 = t) (hw : IntKind.i64.wrap (s * t) = r) (hs_a1 : sz a1 ≤ 50) (hs_a2 : sz a2 ≤ 50) (hs_b1 : sz b1 ≤ 50) (hs_b2 : sz b2 ≤ 50) (hs_c1 : sz c1 ≤ 50) (hs_c2 : sz c2 ≤ 50) (hs_d1 : sz d1 ≤ 50) (hs_d2 : sz d2 ≤ 50) :
    Calls Tryz.prog 94 #[(Value.agg #[.int .u64 ((lo (Int.natAbs ((a1).num)) : Nat) : Int), .string (bg (Int.natAbs ((a1).num))), .bool (decide (((a1).num) < 0)), .int .u64 ((lo ((a1).den - 1) : Nat) : Int), .string (bg ((a1).den - 1)), .int .u64 ((lo (Int.natAbs ((a2).num)) : Nat) : Int), .string (bg (Int.natAbs ((a2).num))), .bool (decide (((a2).num) < 0)), .int .u64 ((lo ((a2).den - 1) : Nat) : Int), .string (bg ((a2).den - 1))]), (Value.agg #[.int .u64 ((lo (Int.natAbs ((b1).num)) : Nat) : Int), .string (bg (Int.natAbs ((b1).num))), .bool (decide (((b1).num) < 0)), .int .u64 ((lo ((b1).den - 1) : Nat) : Int), .string (bg ((b1).den - 1)), .int .u64 ((lo (Int.natAbs ((b2).num)) : Nat) : Int), .string (bg (Int.natAbs ((b2).num))), .bool (decide (((b2).num) < 0)), .int .u64 ((lo ((b2).den - 1) : Nat) : Int), .string (bg ((b2).den - 1))]), (Value.agg #[.int .u64 ((lo (Int.natAbs ((c1).num)) : Nat) : Int), .string (bg (Int.natAbs ((c1).num))), .bool (decide (((c1).num) < 0)), .int .u64 ((lo ((c1).den - 1) : Nat) : Int), .string (bg ((c1).den - 1)), .int .u64 ((lo (Int.natAbs ((c2).num)) : Nat) : Int), .string (bg (Int.natAbs ((c2).num))), .bool (decide (((c2).num) < 0)), .int .u64 ((lo ((c2).den - 1) : Nat) : Int), .string (bg ((c2).den - 1))]), (Value.agg #[.int .u64 ((lo (Int.natAbs ((d1).num)) : Nat) : Int), .string (bg (Int.natAbs ((d1).num))), .bool (decide (((d1).num) < 0)), .int .u64 ((lo ((d1).den - 1) : Nat) : Int), .string (bg ((d1).den - 1)), .int .u64 ((lo (Int.natAbs ((d2).num)) : Nat) : Int), .string (bg (Int.natAbs ((d2).num))), .bool (decide (((d2).num) < 0)), .int .u64 ((lo ((d2).den - 1) : Nat) : Int), .string (bg ((d2).den - 1))])] w fun e w' => e = .returned (.int .i64 (r)) ∧ Below w.heap.size w w' := by
  replace hsg := Lib.hid hsg
  replace ht := Lib.hid ht
  go_enter Tryz.func94, Tryz.ntmps94
  have HF := Lib.hid (hp0 w)
  refine kS fun K hK => ?_
  refine wp_region_lit ?_
  go_wp2
  refine kO hK ?_; clear hK K
  refine fH (((((HF.out).aL (w.heap.size)).aL (w.heap.size + 1)).aL (w.heap.size + 1 + 1)).aL (w.heap.size + 1 + 1 + 1)) fun Wx0 HG => ?_
  clear HF; have HF := HG; clear HG
  generalize w.heap.size + 1 + 1 + 1 = gx3 at *
  generalize w.heap.size + 1 + 1 = gx2 at *
  generalize w.heap.size + 1 = gx1 at *
  obtain ⟨u1, HZ1⟩ : ∃ z, Hid ((a1) - (d1) = z) := ⟨_, Lib.hid rfl⟩
  have su1 : sz u1 ≤ 101 := by rw [← HZ1.out]; have := sz_sub (a1) (d1); omega
  obtain ⟨u2, HZ2⟩ : ∃ z, Hid ((a2) - (d2) = z) := ⟨_, Lib.hid rfl⟩
  have su2 : sz u2 ≤ 101 := by rw [← HZ2.out]; have := sz_sub (a2) (d2); omega
  obtain ⟨u3, HZ3⟩ : ∃ z, Hid ((b1) - (d1) = z) := ⟨_, Lib.hid rfl⟩
  have su3 : sz u3 ≤ 101 := by rw [← HZ3.out]; have := sz_sub (b1) (d1); omega
  obtain ⟨u4, HZ4⟩ : ∃ z, Hid ((b2) - (d2) = z) := ⟨_, Lib.hid rfl⟩
  have su4 : sz u4 ≤ 101 := by rw [← HZ4.out]; have := sz_sub (b2) (d2); omega
  obtain ⟨u5, HZ5⟩ : ∃ z, Hid ((c1) - (d1) = z) := ⟨_, Lib.hid rfl⟩
  have su5 : sz u5 ≤ 101 := by rw [← HZ5.out]; have := sz_sub (c1) (d1); omega
  obtain ⟨u6, HZ6⟩ : ∃ z, Hid ((c2) - (d2) = z) := ⟨_, Lib.hid rfl⟩
  have su6 : sz u6 ≤ 101 := by rw [← HZ6.out]; have := sz_sub (c2) (d2); omega
  have lx0 := HF.out.c 0 rfl
  have lx1 := HF.out.c 1 rfl
  have lx2 := HF.out.c 2 rfl
  have lx3 := HF.out.c 3 rfl
  refine kS fun K hK => ?_
  refine wp_region_plan 12 [9, 10, 11] [] (fun i => if i = 9 then 9 else if i = 10 then 10 else 11) (fun i => if i = 9 then .cells #[.int .u64 0, .string ⟨#[]⟩, .bool false, .int .u64 0, .string ⟨#[]⟩, .int .u64 0, .string ⟨#[]⟩, .bool false, .int .u64 0, .string ⟨#[]⟩] 38 else if i = 10 then .cells #[.int .u64 0, .string ⟨#[]⟩, .bool false, .int .u64 0, .string ⟨#[]⟩, .int .u64 0, .string ⟨#[]⟩, .bool false, .int .u64 0, .string ⟨#[]⟩] 38 else .cells #[.int .u64 0, .string ⟨#[]⟩, .bool false, .int .u64 0, .string ⟨#[]⟩, .int .u64 0, .string ⟨#[]⟩, .bool false, .int .u64 0, .string ⟨#[]⟩] 38) [(true, 0), (true, 1), (true, 3), (true, 4), (true, 6), (true, 7), (true, 2), (true, 5), (true, 8)] (by kernel_rfl) (by kernel_rfl) (by intro i hi; simp only [List.mem_cons, List.not_mem_nil, or_false] at hi; rcases hi with rfl | rfl | rfl <;> exact ⟨_, rfl, rfl, rfl, by simp, fun ρ w => by kernel_rfl⟩) (fun i hi => by cases hi) (fun _ _ _ _ _ h => h) (fun T hT => ?_)
  iterate 6 refine tk ?_
  refine ck Tryz.call78 (fun w' hw => psub_any (a1) (a2) (d1) (d2) (u1) (u2) _ HZ1.out HZ2.out om om om om) ?_
  refine ck Tryz.call78 (fun w' hw => psub_any (b1) (b2) (d1) (d2) (u3) (u4) _ HZ3.out HZ4.out om om om om) ?_
  refine ck Tryz.call78 (fun w' hw => psub_any (c1) (c2) (d1) (d2) (u5) (u6) _ HZ5.out HZ6.out om om om om) ?_
  refine wpPlan_nil (hT.out _ _ ?_)
  intro G vw1 hg hf
  simp only [puts, Act.put, lA, lB, lC, lD, lE, ↓reduceIte, Nat.reduceEqDiff]
  have HG := Lib.hid (HF.out.fr hg hf (zs := [(#[.int .u64 0, .string ⟨#[]⟩, .bool false, .int .u64 0, .string ⟨#[]⟩, .int .u64 0, .string ⟨#[]⟩, .bool false, .int .u64 0, .string ⟨#[]⟩], 38), (#[.int .u64 0, .string ⟨#[]⟩, .bool false, .int .u64 0, .string ⟨#[]⟩, .int .u64 0, .string ⟨#[]⟩, .bool false, .int .u64 0, .string ⟨#[]⟩], 38), (#[.int .u64 0, .string ⟨#[]⟩, .bool false, .int .u64 0, .string ⟨#[]⟩, .int .u64 0, .string ⟨#[]⟩, .bool false, .int .u64 0, .string ⟨#[]⟩], 38)]) rfl (by decide) (by decide))
  simp only [zq1_, zq2_, zq3_, zq4_, lF, lG] at HG
  clear hT T HF hg hf lx0 lx1 lx2 lx3
  generalize G 9 = gx5 at *
  generalize G 10 = gx6 at *
  generalize G 11 = gx7 at *
  have lx5 := HG.out.c 4 rfl; have fx5 := HG.out.f 4 rfl
  have lx6 := HG.out.c 5 rfl; have fx6 := HG.out.f 5 rfl
  have lx7 := HG.out.c 6 rfl; have fx7 := HG.out.f 6 rfl
  have r0 := Gr.refl vw1
  obtain ⟨d5_6, d6_5⟩ := HG.out.ne 4 5 rfl rfl (by decide)
  obtain ⟨d5_7, d7_5⟩ := HG.out.ne 4 6 rfl rfl (by decide)
  obtain ⟨d6_7, d7_6⟩ := HG.out.ne 5 6 rfl rfl (by decide)
  go_wp2
  refine kO hK ?_; clear hK K
  clear r0 lx5 fx5 lx6 fx6 lx7 fx7 d5_6 d6_5 d5_7 d7_5 d6_7 d7_6
  refine fH (((((((((((((((((HG.out).put2 4 0 rfl).put2 4 2 rfl).put2 4 4 rfl).put2 4 6 rfl).put2 4 8 rfl).put2 5 0 rfl).put2 5 2 rfl).put2 5 4 rfl).put2 5 6 rfl).put2 5 8 rfl).put2 6 0 rfl).put2 6 2 rfl).put2 6 4 rfl).put2 6 6 rfl).put2 6 8 rfl).er 3) fun Wx1 HF => ?_
  clear HG
  obtain ⟨u7, HZ7⟩ : ∃ z, Hid ((u1) * (u1) + (u2) * (u2) = z) := ⟨_, Lib.hid rfl⟩
  have su7 : sz u7 ≤ 405 := by rw [← HZ7.out]; have := sz_dot (u1) (u2) (u1) (u2); omega
  obtain ⟨u8, HZ8⟩ : ∃ z, Hid ((u3) * (u6) - (u4) * (u5) = z) := ⟨_, Lib.hid rfl⟩
  have su8 : sz u8 ≤ 405 := by rw [← HZ8.out]; have := sz_cross (u3) (u4) (u5) (u6); omega
  obtain ⟨u9, HZ9⟩ : ∃ z, Hid ((u7) * (u8) = z) := ⟨_, Lib.hid rfl⟩
  have su9 : sz u9 ≤ 810 := by rw [← HZ9.out]; have := sz_mul (u7) (u8); omega
  obtain ⟨u10, HZ10⟩ : ∃ z, Hid ((u3) * (u3) + (u4) * (u4) = z) := ⟨_, Lib.hid rfl⟩
  have su10 : sz u10 ≤ 405 := by rw [← HZ10.out]; have := sz_dot (u3) (u4) (u3) (u4); omega
  obtain ⟨u11, HZ11⟩ : ∃ z, Hid ((u5) * (u2) - (u6) * (u1) = z) := ⟨_, Lib.hid rfl⟩
  have su11 : sz u11 ≤ 405 := by rw [← HZ11.out]; have := sz_cross (u5) (u6) (u1) (u2); omega
  obtain ⟨u12, HZ12⟩ : ∃ z, Hid ((u10) * (u11) = z) := ⟨_, Lib.hid rfl⟩
  have su12 : sz u12 ≤ 810 := by rw [← HZ12.out]; have := sz_mul (u10) (u11); omega
  obtain ⟨u13, HZ13⟩ : ∃ z, Hid ((u5) * (u5) + (u6) * (u6) = z) := ⟨_, Lib.hid rfl⟩
  have su13 : sz u13 ≤ 405 := by rw [← HZ13.out]; have := sz_dot (u5) (u6) (u5) (u6); omega
  obtain ⟨u14, HZ14⟩ : ∃ z, Hid ((u1) * (u4) - (u2) * (u3) = z) := ⟨_, Lib.hid rfl⟩
  have su14 : sz u14 ≤ 405 := by rw [← HZ14.out]; have := sz_cross (u1) (u2) (u3) (u4); omega
  obtain ⟨u15, HZ15⟩ : ∃ z, Hid ((u13) * (u14) = z) := ⟨_, Lib.hid rfl⟩
  have su15 : sz u15 ≤ 810 := by rw [← HZ15.out]; have := sz_mul (u13) (u14); omega
  obtain ⟨u16, HZ16⟩ : ∃ z, Hid (psum [u9, u12, u15] 3 = z) := ⟨_, Lib.hid rfl⟩
  have su16 : sz u16 ≤ 3004 := by rw [← HZ16.out]; have := sz_psum [u9, u12, u15] 1000 (by intro q hq; simp only [List.mem_cons, List.not_mem_nil, or_false] at hq; rcases hq with rfl | rfl | rfl <;> omega) 3 (by simp); omega
  have lx5 := HF.out.c 3 rfl
  have lx6 := HF.out.c 4 rfl
  have lx7 := HF.out.c 5 rfl
  refine kS fun K hK => ?_
  have HG0 : Hid (Gr Wx1 Wx1) := Lib.hid (Gr.refl _)
  refine wp_region_early 24 [23] [] (fun _ => 12) (fun _ => .cells #[.int .u64 0, .string ⟨#[]⟩, .bool false, .int .u64 0, .string ⟨#[]⟩] 36) (fun i => (3, #[.int .u64 ((lo (Int.natAbs ((u9).num)) : Nat) : Int), .string (bg (Int.natAbs ((u9).num))), .bool (decide (((u9).num) < 0)), .int .u64 ((lo ((u9).den - 1) : Nat) : Int), .string (bg ((u9).den - 1)), .int .u64 ((lo (Int.natAbs ((u12).num)) : Nat) : Int), .string (bg (Int.natAbs ((u12).num))), .bool (decide (((u12).num) < 0)), .int .u64 ((lo ((u12).den - 1) : Nat) : Int), .string (bg ((u12).den - 1)), .int .u64 ((lo (Int.natAbs ((u15).num)) : Nat) : Int), .string (bg (Int.natAbs ((u15).num))), .bool (decide (((u15).num) < 0)), .int .u64 ((lo ((u15).den - 1) : Nat) : Int), .string (bg ((u15).den - 1))], 36)) [(0, 0), (0, 1), (0, 3), (0, 4), (0, 7), (0, 8), (0, 10), (0, 11), (0, 14), (0, 15), (0, 17), (0, 18), (0, 2), (0, 5), (0, 6), (0, 9), (0, 12), (0, 13), (0, 16), (0, 19), (0, 20), (1, 21), (2, 21), (0, 22)] (by kernel_rfl) (by kernel_rfl) (by intro i hi; simp only [List.mem_cons, List.not_mem_nil, or_false] at hi; rcases hi with rfl <;> exact ⟨_, rfl, rfl, rfl, by simp, fun ρ w => by kernel_rfl⟩) (fun i hi => by cases hi) (fun _ _ _ _ _ h => h) (fun T hT => ?_)
  iterate 12 (refine wpEarly_takeL (v := ?_) rfl (by rfl) (fun w' hw => ?_) ?_; rotate_left; go_simp; with_reducible rfl; simp only [Act.put, lA, lB, lC])
  refine wpEarly_callL rfl (by rfl) Tryz.call197 (fun w' hw => pdot_any (u1) (u2) (u1) (u2) (u7) _ HZ7.out om om om om) (by rfl) ?_
  simp only [Act.put, lA, lB, lC]
  refine wpEarly_callL rfl (by rfl) Tryz.call80 (fun w' hw => pcross_any (u3) (u4) (u5) (u6) (u8) _ HZ8.out om om om om) (by rfl) ?_
  simp only [Act.put, lA, lB, lC]
  refine wpEarly_callL rfl (by rfl) Tryz.call134 (fun w' hw => fmul_any (u7) (u8) (u9) _ HZ9.out om om) (by rfl) ?_
  simp only [Act.put, lA, lB, lC]
  refine wpEarly_callL rfl (by rfl) Tryz.call197 (fun w' hw => pdot_any (u3) (u4) (u3) (u4) (u10) _ HZ10.out om om om om) (by rfl) ?_
  simp only [Act.put, lA, lB, lC]
  refine wpEarly_callL rfl (by rfl) Tryz.call80 (fun w' hw => pcross_any (u5) (u6) (u1) (u2) (u11) _ HZ11.out om om om om) (by rfl) ?_
  simp only [Act.put, lA, lB, lC]
  refine wpEarly_callL rfl (by rfl) Tryz.call134 (fun w' hw => fmul_any (u10) (u11) (u12) _ HZ12.out om om) (by rfl) ?_
  simp only [Act.put, lA, lB, lC]
  refine wpEarly_callL rfl (by rfl) Tryz.call197 (fun w' hw => pdot_any (u5) (u6) (u5) (u6) (u13) _ HZ13.out om om om om) (by rfl) ?_
  simp only [Act.put, lA, lB, lC]
  refine wpEarly_callL rfl (by rfl) Tryz.call80 (fun w' hw => pcross_any (u1) (u2) (u3) (u4) (u14) _ HZ14.out om om om om) (by rfl) ?_
  simp only [Act.put, lA, lB, lC]
  refine wpEarly_callL rfl (by rfl) Tryz.call134 (fun w' hw => fmul_any (u13) (u14) (u15) _ HZ15.out om om) (by rfl) ?_
  simp only [Act.put, lA, lB, lC]
  refine wpEarly_mk rfl (by rfl) (fun w' => ?_) ?_
  · go_simp
  refine wpEarly_use rfl (by rfl) (fun gx8 vv8 hg0 yx8 bx8 => ?_)
  clear yx8
  replace HG0 := Lib.hid (HG0.out.trans hg0)
  have HGS := Lib.hid hg0; clear hg0
  clear HGS
  have BX8 := Lib.hid bx8; clear bx8
  clear lx5; have lx5 := fun w' (h : Gr _ w') => HF.out.c 3 rfl w' (HG0.out.trans h)
  clear lx6; have lx6 := fun w' (h : Gr _ w') => HF.out.c 4 rfl w' (HG0.out.trans h)
  clear lx7; have lx7 := fun w' (h : Gr _ w') => HF.out.c 5 rfl w' (HG0.out.trans h)
  simp only [Act.put, lA, lB, lC]
  refine wpEarly_callL rfl (by rfl) Tryz.call157 (fun w' hw => fsum_any [u9, u12, u15] (gx8) 3 (u16) _ (BX8.out.gr hw) rfl (by decide) (by intro q hq; simp only [List.mem_cons, List.not_mem_nil, or_false] at hq; rcases hq with rfl | rfl | rfl <;> omega) HZ16.out) (by rfl) ?_
  simp only [Act.put, lA, lB, lC]
  refine wpEarly_nil (hT.out _ _ ?_)
  intro G vw2 hg hf
  simp only [puts, Act.put, lA, lB, lC, lD, lE, ↓reduceIte, Nat.reduceEqDiff]
  have HG := Lib.hid (HF.out.fr (HG0.out.trans hg) hf (zs := [(#[.int .u64 0, .string ⟨#[]⟩, .bool false, .int .u64 0, .string ⟨#[]⟩], 36)]) rfl (by decide) (by decide))
  simp only [zq1_, zq2_, zq3_, zq4_, lF, lG] at HG
  clear hT T HF hg hf HG0 BX8 lx5 lx6 lx7
  generalize G 23 = gx9 at *
  have lx9 := HG.out.c 6 rfl; have fx9 := HG.out.f 6 rfl
  have r0 := Gr.refl vw2
  go_wp2
  refine kO hK ?_; clear hK K
  clear r0 lx9 fx9
  refine fH (((((((HG.out).put2 6 0 rfl).put2 6 2 rfl).put 6 4 _ rfl).er 5).er 4).er 3) fun Wx2 HF => ?_
  clear HG
  have lx0 := HF.out.c 0 rfl
  have lx1 := HF.out.c 1 rfl
  have lx2 := HF.out.c 2 rfl
  have lx9 := HF.out.c 3 rfl
  refine kS fun K hK => ?_
  refine pd 7 [(true, 0), (true, 2), (true, 3), (true, 4), (true, 1), (true, 5), (true, 6)] fun T hT => ?_
  iterate 4 refine tk ?_
  refine ck Tryz.call139 (fun w' hw => fsign_any (u16) (s) _ (by simp only [← HZ16.out, ← HZ15.out, ← HZ14.out, ← HZ13.out, ← HZ12.out, ← HZ11.out, ← HZ10.out, ← HZ9.out, ← HZ8.out, ← HZ7.out, ← HZ6.out, ← HZ5.out, ← HZ4.out, ← HZ3.out, ← HZ2.out, ← HZ1.out]; exact hsg.out)) ?_
  refine ck Tryz.call76 (fun w' hw => pturn_any (a1) (a2) (b1) (b2) (c1) (c2) (t) _ (ht.out) om om om om om om) ?_
  refine tk ?_
  refine nlD hT HF fun vw3 HG => ?_
  clear hT T HF lx0 lx1 lx2 lx9
  go_wp2
  refine kO hK ?_; clear hK K
  refine fH (((((HG.out).er 3).er 2).er 1).er 0) fun Wx3 HF => ?_
  clear HG
  refine wp_ret ?_
  try simp only [Exit.then, Exit.inBlock]
  exact bodyPost_ret (v := .int .i64 (r)) (by simp [results, Tryz.results94, go_sem]) rfl ⟨rfl, HF.out.1⟩
end Go.Proofs.YtobojnodohjiaaaGreatDoor
