
/- PointsCut: the law's walk. -/
import Derived.Test.YtobojnodohjiaaaGreatDoorRCutJ
import Derived.Test.YtobojnodohjiaaaGreatDoorCut3
import Derived.Test.YtobojnodohjiaaaGreatDoorPL
import Derived.Test.YtobojnodohjiaaaGreatDoorPN
import Derived.Test.YtobojnodohjiaaaGreatDoorPS
import Derived.Test.YtobojnodohjiaaaGreatDoorPX
import Derived.Test.YtobojnodohjiaaaGreatDoorEqQ
set_option linter.unusedVariables false
set_option linter.unusedSimpArgs false
namespace Go.Proofs.YtobojnodohjiaaaGreatDoor
open Go.RowKit
attribute [local go_sem ↓] Go.wp_at_zero Go.wp_at_succ
attribute [local go_sem ↓] eq_nat eq_nat_zero eq_int
theorem rz_sz (q : Rat) : rz q ≤ 3 * sz q := rz_of (Nat.le_trans (tw_wl _) (Nat.mul_le_mul_left 3 (sz_num q))) (Nat.le_trans (tw_wl _) (Nat.mul_le_mul_left 3 (sz_den q)))
theorem pcutz (a1 a2 b1 b2 c1 c2 d1 d2 z1 z2 : Rat) (m : Int) (w : World) (h : cutV (a1, a2) (b1, b2) (c1, c2) (d1, d2) = (m, (z1, z2))) (ha1 : sz a1 ≤ 40) (ha2 : sz a2 ≤ 40) (hb1 : sz b1 ≤ 40) (hb2 : sz b2 ≤ 40) (hc1 : sz c1 ≤ 40) (hc2 : sz c2 ≤ 40) (hd1 : sz d1 ≤ 40) (hd2 : sz d2 ≤ 40) :
    Calls Tryz.prog 16 #[.agg #[.int .u64 ((lo (Int.natAbs ((a1).num)) : Nat) : Int), .string (bg (Int.natAbs ((a1).num))), .bool (decide (((a1).num) < 0)), .int .u64 ((lo ((a1).den - 1) : Nat) : Int), .string (bg ((a1).den - 1)), .int .u64 ((lo (Int.natAbs ((a2).num)) : Nat) : Int), .string (bg (Int.natAbs ((a2).num))), .bool (decide (((a2).num) < 0)), .int .u64 ((lo ((a2).den - 1) : Nat) : Int), .string (bg ((a2).den - 1))], .agg #[.int .u64 ((lo (Int.natAbs ((b1).num)) : Nat) : Int), .string (bg (Int.natAbs ((b1).num))), .bool (decide (((b1).num) < 0)), .int .u64 ((lo ((b1).den - 1) : Nat) : Int), .string (bg ((b1).den - 1)), .int .u64 ((lo (Int.natAbs ((b2).num)) : Nat) : Int), .string (bg (Int.natAbs ((b2).num))), .bool (decide (((b2).num) < 0)), .int .u64 ((lo ((b2).den - 1) : Nat) : Int), .string (bg ((b2).den - 1))], .agg #[.int .u64 ((lo (Int.natAbs ((c1).num)) : Nat) : Int), .string (bg (Int.natAbs ((c1).num))), .bool (decide (((c1).num) < 0)), .int .u64 ((lo ((c1).den - 1) : Nat) : Int), .string (bg ((c1).den - 1)), .int .u64 ((lo (Int.natAbs ((c2).num)) : Nat) : Int), .string (bg (Int.natAbs ((c2).num))), .bool (decide (((c2).num) < 0)), .int .u64 ((lo ((c2).den - 1) : Nat) : Int), .string (bg ((c2).den - 1))], .agg #[.int .u64 ((lo (Int.natAbs ((d1).num)) : Nat) : Int), .string (bg (Int.natAbs ((d1).num))), .bool (decide (((d1).num) < 0)), .int .u64 ((lo ((d1).den - 1) : Nat) : Int), .string (bg ((d1).den - 1)), .int .u64 ((lo (Int.natAbs ((d2).num)) : Nat) : Int), .string (bg (Int.natAbs ((d2).num))), .bool (decide (((d2).num) < 0)), .int .u64 ((lo ((d2).den - 1) : Nat) : Int), .string (bg ((d2).den - 1))]] w fun e w' => e = .returned (.tuple #[.int .i64 m, .agg #[.int .u64 ((lo (Int.natAbs ((z1).num)) : Nat) : Int), .string (bg (Int.natAbs ((z1).num))), .bool (decide (((z1).num) < 0)), .int .u64 ((lo ((z1).den - 1) : Nat) : Int), .string (bg ((z1).den - 1)), .int .u64 ((lo (Int.natAbs ((z2).num)) : Nat) : Int), .string (bg (Int.natAbs ((z2).num))), .bool (decide (((z2).num) < 0)), .int .u64 ((lo ((z2).den - 1) : Nat) : Int), .string (bg ((z2).den - 1))]]) ∧ Below w.heap.size w w' :=
  pcut_any (a1, a2) (b1, b2) (c1, c2) (d1, d2) m (z1, z2) w h ⟨Nat.le_trans ha1 (by decide), Nat.le_trans ha2 (by decide)⟩ ⟨Nat.le_trans hb1 (by decide), Nat.le_trans hb2 (by decide)⟩ ⟨Nat.le_trans hc1 (by decide), Nat.le_trans hc2 (by decide)⟩ ⟨Nat.le_trans hd1 (by decide), Nat.le_trans hd2 (by decide)⟩
theorem eq_pt_zero (d : Nat) (a1 a2 : Rat) (w : World) : (Op.equalIn (d + 6) 38 (Value.agg #[.int .u64 ((lo (Int.natAbs ((a1).num)) : Nat) : Int), .string (bg (Int.natAbs ((a1).num))), .bool (decide (((a1).num) < 0)), .int .u64 ((lo ((a1).den - 1) : Nat) : Int), .string (bg ((a1).den - 1)), .int .u64 ((lo (Int.natAbs ((a2).num)) : Nat) : Int), .string (bg (Int.natAbs ((a2).num))), .bool (decide (((a2).num) < 0)), .int .u64 ((lo ((a2).den - 1) : Nat) : Int), .string (bg ((a2).den - 1))]) (Value.agg #[.int .u64 0, .string ⟨#[]⟩, .bool false, .int .u64 0, .string ⟨#[]⟩, .int .u64 0, .string ⟨#[]⟩, .bool false, .int .u64 0, .string ⟨#[]⟩])).run Tryz.prog w = .ok (decide (a1 = 0) && decide (a2 = 0)) w := eq_pt d a1 a2 0 0 w
attribute [local go_sem ↓] eq_nat eq_nat_zero eq_int eq_frac eq_frac_zero eq_pt eq_pt_zero
set_option maxRecDepth 100000 in
set_option maxHeartbeats 16000000 in
theorem pcut_z (n0x d0x n0y d0y n1x d1x n1y d1y n2x d2x n2y d2y n3x d3x n3y d3y : Int) (a1 a2 b1 b2 c1 c2 d1 d2 p1 p2 q1 q2 : Rat) (w : World) (HA0 : Hid (qv n0x d0x = a1)) (HA1 : Hid (qv n0y d0y = a2)) (HA2 : Hid (qv n1x d1x = b1)) (HA3 : Hid (qv n1y d1y = b2)) (HA4 : Hid (qv n2x d2x = c1)) (HA5 : Hid (qv n2y d2y = c2)) (HA6 : Hid (qv n3x d3x = d1)) (HA7 : Hid (qv n3y d3y = d2)) (HCV : Hid (cutV (a1, a2) (b1, b2) (c1, c2) (d1, d2) = (0, (p1, p2)))) (HCR : Hid (cutR (a1, a2) (b1, b2) (c1, c2) (d1, d2) = (0, (q1, q2)))) (HP1 : Hid (p1 = 0)) (HP2 : Hid (p2 = 0)) (h1_0x : -9223372036854775808 ≤ n0x) (h2_0x : n0x ≤ 9223372036854775807) (h3_0x : 0 ≤ d0x) (h4_0x : d0x ≤ 4294967295) (h1_0y : -9223372036854775808 ≤ n0y) (h2_0y : n0y ≤ 9223372036854775807) (h3_0y : 0 ≤ d0y) (h4_0y : d0y ≤ 4294967295) (h1_1x : -9223372036854775808 ≤ n1x) (h2_1x : n1x ≤ 9223372036854775807) (h3_1x : 0 ≤ d1x) (h4_1x : d1x ≤ 4294967295) (h1_1y : -9223372036854775808 ≤ n1y) (h2_1y : n1y ≤ 9223372036854775807) (h3_1y : 0 ≤ d1y) (h4_1y : d1y ≤ 4294967295) (h1_2x : -9223372036854775808 ≤ n2x) (h2_2x : n2x ≤ 9223372036854775807) (h3_2x : 0 ≤ d2x) (h4_2x : d2x ≤ 4294967295) (h1_2y : -9223372036854775808 ≤ n2y) (h2_2y : n2y ≤ 9223372036854775807) (h3_2y : 0 ≤ d2y) (h4_2y : d2y ≤ 4294967295) (h1_3x : -9223372036854775808 ≤ n3x) (h2_3x : n3x ≤ 9223372036854775807) (h3_3x : 0 ≤ d3x) (h4_3x : d3x ≤ 4294967295) (h1_3y : -9223372036854775808 ≤ n3y) (h2_3y : n3y ≤ 9223372036854775807) (h3_3y : 0 ≤ d3y) (h4_3y : d3y ≤ 4294967295) (HT : Hid (Tab w)) :
    Calls Tryz.prog 3 #[(Value.agg #[.int .i64 (n0x), .int .u32 (d0x), .int .i64 (n0y), .int .u32 (d0y), .int .i64 (n1x), .int .u32 (d1x), .int .i64 (n1y), .int .u32 (d1y), .int .i64 (n2x), .int .u32 (d2x), .int .i64 (n2y), .int .u32 (d2y), .int .i64 (n3x), .int .u32 (d3x), .int .i64 (n3y), .int .u32 (d3y)])] w fun e w' => e = .returned (.bool true) ∧ Below w.heap.size w w' := by
  go_enter Tryz.func3, Tryz.ntmps3
  have HF := Lib.hid (hp0 w)
  refine kS fun K hK => ?_
  refine wp_region_lit ?_
  go_wp2
  refine kO hK ?_; clear hK K
  refine fH ((HF.out).aL (w.heap.size)) fun Wx0 HG => ?_
  clear HF; have HF := HG; clear HG
  have HZ1 : Hid (qv (n0x) (d0x) = a1) := Lib.hid (by first | exact ok | exact HA0.out | exact HA1.out | exact HA2.out | exact HA3.out | exact HA4.out | exact HA5.out | exact HA6.out | exact HA7.out)
  have su1 : sz (a1) ≤ 4 := by have e := HZ1.out; first | omega | (rw [← e]; exact sz_qv (n0x) (d0x) om om om om)
  have HZ2 : Hid (qv (n0y) (d0y) = a2) := Lib.hid (by first | exact ok | exact HA0.out | exact HA1.out | exact HA2.out | exact HA3.out | exact HA4.out | exact HA5.out | exact HA6.out | exact HA7.out)
  have su2 : sz (a2) ≤ 4 := by have e := HZ2.out; first | omega | (rw [← e]; exact sz_qv (n0y) (d0y) om om om om)
  have HZ3 : Hid (qv (n1x) (d1x) = b1) := Lib.hid (by first | exact ok | exact HA0.out | exact HA1.out | exact HA2.out | exact HA3.out | exact HA4.out | exact HA5.out | exact HA6.out | exact HA7.out)
  have su3 : sz (b1) ≤ 4 := by have e := HZ3.out; first | omega | (rw [← e]; exact sz_qv (n1x) (d1x) om om om om)
  have HZ4 : Hid (qv (n1y) (d1y) = b2) := Lib.hid (by first | exact ok | exact HA0.out | exact HA1.out | exact HA2.out | exact HA3.out | exact HA4.out | exact HA5.out | exact HA6.out | exact HA7.out)
  have su4 : sz (b2) ≤ 4 := by have e := HZ4.out; first | omega | (rw [← e]; exact sz_qv (n1y) (d1y) om om om om)
  have HZ5 : Hid (qv (n2x) (d2x) = c1) := Lib.hid (by first | exact ok | exact HA0.out | exact HA1.out | exact HA2.out | exact HA3.out | exact HA4.out | exact HA5.out | exact HA6.out | exact HA7.out)
  have su5 : sz (c1) ≤ 4 := by have e := HZ5.out; first | omega | (rw [← e]; exact sz_qv (n2x) (d2x) om om om om)
  have HZ6 : Hid (qv (n2y) (d2y) = c2) := Lib.hid (by first | exact ok | exact HA0.out | exact HA1.out | exact HA2.out | exact HA3.out | exact HA4.out | exact HA5.out | exact HA6.out | exact HA7.out)
  have su6 : sz (c2) ≤ 4 := by have e := HZ6.out; first | omega | (rw [← e]; exact sz_qv (n2y) (d2y) om om om om)
  have HZ7 : Hid (qv (n3x) (d3x) = d1) := Lib.hid (by first | exact ok | exact HA0.out | exact HA1.out | exact HA2.out | exact HA3.out | exact HA4.out | exact HA5.out | exact HA6.out | exact HA7.out)
  have su7 : sz (d1) ≤ 4 := by have e := HZ7.out; first | omega | (rw [← e]; exact sz_qv (n3x) (d3x) om om om om)
  have HZ8 : Hid (qv (n3y) (d3y) = d2) := Lib.hid (by first | exact ok | exact HA0.out | exact HA1.out | exact HA2.out | exact HA3.out | exact HA4.out | exact HA5.out | exact HA6.out | exact HA7.out)
  have su8 : sz (d2) ≤ 4 := by have e := HZ8.out; first | omega | (rw [← e]; exact sz_qv (n3y) (d3y) om om om om)
  have lx0 := HF.out.c 0 rfl
  refine kS fun K hK => ?_
  refine wp_region_plan 18 [16] [] (fun _ => 4) (fun _ => .cells #[.int .u64 0, .string ⟨#[]⟩, .bool false, .int .u64 0, .string ⟨#[]⟩, .int .u64 0, .string ⟨#[]⟩, .bool false, .int .u64 0, .string ⟨#[]⟩] 38) [(true, 0), (true, 1), (true, 3), (true, 4), (true, 6), (true, 7), (true, 9), (true, 10), (true, 2), (true, 5), (true, 8), (true, 11), (true, 12), (true, 13), (true, 14), (true, 15), (true, 17)] (by kernel_rfl) (by kernel_rfl) (by intro i hi; simp only [List.mem_cons, List.not_mem_nil, or_false] at hi; rcases hi with rfl <;> exact ⟨_, rfl, rfl, rfl, by simp, fun ρ w => by kernel_rfl⟩) (fun i hi => by cases hi) (fun _ _ _ _ _ h => h) (fun T hT => ?_)
  iterate 8 refine tk ?_
  refine ck Tryz.call17 (fun w' hw => pof_any (n0x) (d0x) (n0y) (d0y) (a1) (a2) _ (Lib.hid HZ1.out) (Lib.hid HZ2.out) om om om om om om om om) ?_
  refine ck Tryz.call17 (fun w' hw => pof_any (n1x) (d1x) (n1y) (d1y) (b1) (b2) _ (Lib.hid HZ3.out) (Lib.hid HZ4.out) om om om om om om om om) ?_
  refine ck Tryz.call17 (fun w' hw => pof_any (n2x) (d2x) (n2y) (d2y) (c1) (c2) _ (Lib.hid HZ5.out) (Lib.hid HZ6.out) om om om om om om om om) ?_
  refine ck Tryz.call17 (fun w' hw => pof_any (n3x) (d3x) (n3y) (d3y) (d1) (d2) _ (Lib.hid HZ7.out) (Lib.hid HZ8.out) om om om om om om om om) ?_
  refine ck Tryz.call16 (fun w' hw => pcutz (a1) (a2) (b1) (b2) (c1) (c2) (d1) (d2) (p1) (p2) (0) _ (HCV.out) om om om om om om om om) ?_
  iterate 4 refine tk ?_
  refine wpPlan_nil (hT.out _ _ ?_)
  intro G vw1 hg hf
  simp only [puts, Act.put, lA, lB, lC, lD, lE, ↓reduceIte, Nat.reduceEqDiff]
  have HG := Lib.hid (HF.out.fr hg hf (zs := [(#[.int .u64 0, .string ⟨#[]⟩, .bool false, .int .u64 0, .string ⟨#[]⟩, .int .u64 0, .string ⟨#[]⟩, .bool false, .int .u64 0, .string ⟨#[]⟩], 38)]) rfl (by decide) (by decide))
  simp only [zq1_, zq2_, zq3_, zq4_, lF, lG] at HG
  clear hT T HF hg hf lx0
  generalize G 16 = gx2 at *
  have lx2 := HG.out.c 1 rfl; have fx2 := HG.out.f 1 rfl
  have r0 := Gr.refl vw1
  go_wp2
  refine kO hK ?_; clear hK K
  clear r0 lx2 fx2
  refine fH ((((((HG.out).put2 1 0 rfl).put2 1 2 rfl).put2 1 4 rfl).put2 1 6 rfl).put2 1 8 rfl) fun Wx1 HF => ?_
  clear HG
  have HZ9 : Hid (qv (n0x) (d0x) = a1) := Lib.hid (by first | exact ok | exact HA0.out | exact HA1.out | exact HA2.out | exact HA3.out | exact HA4.out | exact HA5.out | exact HA6.out | exact HA7.out)
  have su9 : rz (a1) ≤ 10 := by have e := HZ9.out; first | omega | (rw [← e]; exact rz_qv (n0x) (d0x) om om om om)
  have HZ10 : Hid (qv (n0y) (d0y) = a2) := Lib.hid (by first | exact ok | exact HA0.out | exact HA1.out | exact HA2.out | exact HA3.out | exact HA4.out | exact HA5.out | exact HA6.out | exact HA7.out)
  have su10 : rz (a2) ≤ 10 := by have e := HZ10.out; first | omega | (rw [← e]; exact rz_qv (n0y) (d0y) om om om om)
  have HZ11 : Hid (qv (n1x) (d1x) = b1) := Lib.hid (by first | exact ok | exact HA0.out | exact HA1.out | exact HA2.out | exact HA3.out | exact HA4.out | exact HA5.out | exact HA6.out | exact HA7.out)
  have su11 : rz (b1) ≤ 10 := by have e := HZ11.out; first | omega | (rw [← e]; exact rz_qv (n1x) (d1x) om om om om)
  have HZ12 : Hid (qv (n1y) (d1y) = b2) := Lib.hid (by first | exact ok | exact HA0.out | exact HA1.out | exact HA2.out | exact HA3.out | exact HA4.out | exact HA5.out | exact HA6.out | exact HA7.out)
  have su12 : rz (b2) ≤ 10 := by have e := HZ12.out; first | omega | (rw [← e]; exact rz_qv (n1y) (d1y) om om om om)
  have HZ13 : Hid (qv (n2x) (d2x) = c1) := Lib.hid (by first | exact ok | exact HA0.out | exact HA1.out | exact HA2.out | exact HA3.out | exact HA4.out | exact HA5.out | exact HA6.out | exact HA7.out)
  have su13 : rz (c1) ≤ 10 := by have e := HZ13.out; first | omega | (rw [← e]; exact rz_qv (n2x) (d2x) om om om om)
  have HZ14 : Hid (qv (n2y) (d2y) = c2) := Lib.hid (by first | exact ok | exact HA0.out | exact HA1.out | exact HA2.out | exact HA3.out | exact HA4.out | exact HA5.out | exact HA6.out | exact HA7.out)
  have su14 : rz (c2) ≤ 10 := by have e := HZ14.out; first | omega | (rw [← e]; exact rz_qv (n2y) (d2y) om om om om)
  have HZ15 : Hid (qv (n3x) (d3x) = d1) := Lib.hid (by first | exact ok | exact HA0.out | exact HA1.out | exact HA2.out | exact HA3.out | exact HA4.out | exact HA5.out | exact HA6.out | exact HA7.out)
  have su15 : rz (d1) ≤ 10 := by have e := HZ15.out; first | omega | (rw [← e]; exact rz_qv (n3x) (d3x) om om om om)
  have HZ16 : Hid (qv (n3y) (d3y) = d2) := Lib.hid (by first | exact ok | exact HA0.out | exact HA1.out | exact HA2.out | exact HA3.out | exact HA4.out | exact HA5.out | exact HA6.out | exact HA7.out)
  have su16 : rz (d2) ≤ 10 := by have e := HZ16.out; first | omega | (rw [← e]; exact rz_qv (n3y) (d3y) om om om om)
  have lx0 := HF.out.c 0 rfl
  refine kS fun K hK => ?_
  have HG0 : Hid (Gr Wx1 Wx1) := Lib.hid (Gr.refl _)
  refine wp_region_plan 18 [16] [] (fun _ => 6) (fun _ => .cells #[.bool false, .slice none 0 0, .slice none 0 0, .bool false, .slice none 0 0, .slice none 0 0] 49) [(true, 0), (true, 1), (true, 3), (true, 4), (true, 6), (true, 7), (true, 9), (true, 10), (false, 2), (false, 5), (false, 8), (false, 11), (false, 12), (true, 13), (true, 14), (true, 15), (true, 17)] (by kernel_rfl) (by kernel_rfl) (by intro i hi; simp only [List.mem_cons, List.not_mem_nil, or_false] at hi; rcases hi with rfl <;> exact ⟨_, rfl, rfl, rfl, by simp, fun ρ w => by kernel_rfl⟩) (fun i hi => by cases hi) (fun _ _ _ _ _ h => h) (fun T hT => ?_)
  iterate 8 refine tk ?_
  refine wpPlan_callE rfl (by rfl) Tryz.call19 (by rfl) (fun w' hw => (rpref (n0x) (d0x) (n0y) (d0y) (a1) (a2) _ (Lib.hid HZ9.out) (Lib.hid HZ10.out) om om om om om om om om).mono ?_)
  rintro e vv3 ⟨⟨rv1, rv2, rv3, rv4, rfl, bx3, bx4, bx5, bx6⟩, hg0⟩
  obtain ⟨ao1, nn1, cc1, rfl⟩ := Rn.sl bx3
  obtain ⟨ao2, nn2, cc2, rfl⟩ := Rn.sl bx4
  obtain ⟨ao3, nn3, cc3, rfl⟩ := Rn.sl bx5
  obtain ⟨ao4, nn4, cc4, rfl⟩ := Rn.sl bx6
  refine ⟨_, rfl, hg0, ?_⟩
  replace hg0 := Gr.trans hw hg0; clear hw
  replace HG0 := Lib.hid (HG0.out.trans hg0)
  have HGS := Lib.hid hg0; clear hg0
  clear HGS
  have RN3 := Lib.hid bx3; clear bx3
  have RN4 := Lib.hid bx4; clear bx4
  have RN5 := Lib.hid bx5; clear bx5
  have RN6 := Lib.hid bx6; clear bx6
  clear lx0; have lx0 := fun w' (h : Gr _ w') => HF.out.c 0 rfl w' (HG0.out.trans h)
  simp only [Act.put, lA, lB, lC]
  refine wpPlan_callE rfl (by rfl) Tryz.call19 (by rfl) (fun w' hw => (rpref (n1x) (d1x) (n1y) (d1y) (b1) (b2) _ (Lib.hid HZ11.out) (Lib.hid HZ12.out) om om om om om om om om).mono ?_)
  rintro e vv7 ⟨⟨rv5, rv6, rv7, rv8, rfl, bx7, bx8, bx9, bx10⟩, hg0⟩
  obtain ⟨ao5, nn5, cc5, rfl⟩ := Rn.sl bx7
  obtain ⟨ao6, nn6, cc6, rfl⟩ := Rn.sl bx8
  obtain ⟨ao7, nn7, cc7, rfl⟩ := Rn.sl bx9
  obtain ⟨ao8, nn8, cc8, rfl⟩ := Rn.sl bx10
  refine ⟨_, rfl, hg0, ?_⟩
  replace hg0 := Gr.trans hw hg0; clear hw
  replace HG0 := Lib.hid (HG0.out.trans hg0)
  have HGS := Lib.hid hg0; clear hg0
  replace RN3 := Lib.hid (RN3.out.gr HGS.out)
  replace RN4 := Lib.hid (RN4.out.gr HGS.out)
  replace RN5 := Lib.hid (RN5.out.gr HGS.out)
  replace RN6 := Lib.hid (RN6.out.gr HGS.out)
  clear HGS
  have RN7 := Lib.hid bx7; clear bx7
  have RN8 := Lib.hid bx8; clear bx8
  have RN9 := Lib.hid bx9; clear bx9
  have RN10 := Lib.hid bx10; clear bx10
  clear lx0; have lx0 := fun w' (h : Gr _ w') => HF.out.c 0 rfl w' (HG0.out.trans h)
  simp only [Act.put, lA, lB, lC]
  refine wpPlan_callE rfl (by rfl) Tryz.call19 (by rfl) (fun w' hw => (rpref (n2x) (d2x) (n2y) (d2y) (c1) (c2) _ (Lib.hid HZ13.out) (Lib.hid HZ14.out) om om om om om om om om).mono ?_)
  rintro e vv11 ⟨⟨rv9, rv10, rv11, rv12, rfl, bx11, bx12, bx13, bx14⟩, hg0⟩
  obtain ⟨ao9, nn9, cc9, rfl⟩ := Rn.sl bx11
  obtain ⟨ao10, nn10, cc10, rfl⟩ := Rn.sl bx12
  obtain ⟨ao11, nn11, cc11, rfl⟩ := Rn.sl bx13
  obtain ⟨ao12, nn12, cc12, rfl⟩ := Rn.sl bx14
  refine ⟨_, rfl, hg0, ?_⟩
  replace hg0 := Gr.trans hw hg0; clear hw
  replace HG0 := Lib.hid (HG0.out.trans hg0)
  have HGS := Lib.hid hg0; clear hg0
  replace RN3 := Lib.hid (RN3.out.gr HGS.out)
  replace RN4 := Lib.hid (RN4.out.gr HGS.out)
  replace RN5 := Lib.hid (RN5.out.gr HGS.out)
  replace RN6 := Lib.hid (RN6.out.gr HGS.out)
  replace RN7 := Lib.hid (RN7.out.gr HGS.out)
  replace RN8 := Lib.hid (RN8.out.gr HGS.out)
  replace RN9 := Lib.hid (RN9.out.gr HGS.out)
  replace RN10 := Lib.hid (RN10.out.gr HGS.out)
  clear HGS
  have RN11 := Lib.hid bx11; clear bx11
  have RN12 := Lib.hid bx12; clear bx12
  have RN13 := Lib.hid bx13; clear bx13
  have RN14 := Lib.hid bx14; clear bx14
  clear lx0; have lx0 := fun w' (h : Gr _ w') => HF.out.c 0 rfl w' (HG0.out.trans h)
  simp only [Act.put, lA, lB, lC]
  refine wpPlan_callE rfl (by rfl) Tryz.call19 (by rfl) (fun w' hw => (rpref (n3x) (d3x) (n3y) (d3y) (d1) (d2) _ (Lib.hid HZ15.out) (Lib.hid HZ16.out) om om om om om om om om).mono ?_)
  rintro e vv15 ⟨⟨rv13, rv14, rv15, rv16, rfl, bx15, bx16, bx17, bx18⟩, hg0⟩
  obtain ⟨ao13, nn13, cc13, rfl⟩ := Rn.sl bx15
  obtain ⟨ao14, nn14, cc14, rfl⟩ := Rn.sl bx16
  obtain ⟨ao15, nn15, cc15, rfl⟩ := Rn.sl bx17
  obtain ⟨ao16, nn16, cc16, rfl⟩ := Rn.sl bx18
  refine ⟨_, rfl, hg0, ?_⟩
  replace hg0 := Gr.trans hw hg0; clear hw
  replace HG0 := Lib.hid (HG0.out.trans hg0)
  have HGS := Lib.hid hg0; clear hg0
  replace RN3 := Lib.hid (RN3.out.gr HGS.out)
  replace RN4 := Lib.hid (RN4.out.gr HGS.out)
  replace RN5 := Lib.hid (RN5.out.gr HGS.out)
  replace RN6 := Lib.hid (RN6.out.gr HGS.out)
  replace RN7 := Lib.hid (RN7.out.gr HGS.out)
  replace RN8 := Lib.hid (RN8.out.gr HGS.out)
  replace RN9 := Lib.hid (RN9.out.gr HGS.out)
  replace RN10 := Lib.hid (RN10.out.gr HGS.out)
  replace RN11 := Lib.hid (RN11.out.gr HGS.out)
  replace RN12 := Lib.hid (RN12.out.gr HGS.out)
  replace RN13 := Lib.hid (RN13.out.gr HGS.out)
  replace RN14 := Lib.hid (RN14.out.gr HGS.out)
  clear HGS
  have RN15 := Lib.hid bx15; clear bx15
  have RN16 := Lib.hid bx16; clear bx16
  have RN17 := Lib.hid bx17; clear bx17
  have RN18 := Lib.hid bx18; clear bx18
  clear lx0; have lx0 := fun w' (h : Gr _ w') => HF.out.c 0 rfl w' (HG0.out.trans h)
  simp only [Act.put, lA, lB, lC]
  refine wpPlan_callE rfl (by rfl) Tryz.call18 (by rfl) (fun w' hw => (rpcut23 (a1) (a2) (b1) (b2) (c1) (c2) (d1) (d2) (q1) (q2) (0) _ _ _ _ _ _ _ _ _ _ _ _ _ _ _ _ _ (HCR.out) (by omega) (by omega) (by omega) (by omega) (by omega) (by omega) (by omega) (by omega) (RN3.out.gr hw) (RN4.out.gr hw) (RN5.out.gr hw) (RN6.out.gr hw) (RN7.out.gr hw) (RN8.out.gr hw) (RN9.out.gr hw) (RN10.out.gr hw) (RN11.out.gr hw) (RN12.out.gr hw) (RN13.out.gr hw) (RN14.out.gr hw) (RN15.out.gr hw) (RN16.out.gr hw) (RN17.out.gr hw) (RN18.out.gr hw)).mono ?_)
  rintro e vv19 ⟨⟨rv17, rv18, rv19, rv20, rfl, bx19, bx20, bx21, bx22⟩, hg0⟩
  obtain ⟨ao17, nn17, cc17, rfl⟩ := Rn.sl bx19
  obtain ⟨ao18, nn18, cc18, rfl⟩ := Rn.sl bx20
  obtain ⟨ao19, nn19, cc19, rfl⟩ := Rn.sl bx21
  obtain ⟨ao20, nn20, cc20, rfl⟩ := Rn.sl bx22
  refine ⟨_, rfl, hg0, ?_⟩
  replace hg0 := Gr.trans hw hg0; clear hw
  replace HG0 := Lib.hid (HG0.out.trans hg0)
  have HGS := Lib.hid hg0; clear hg0
  replace RN3 := Lib.hid (RN3.out.gr HGS.out)
  replace RN4 := Lib.hid (RN4.out.gr HGS.out)
  replace RN5 := Lib.hid (RN5.out.gr HGS.out)
  replace RN6 := Lib.hid (RN6.out.gr HGS.out)
  replace RN7 := Lib.hid (RN7.out.gr HGS.out)
  replace RN8 := Lib.hid (RN8.out.gr HGS.out)
  replace RN9 := Lib.hid (RN9.out.gr HGS.out)
  replace RN10 := Lib.hid (RN10.out.gr HGS.out)
  replace RN11 := Lib.hid (RN11.out.gr HGS.out)
  replace RN12 := Lib.hid (RN12.out.gr HGS.out)
  replace RN13 := Lib.hid (RN13.out.gr HGS.out)
  replace RN14 := Lib.hid (RN14.out.gr HGS.out)
  replace RN15 := Lib.hid (RN15.out.gr HGS.out)
  replace RN16 := Lib.hid (RN16.out.gr HGS.out)
  replace RN17 := Lib.hid (RN17.out.gr HGS.out)
  replace RN18 := Lib.hid (RN18.out.gr HGS.out)
  clear HGS
  have RN19 := Lib.hid bx19; clear bx19
  have RN20 := Lib.hid bx20; clear bx20
  have RN21 := Lib.hid bx21; clear bx21
  have RN22 := Lib.hid bx22; clear bx22
  clear lx0; have lx0 := fun w' (h : Gr _ w') => HF.out.c 0 rfl w' (HG0.out.trans h)
  simp only [Act.put, lA, lB, lC]
  iterate 4 refine tk ?_
  refine wpPlan_nil (hT.out _ _ ?_)
  intro G vw2 hg hf
  simp only [puts, Act.put, lA, lB, lC, lD, lE, ↓reduceIte, Nat.reduceEqDiff]
  have HG := Lib.hid (((((((((((((((((((((HF.out.fr (HG0.out.trans hg) hf (zs := [(#[.bool false, .slice none 0 0, .slice none 0 0, .bool false, .slice none 0 0, .slice none 0 0], 49)]) rfl (by decide) (by decide)).ar (RN3.out.gr hg)).ar (RN4.out.gr hg)).ar (RN5.out.gr hg)).ar (RN6.out.gr hg)).ar (RN7.out.gr hg)).ar (RN8.out.gr hg)).ar (RN9.out.gr hg)).ar (RN10.out.gr hg)).ar (RN11.out.gr hg)).ar (RN12.out.gr hg)).ar (RN13.out.gr hg)).ar (RN14.out.gr hg)).ar (RN15.out.gr hg)).ar (RN16.out.gr hg)).ar (RN17.out.gr hg)).ar (RN18.out.gr hg)).ar (RN19.out.gr hg)).ar (RN20.out.gr hg)).ar (RN21.out.gr hg)).ar (RN22.out.gr hg))
  simp only [zq1_, zq2_, zq3_, zq4_, lF, lG] at HG
  clear hT T HF hg hf HG0 RN3 RN4 RN5 RN6 RN7 RN8 RN9 RN10 RN11 RN12 RN13 RN14 RN15 RN16 RN17 RN18 RN19 RN20 RN21 RN22 lx0
  generalize G 16 = gx23 at *
  have lx23 := HG.out.c 2 rfl; have fx23 := HG.out.f 2 rfl
  have r0 := Gr.refl vw2
  go_wp2
  refine kO hK ?_; clear hK K
  clear r0 lx23 fx23
  refine fH (((((((((((((((((((((HG.out).put2 2 0 rfl).put2 2 2 rfl).put2 2 4 rfl).er 18).er 17).er 16).er 15).er 14).er 13).er 12).er 11).er 10).er 9).er 8).er 7).er 6).er 5).er 4).er 3).er 0) fun Wx2 HF => ?_
  clear HG
  refine wp_seq ?_
  have hq1 : decide (p1 = 0) = true := decide_eq_true HP1.out
  have hq2 : decide (p2 = 0) = true := decide_eq_true HP2.out
  have lx2 := HF.out.c 0 rfl
  refine kS fun K hK => ?_
  refine sq 12 [(true, 0), (true, 1), (true, 2), (true, 3), (true, 4), (true, 5), (true, 6), (true, 7), (true, 8), (true, 9), (true, 10), (true, 11)] fun T hT => ?_
  iterate 12 refine tk ?_
  refine nlS hT HF fun vw3 HG => ?_
  clear hT T HF lx2
  go_wp2
  refine kO hK ?_; clear hK K
  have HF := HG; clear HG
  clear hq1 hq2
  refine wp_cond_false (by rfl) ?_
  refine wp_skip ?_
  show Code.wp _ _ _ _ _
  have lx2 := HF.out.c 0 rfl
  have lx23 := HF.out.c 1 rfl
  refine kS fun K hK => ?_
  refine sq 11 [(true, 0), (true, 1), (true, 2), (true, 3), (true, 4), (true, 5), (true, 6), (true, 7), (true, 8), (true, 9), (true, 10)] fun T hT => ?_
  iterate 3 refine tk ?_
  iterate 3 refine sk ?_
  iterate 2 refine tk ?_
  refine ck Tryz.call21 (fun w' hw => lives_any _) ?_
  iterate 2 refine tk ?_
  refine nlS hT HF fun vw4 HG => ?_
  clear hT T HF lx2 lx23
  go_wp2
  refine kO hK ?_; clear hK K
  refine fH (((((((HG.out).er 5).er 4).er 3).er 2).er 1).er 0) fun Wx5 HF => ?_
  clear HG
  refine wp_ret ?_
  try simp only [Exit.then, Exit.inBlock]
  exact bodyPost_ret (v := .bool true) (by simp [results, Tryz.results3, go_sem]) rfl ⟨rfl, HF.out.1⟩
set_option maxRecDepth 100000 in
set_option maxHeartbeats 16000000 in
theorem pcut_n (n0x d0x n0y d0y n1x d1x n1y d1y n2x d2x n2y d2y n3x d3x n3y d3y : Int) (a1 a2 b1 b2 c1 c2 d1 d2 p1 p2 : Rat) (m : Int) (w : World) (HA0 : Hid (qv n0x d0x = a1)) (HA1 : Hid (qv n0y d0y = a2)) (HA2 : Hid (qv n1x d1x = b1)) (HA3 : Hid (qv n1y d1y = b2)) (HA4 : Hid (qv n2x d2x = c1)) (HA5 : Hid (qv n2y d2y = c2)) (HA6 : Hid (qv n3x d3x = d1)) (HA7 : Hid (qv n3y d3y = d2)) (HCV : Hid (cutV (a1, a2) (b1, b2) (c1, c2) (d1, d2) = (m, (p1, p2)))) (HCR : Hid (cutR (a1, a2) (b1, b2) (c1, c2) (d1, d2) = (m, (p1, p2)))) (HM0 : Hid (¬ m = 0)) (hsp1 : sz p1 ≤ 1000) (hsp2 : sz p2 ≤ 1000) (hrp1 : rz p1 ≤ 3000) (hrp2 : rz p2 ≤ 3000) (h1_0x : -9223372036854775808 ≤ n0x) (h2_0x : n0x ≤ 9223372036854775807) (h3_0x : 0 ≤ d0x) (h4_0x : d0x ≤ 4294967295) (h1_0y : -9223372036854775808 ≤ n0y) (h2_0y : n0y ≤ 9223372036854775807) (h3_0y : 0 ≤ d0y) (h4_0y : d0y ≤ 4294967295) (h1_1x : -9223372036854775808 ≤ n1x) (h2_1x : n1x ≤ 9223372036854775807) (h3_1x : 0 ≤ d1x) (h4_1x : d1x ≤ 4294967295) (h1_1y : -9223372036854775808 ≤ n1y) (h2_1y : n1y ≤ 9223372036854775807) (h3_1y : 0 ≤ d1y) (h4_1y : d1y ≤ 4294967295) (h1_2x : -9223372036854775808 ≤ n2x) (h2_2x : n2x ≤ 9223372036854775807) (h3_2x : 0 ≤ d2x) (h4_2x : d2x ≤ 4294967295) (h1_2y : -9223372036854775808 ≤ n2y) (h2_2y : n2y ≤ 9223372036854775807) (h3_2y : 0 ≤ d2y) (h4_2y : d2y ≤ 4294967295) (h1_3x : -9223372036854775808 ≤ n3x) (h2_3x : n3x ≤ 9223372036854775807) (h3_3x : 0 ≤ d3x) (h4_3x : d3x ≤ 4294967295) (h1_3y : -9223372036854775808 ≤ n3y) (h2_3y : n3y ≤ 9223372036854775807) (h3_3y : 0 ≤ d3y) (h4_3y : d3y ≤ 4294967295) (HT : Hid (Tab w)) :
    Calls Tryz.prog 3 #[(Value.agg #[.int .i64 (n0x), .int .u32 (d0x), .int .i64 (n0y), .int .u32 (d0y), .int .i64 (n1x), .int .u32 (d1x), .int .i64 (n1y), .int .u32 (d1y), .int .i64 (n2x), .int .u32 (d2x), .int .i64 (n2y), .int .u32 (d2y), .int .i64 (n3x), .int .u32 (d3x), .int .i64 (n3y), .int .u32 (d3y)])] w fun e w' => e = .returned (.bool true) ∧ Below w.heap.size w w' := by
  go_enter Tryz.func3, Tryz.ntmps3
  have HF := Lib.hid (hp0 w)
  refine kS fun K hK => ?_
  refine wp_region_lit ?_
  go_wp2
  refine kO hK ?_; clear hK K
  refine fH ((HF.out).aL (w.heap.size)) fun Wx0 HG => ?_
  clear HF; have HF := HG; clear HG
  have HZ1 : Hid (qv (n0x) (d0x) = a1) := Lib.hid (by first | exact ok | exact HA0.out | exact HA1.out | exact HA2.out | exact HA3.out | exact HA4.out | exact HA5.out | exact HA6.out | exact HA7.out)
  have su1 : sz (a1) ≤ 4 := by have e := HZ1.out; first | omega | (rw [← e]; exact sz_qv (n0x) (d0x) om om om om)
  have HZ2 : Hid (qv (n0y) (d0y) = a2) := Lib.hid (by first | exact ok | exact HA0.out | exact HA1.out | exact HA2.out | exact HA3.out | exact HA4.out | exact HA5.out | exact HA6.out | exact HA7.out)
  have su2 : sz (a2) ≤ 4 := by have e := HZ2.out; first | omega | (rw [← e]; exact sz_qv (n0y) (d0y) om om om om)
  have HZ3 : Hid (qv (n1x) (d1x) = b1) := Lib.hid (by first | exact ok | exact HA0.out | exact HA1.out | exact HA2.out | exact HA3.out | exact HA4.out | exact HA5.out | exact HA6.out | exact HA7.out)
  have su3 : sz (b1) ≤ 4 := by have e := HZ3.out; first | omega | (rw [← e]; exact sz_qv (n1x) (d1x) om om om om)
  have HZ4 : Hid (qv (n1y) (d1y) = b2) := Lib.hid (by first | exact ok | exact HA0.out | exact HA1.out | exact HA2.out | exact HA3.out | exact HA4.out | exact HA5.out | exact HA6.out | exact HA7.out)
  have su4 : sz (b2) ≤ 4 := by have e := HZ4.out; first | omega | (rw [← e]; exact sz_qv (n1y) (d1y) om om om om)
  have HZ5 : Hid (qv (n2x) (d2x) = c1) := Lib.hid (by first | exact ok | exact HA0.out | exact HA1.out | exact HA2.out | exact HA3.out | exact HA4.out | exact HA5.out | exact HA6.out | exact HA7.out)
  have su5 : sz (c1) ≤ 4 := by have e := HZ5.out; first | omega | (rw [← e]; exact sz_qv (n2x) (d2x) om om om om)
  have HZ6 : Hid (qv (n2y) (d2y) = c2) := Lib.hid (by first | exact ok | exact HA0.out | exact HA1.out | exact HA2.out | exact HA3.out | exact HA4.out | exact HA5.out | exact HA6.out | exact HA7.out)
  have su6 : sz (c2) ≤ 4 := by have e := HZ6.out; first | omega | (rw [← e]; exact sz_qv (n2y) (d2y) om om om om)
  have HZ7 : Hid (qv (n3x) (d3x) = d1) := Lib.hid (by first | exact ok | exact HA0.out | exact HA1.out | exact HA2.out | exact HA3.out | exact HA4.out | exact HA5.out | exact HA6.out | exact HA7.out)
  have su7 : sz (d1) ≤ 4 := by have e := HZ7.out; first | omega | (rw [← e]; exact sz_qv (n3x) (d3x) om om om om)
  have HZ8 : Hid (qv (n3y) (d3y) = d2) := Lib.hid (by first | exact ok | exact HA0.out | exact HA1.out | exact HA2.out | exact HA3.out | exact HA4.out | exact HA5.out | exact HA6.out | exact HA7.out)
  have su8 : sz (d2) ≤ 4 := by have e := HZ8.out; first | omega | (rw [← e]; exact sz_qv (n3y) (d3y) om om om om)
  have lx0 := HF.out.c 0 rfl
  refine kS fun K hK => ?_
  refine wp_region_plan 18 [16] [] (fun _ => 4) (fun _ => .cells #[.int .u64 0, .string ⟨#[]⟩, .bool false, .int .u64 0, .string ⟨#[]⟩, .int .u64 0, .string ⟨#[]⟩, .bool false, .int .u64 0, .string ⟨#[]⟩] 38) [(true, 0), (true, 1), (true, 3), (true, 4), (true, 6), (true, 7), (true, 9), (true, 10), (true, 2), (true, 5), (true, 8), (true, 11), (true, 12), (true, 13), (true, 14), (true, 15), (true, 17)] (by kernel_rfl) (by kernel_rfl) (by intro i hi; simp only [List.mem_cons, List.not_mem_nil, or_false] at hi; rcases hi with rfl <;> exact ⟨_, rfl, rfl, rfl, by simp, fun ρ w => by kernel_rfl⟩) (fun i hi => by cases hi) (fun _ _ _ _ _ h => h) (fun T hT => ?_)
  iterate 8 refine tk ?_
  refine ck Tryz.call17 (fun w' hw => pof_any (n0x) (d0x) (n0y) (d0y) (a1) (a2) _ (Lib.hid HZ1.out) (Lib.hid HZ2.out) om om om om om om om om) ?_
  refine ck Tryz.call17 (fun w' hw => pof_any (n1x) (d1x) (n1y) (d1y) (b1) (b2) _ (Lib.hid HZ3.out) (Lib.hid HZ4.out) om om om om om om om om) ?_
  refine ck Tryz.call17 (fun w' hw => pof_any (n2x) (d2x) (n2y) (d2y) (c1) (c2) _ (Lib.hid HZ5.out) (Lib.hid HZ6.out) om om om om om om om om) ?_
  refine ck Tryz.call17 (fun w' hw => pof_any (n3x) (d3x) (n3y) (d3y) (d1) (d2) _ (Lib.hid HZ7.out) (Lib.hid HZ8.out) om om om om om om om om) ?_
  refine ck Tryz.call16 (fun w' hw => pcutz (a1) (a2) (b1) (b2) (c1) (c2) (d1) (d2) (p1) (p2) (m) _ (HCV.out) om om om om om om om om) ?_
  iterate 4 refine tk ?_
  refine wpPlan_nil (hT.out _ _ ?_)
  intro G vw1 hg hf
  simp only [puts, Act.put, lA, lB, lC, lD, lE, ↓reduceIte, Nat.reduceEqDiff]
  have HG := Lib.hid (HF.out.fr hg hf (zs := [(#[.int .u64 0, .string ⟨#[]⟩, .bool false, .int .u64 0, .string ⟨#[]⟩, .int .u64 0, .string ⟨#[]⟩, .bool false, .int .u64 0, .string ⟨#[]⟩], 38)]) rfl (by decide) (by decide))
  simp only [zq1_, zq2_, zq3_, zq4_, lF, lG] at HG
  clear hT T HF hg hf lx0
  generalize G 16 = gx2 at *
  have lx2 := HG.out.c 1 rfl; have fx2 := HG.out.f 1 rfl
  have r0 := Gr.refl vw1
  go_wp2
  refine kO hK ?_; clear hK K
  clear r0 lx2 fx2
  refine fH ((((((HG.out).put2 1 0 rfl).put2 1 2 rfl).put2 1 4 rfl).put2 1 6 rfl).put2 1 8 rfl) fun Wx1 HF => ?_
  clear HG
  have HZ9 : Hid (qv (n0x) (d0x) = a1) := Lib.hid (by first | exact ok | exact HA0.out | exact HA1.out | exact HA2.out | exact HA3.out | exact HA4.out | exact HA5.out | exact HA6.out | exact HA7.out)
  have su9 : rz (a1) ≤ 10 := by have e := HZ9.out; first | omega | (rw [← e]; exact rz_qv (n0x) (d0x) om om om om)
  have HZ10 : Hid (qv (n0y) (d0y) = a2) := Lib.hid (by first | exact ok | exact HA0.out | exact HA1.out | exact HA2.out | exact HA3.out | exact HA4.out | exact HA5.out | exact HA6.out | exact HA7.out)
  have su10 : rz (a2) ≤ 10 := by have e := HZ10.out; first | omega | (rw [← e]; exact rz_qv (n0y) (d0y) om om om om)
  have HZ11 : Hid (qv (n1x) (d1x) = b1) := Lib.hid (by first | exact ok | exact HA0.out | exact HA1.out | exact HA2.out | exact HA3.out | exact HA4.out | exact HA5.out | exact HA6.out | exact HA7.out)
  have su11 : rz (b1) ≤ 10 := by have e := HZ11.out; first | omega | (rw [← e]; exact rz_qv (n1x) (d1x) om om om om)
  have HZ12 : Hid (qv (n1y) (d1y) = b2) := Lib.hid (by first | exact ok | exact HA0.out | exact HA1.out | exact HA2.out | exact HA3.out | exact HA4.out | exact HA5.out | exact HA6.out | exact HA7.out)
  have su12 : rz (b2) ≤ 10 := by have e := HZ12.out; first | omega | (rw [← e]; exact rz_qv (n1y) (d1y) om om om om)
  have HZ13 : Hid (qv (n2x) (d2x) = c1) := Lib.hid (by first | exact ok | exact HA0.out | exact HA1.out | exact HA2.out | exact HA3.out | exact HA4.out | exact HA5.out | exact HA6.out | exact HA7.out)
  have su13 : rz (c1) ≤ 10 := by have e := HZ13.out; first | omega | (rw [← e]; exact rz_qv (n2x) (d2x) om om om om)
  have HZ14 : Hid (qv (n2y) (d2y) = c2) := Lib.hid (by first | exact ok | exact HA0.out | exact HA1.out | exact HA2.out | exact HA3.out | exact HA4.out | exact HA5.out | exact HA6.out | exact HA7.out)
  have su14 : rz (c2) ≤ 10 := by have e := HZ14.out; first | omega | (rw [← e]; exact rz_qv (n2y) (d2y) om om om om)
  have HZ15 : Hid (qv (n3x) (d3x) = d1) := Lib.hid (by first | exact ok | exact HA0.out | exact HA1.out | exact HA2.out | exact HA3.out | exact HA4.out | exact HA5.out | exact HA6.out | exact HA7.out)
  have su15 : rz (d1) ≤ 10 := by have e := HZ15.out; first | omega | (rw [← e]; exact rz_qv (n3x) (d3x) om om om om)
  have HZ16 : Hid (qv (n3y) (d3y) = d2) := Lib.hid (by first | exact ok | exact HA0.out | exact HA1.out | exact HA2.out | exact HA3.out | exact HA4.out | exact HA5.out | exact HA6.out | exact HA7.out)
  have su16 : rz (d2) ≤ 10 := by have e := HZ16.out; first | omega | (rw [← e]; exact rz_qv (n3y) (d3y) om om om om)
  have lx0 := HF.out.c 0 rfl
  refine kS fun K hK => ?_
  have HG0 : Hid (Gr Wx1 Wx1) := Lib.hid (Gr.refl _)
  refine wp_region_plan 18 [16] [] (fun _ => 6) (fun _ => .cells #[.bool false, .slice none 0 0, .slice none 0 0, .bool false, .slice none 0 0, .slice none 0 0] 49) [(true, 0), (true, 1), (true, 3), (true, 4), (true, 6), (true, 7), (true, 9), (true, 10), (false, 2), (false, 5), (false, 8), (false, 11), (false, 12), (true, 13), (true, 14), (true, 15), (true, 17)] (by kernel_rfl) (by kernel_rfl) (by intro i hi; simp only [List.mem_cons, List.not_mem_nil, or_false] at hi; rcases hi with rfl <;> exact ⟨_, rfl, rfl, rfl, by simp, fun ρ w => by kernel_rfl⟩) (fun i hi => by cases hi) (fun _ _ _ _ _ h => h) (fun T hT => ?_)
  iterate 8 refine tk ?_
  refine wpPlan_callE rfl (by rfl) Tryz.call19 (by rfl) (fun w' hw => (rpref (n0x) (d0x) (n0y) (d0y) (a1) (a2) _ (Lib.hid HZ9.out) (Lib.hid HZ10.out) om om om om om om om om).mono ?_)
  rintro e vv3 ⟨⟨rv1, rv2, rv3, rv4, rfl, bx3, bx4, bx5, bx6⟩, hg0⟩
  obtain ⟨ao1, nn1, cc1, rfl⟩ := Rn.sl bx3
  obtain ⟨ao2, nn2, cc2, rfl⟩ := Rn.sl bx4
  obtain ⟨ao3, nn3, cc3, rfl⟩ := Rn.sl bx5
  obtain ⟨ao4, nn4, cc4, rfl⟩ := Rn.sl bx6
  refine ⟨_, rfl, hg0, ?_⟩
  replace hg0 := Gr.trans hw hg0; clear hw
  replace HG0 := Lib.hid (HG0.out.trans hg0)
  have HGS := Lib.hid hg0; clear hg0
  clear HGS
  have RN3 := Lib.hid bx3; clear bx3
  have RN4 := Lib.hid bx4; clear bx4
  have RN5 := Lib.hid bx5; clear bx5
  have RN6 := Lib.hid bx6; clear bx6
  clear lx0; have lx0 := fun w' (h : Gr _ w') => HF.out.c 0 rfl w' (HG0.out.trans h)
  simp only [Act.put, lA, lB, lC]
  refine wpPlan_callE rfl (by rfl) Tryz.call19 (by rfl) (fun w' hw => (rpref (n1x) (d1x) (n1y) (d1y) (b1) (b2) _ (Lib.hid HZ11.out) (Lib.hid HZ12.out) om om om om om om om om).mono ?_)
  rintro e vv7 ⟨⟨rv5, rv6, rv7, rv8, rfl, bx7, bx8, bx9, bx10⟩, hg0⟩
  obtain ⟨ao5, nn5, cc5, rfl⟩ := Rn.sl bx7
  obtain ⟨ao6, nn6, cc6, rfl⟩ := Rn.sl bx8
  obtain ⟨ao7, nn7, cc7, rfl⟩ := Rn.sl bx9
  obtain ⟨ao8, nn8, cc8, rfl⟩ := Rn.sl bx10
  refine ⟨_, rfl, hg0, ?_⟩
  replace hg0 := Gr.trans hw hg0; clear hw
  replace HG0 := Lib.hid (HG0.out.trans hg0)
  have HGS := Lib.hid hg0; clear hg0
  replace RN3 := Lib.hid (RN3.out.gr HGS.out)
  replace RN4 := Lib.hid (RN4.out.gr HGS.out)
  replace RN5 := Lib.hid (RN5.out.gr HGS.out)
  replace RN6 := Lib.hid (RN6.out.gr HGS.out)
  clear HGS
  have RN7 := Lib.hid bx7; clear bx7
  have RN8 := Lib.hid bx8; clear bx8
  have RN9 := Lib.hid bx9; clear bx9
  have RN10 := Lib.hid bx10; clear bx10
  clear lx0; have lx0 := fun w' (h : Gr _ w') => HF.out.c 0 rfl w' (HG0.out.trans h)
  simp only [Act.put, lA, lB, lC]
  refine wpPlan_callE rfl (by rfl) Tryz.call19 (by rfl) (fun w' hw => (rpref (n2x) (d2x) (n2y) (d2y) (c1) (c2) _ (Lib.hid HZ13.out) (Lib.hid HZ14.out) om om om om om om om om).mono ?_)
  rintro e vv11 ⟨⟨rv9, rv10, rv11, rv12, rfl, bx11, bx12, bx13, bx14⟩, hg0⟩
  obtain ⟨ao9, nn9, cc9, rfl⟩ := Rn.sl bx11
  obtain ⟨ao10, nn10, cc10, rfl⟩ := Rn.sl bx12
  obtain ⟨ao11, nn11, cc11, rfl⟩ := Rn.sl bx13
  obtain ⟨ao12, nn12, cc12, rfl⟩ := Rn.sl bx14
  refine ⟨_, rfl, hg0, ?_⟩
  replace hg0 := Gr.trans hw hg0; clear hw
  replace HG0 := Lib.hid (HG0.out.trans hg0)
  have HGS := Lib.hid hg0; clear hg0
  replace RN3 := Lib.hid (RN3.out.gr HGS.out)
  replace RN4 := Lib.hid (RN4.out.gr HGS.out)
  replace RN5 := Lib.hid (RN5.out.gr HGS.out)
  replace RN6 := Lib.hid (RN6.out.gr HGS.out)
  replace RN7 := Lib.hid (RN7.out.gr HGS.out)
  replace RN8 := Lib.hid (RN8.out.gr HGS.out)
  replace RN9 := Lib.hid (RN9.out.gr HGS.out)
  replace RN10 := Lib.hid (RN10.out.gr HGS.out)
  clear HGS
  have RN11 := Lib.hid bx11; clear bx11
  have RN12 := Lib.hid bx12; clear bx12
  have RN13 := Lib.hid bx13; clear bx13
  have RN14 := Lib.hid bx14; clear bx14
  clear lx0; have lx0 := fun w' (h : Gr _ w') => HF.out.c 0 rfl w' (HG0.out.trans h)
  simp only [Act.put, lA, lB, lC]
  refine wpPlan_callE rfl (by rfl) Tryz.call19 (by rfl) (fun w' hw => (rpref (n3x) (d3x) (n3y) (d3y) (d1) (d2) _ (Lib.hid HZ15.out) (Lib.hid HZ16.out) om om om om om om om om).mono ?_)
  rintro e vv15 ⟨⟨rv13, rv14, rv15, rv16, rfl, bx15, bx16, bx17, bx18⟩, hg0⟩
  obtain ⟨ao13, nn13, cc13, rfl⟩ := Rn.sl bx15
  obtain ⟨ao14, nn14, cc14, rfl⟩ := Rn.sl bx16
  obtain ⟨ao15, nn15, cc15, rfl⟩ := Rn.sl bx17
  obtain ⟨ao16, nn16, cc16, rfl⟩ := Rn.sl bx18
  refine ⟨_, rfl, hg0, ?_⟩
  replace hg0 := Gr.trans hw hg0; clear hw
  replace HG0 := Lib.hid (HG0.out.trans hg0)
  have HGS := Lib.hid hg0; clear hg0
  replace RN3 := Lib.hid (RN3.out.gr HGS.out)
  replace RN4 := Lib.hid (RN4.out.gr HGS.out)
  replace RN5 := Lib.hid (RN5.out.gr HGS.out)
  replace RN6 := Lib.hid (RN6.out.gr HGS.out)
  replace RN7 := Lib.hid (RN7.out.gr HGS.out)
  replace RN8 := Lib.hid (RN8.out.gr HGS.out)
  replace RN9 := Lib.hid (RN9.out.gr HGS.out)
  replace RN10 := Lib.hid (RN10.out.gr HGS.out)
  replace RN11 := Lib.hid (RN11.out.gr HGS.out)
  replace RN12 := Lib.hid (RN12.out.gr HGS.out)
  replace RN13 := Lib.hid (RN13.out.gr HGS.out)
  replace RN14 := Lib.hid (RN14.out.gr HGS.out)
  clear HGS
  have RN15 := Lib.hid bx15; clear bx15
  have RN16 := Lib.hid bx16; clear bx16
  have RN17 := Lib.hid bx17; clear bx17
  have RN18 := Lib.hid bx18; clear bx18
  clear lx0; have lx0 := fun w' (h : Gr _ w') => HF.out.c 0 rfl w' (HG0.out.trans h)
  simp only [Act.put, lA, lB, lC]
  refine wpPlan_callE rfl (by rfl) Tryz.call18 (by rfl) (fun w' hw => (rpcut23 (a1) (a2) (b1) (b2) (c1) (c2) (d1) (d2) (p1) (p2) (m) _ _ _ _ _ _ _ _ _ _ _ _ _ _ _ _ _ (HCR.out) (by omega) (by omega) (by omega) (by omega) (by omega) (by omega) (by omega) (by omega) (RN3.out.gr hw) (RN4.out.gr hw) (RN5.out.gr hw) (RN6.out.gr hw) (RN7.out.gr hw) (RN8.out.gr hw) (RN9.out.gr hw) (RN10.out.gr hw) (RN11.out.gr hw) (RN12.out.gr hw) (RN13.out.gr hw) (RN14.out.gr hw) (RN15.out.gr hw) (RN16.out.gr hw) (RN17.out.gr hw) (RN18.out.gr hw)).mono ?_)
  rintro e vv19 ⟨⟨rv17, rv18, rv19, rv20, rfl, bx19, bx20, bx21, bx22⟩, hg0⟩
  obtain ⟨ao17, nn17, cc17, rfl⟩ := Rn.sl bx19
  obtain ⟨ao18, nn18, cc18, rfl⟩ := Rn.sl bx20
  obtain ⟨ao19, nn19, cc19, rfl⟩ := Rn.sl bx21
  obtain ⟨ao20, nn20, cc20, rfl⟩ := Rn.sl bx22
  refine ⟨_, rfl, hg0, ?_⟩
  replace hg0 := Gr.trans hw hg0; clear hw
  replace HG0 := Lib.hid (HG0.out.trans hg0)
  have HGS := Lib.hid hg0; clear hg0
  replace RN3 := Lib.hid (RN3.out.gr HGS.out)
  replace RN4 := Lib.hid (RN4.out.gr HGS.out)
  replace RN5 := Lib.hid (RN5.out.gr HGS.out)
  replace RN6 := Lib.hid (RN6.out.gr HGS.out)
  replace RN7 := Lib.hid (RN7.out.gr HGS.out)
  replace RN8 := Lib.hid (RN8.out.gr HGS.out)
  replace RN9 := Lib.hid (RN9.out.gr HGS.out)
  replace RN10 := Lib.hid (RN10.out.gr HGS.out)
  replace RN11 := Lib.hid (RN11.out.gr HGS.out)
  replace RN12 := Lib.hid (RN12.out.gr HGS.out)
  replace RN13 := Lib.hid (RN13.out.gr HGS.out)
  replace RN14 := Lib.hid (RN14.out.gr HGS.out)
  replace RN15 := Lib.hid (RN15.out.gr HGS.out)
  replace RN16 := Lib.hid (RN16.out.gr HGS.out)
  replace RN17 := Lib.hid (RN17.out.gr HGS.out)
  replace RN18 := Lib.hid (RN18.out.gr HGS.out)
  clear HGS
  have RN19 := Lib.hid bx19; clear bx19
  have RN20 := Lib.hid bx20; clear bx20
  have RN21 := Lib.hid bx21; clear bx21
  have RN22 := Lib.hid bx22; clear bx22
  clear lx0; have lx0 := fun w' (h : Gr _ w') => HF.out.c 0 rfl w' (HG0.out.trans h)
  simp only [Act.put, lA, lB, lC]
  iterate 4 refine tk ?_
  refine wpPlan_nil (hT.out _ _ ?_)
  intro G vw2 hg hf
  simp only [puts, Act.put, lA, lB, lC, lD, lE, ↓reduceIte, Nat.reduceEqDiff]
  have HG := Lib.hid (((((((((((((((((((((HF.out.fr (HG0.out.trans hg) hf (zs := [(#[.bool false, .slice none 0 0, .slice none 0 0, .bool false, .slice none 0 0, .slice none 0 0], 49)]) rfl (by decide) (by decide)).ar (RN3.out.gr hg)).ar (RN4.out.gr hg)).ar (RN5.out.gr hg)).ar (RN6.out.gr hg)).ar (RN7.out.gr hg)).ar (RN8.out.gr hg)).ar (RN9.out.gr hg)).ar (RN10.out.gr hg)).ar (RN11.out.gr hg)).ar (RN12.out.gr hg)).ar (RN13.out.gr hg)).ar (RN14.out.gr hg)).ar (RN15.out.gr hg)).ar (RN16.out.gr hg)).ar (RN17.out.gr hg)).ar (RN18.out.gr hg)).ar (RN19.out.gr hg)).ar (RN20.out.gr hg)).ar (RN21.out.gr hg)).ar (RN22.out.gr hg))
  simp only [zq1_, zq2_, zq3_, zq4_, lF, lG] at HG
  clear hT T HF hg hf HG0 RN3 RN4 RN5 RN6 RN7 RN8 RN9 RN10 RN11 RN12 RN13 RN14 RN15 RN16 RN17 RN18 RN19 RN20 RN21 RN22 lx0
  generalize G 16 = gx23 at *
  have lx23 := HG.out.c 2 rfl; have fx23 := HG.out.f 2 rfl
  have r0 := Gr.refl vw2
  go_wp2
  refine kO hK ?_; clear hK K
  clear r0 lx23 fx23
  refine fH (((((((((((((((((((((HG.out).put2 2 0 rfl).put2 2 2 rfl).put2 2 4 rfl).er 18).er 17).er 16).er 15).er 14).er 13).er 12).er 11).er 10).er 9).er 8).er 7).er 6).er 5).er 4).er 3).er 0) fun Wx2 HF => ?_
  clear HG
  refine wp_seq ?_
  have hm3 : (m == 0) = false := by simpa using HM0.out
  have lx2 := HF.out.c 0 rfl
  refine kS fun K hK => ?_
  refine sq 12 [(true, 0), (true, 1), (true, 2), (true, 3), (true, 4), (true, 5), (true, 6), (true, 7), (true, 8), (true, 9), (true, 10), (true, 11)] fun T hT => ?_
  iterate 7 refine tk ?_
  iterate 3 refine sk ?_
  iterate 2 refine tk ?_
  refine nlS hT HF fun vw3 HG => ?_
  clear hT T HF lx2
  go_wp2
  refine kO hK ?_; clear hK K
  have HF := HG; clear HG
  clear hm3
  refine wp_cond_false (by rfl) ?_
  refine wp_skip ?_
  show Code.wp _ _ _ _ _
  have HB := HPb HF
  have hm5 : (m == 0) = false := by simpa using HM0.out
  have lx2 := HF.out.c 0 rfl
  have lx23 := HF.out.c 1 rfl
  refine kS fun K hK => ?_
  refine sq 11 [(true, 0), (true, 1), (true, 2), (true, 3), (true, 4), (true, 5), (true, 6), (true, 7), (true, 8), (true, 9), (true, 10)] fun T hT => ?_
  iterate 5 refine tk ?_
  refine ck Tryz.call20 (fun w' hw => psame_any (p1) (p2) _ _ _ _ _ om om (by omega) (by omega) (HF.out.r 2 rfl hw) (HF.out.r 3 rfl hw) (HF.out.r 4 rfl hw) (HF.out.r 5 rfl hw) (Lib.hid (HT.out.gr (Gr.trans HB.out hw)))) ?_
  iterate 2 refine tk ?_
  refine ck Tryz.call21 (fun w' hw => lives_any _) ?_
  iterate 2 refine tk ?_
  refine nlS hT HF fun vw4 HG => ?_
  clear hT T HF lx2 lx23 HB
  go_wp2
  refine kO hK ?_; clear hK K
  refine fH (((((((HG.out).er 5).er 4).er 3).er 2).er 1).er 0) fun Wx5 HF => ?_
  clear HG
  clear hm5
  refine wp_ret ?_
  try simp only [Exit.then, Exit.inBlock]
  exact bodyPost_ret (v := .bool true) (by simp [results, Tryz.results3, go_sem]) rfl ⟨rfl, HF.out.1⟩
theorem pcut_all (n0x d0x n0y d0y n1x d1x n1y d1y n2x d2x n2y d2y n3x d3x n3y d3y : Int) (w : World) (h1_0x : -9223372036854775808 ≤ n0x) (h2_0x : n0x ≤ 9223372036854775807) (h3_0x : 0 ≤ d0x) (h4_0x : d0x ≤ 4294967295) (h1_0y : -9223372036854775808 ≤ n0y) (h2_0y : n0y ≤ 9223372036854775807) (h3_0y : 0 ≤ d0y) (h4_0y : d0y ≤ 4294967295) (h1_1x : -9223372036854775808 ≤ n1x) (h2_1x : n1x ≤ 9223372036854775807) (h3_1x : 0 ≤ d1x) (h4_1x : d1x ≤ 4294967295) (h1_1y : -9223372036854775808 ≤ n1y) (h2_1y : n1y ≤ 9223372036854775807) (h3_1y : 0 ≤ d1y) (h4_1y : d1y ≤ 4294967295) (h1_2x : -9223372036854775808 ≤ n2x) (h2_2x : n2x ≤ 9223372036854775807) (h3_2x : 0 ≤ d2x) (h4_2x : d2x ≤ 4294967295) (h1_2y : -9223372036854775808 ≤ n2y) (h2_2y : n2y ≤ 9223372036854775807) (h3_2y : 0 ≤ d2y) (h4_2y : d2y ≤ 4294967295) (h1_3x : -9223372036854775808 ≤ n3x) (h2_3x : n3x ≤ 9223372036854775807) (h3_3x : 0 ≤ d3x) (h4_3x : d3x ≤ 4294967295) (h1_3y : -9223372036854775808 ≤ n3y) (h2_3y : n3y ≤ 9223372036854775807) (h3_3y : 0 ≤ d3y) (h4_3y : d3y ≤ 4294967295) (HT : Hid (Tab w)) :
    Calls Tryz.prog 3 #[.agg #[.int .i64 n0x, .int .u32 d0x, .int .i64 n0y, .int .u32 d0y, .int .i64 n1x, .int .u32 d1x, .int .i64 n1y, .int .u32 d1y, .int .i64 n2x, .int .u32 d2x, .int .i64 n2y, .int .u32 d2y, .int .i64 n3x, .int .u32 d3x, .int .i64 n3y, .int .u32 d3y]] w fun e w' => e = .returned (.bool true) ∧ Below w.heap.size w w' := by
  have s0 : sz (qv n0x d0x) ≤ 40 := Nat.le_trans (sz_qv _ _ h1_0x h2_0x h3_0x h4_0x) (by decide)
  have s1 : sz (qv n0y d0y) ≤ 40 := Nat.le_trans (sz_qv _ _ h1_0y h2_0y h3_0y h4_0y) (by decide)
  have s2 : sz (qv n1x d1x) ≤ 40 := Nat.le_trans (sz_qv _ _ h1_1x h2_1x h3_1x h4_1x) (by decide)
  have s3 : sz (qv n1y d1y) ≤ 40 := Nat.le_trans (sz_qv _ _ h1_1y h2_1y h3_1y h4_1y) (by decide)
  have s4 : sz (qv n2x d2x) ≤ 40 := Nat.le_trans (sz_qv _ _ h1_2x h2_2x h3_2x h4_2x) (by decide)
  have s5 : sz (qv n2y d2y) ≤ 40 := Nat.le_trans (sz_qv _ _ h1_2y h2_2y h3_2y h4_2y) (by decide)
  have s6 : sz (qv n3x d3x) ≤ 40 := Nat.le_trans (sz_qv _ _ h1_3x h2_3x h3_3x h4_3x) (by decide)
  have s7 : sz (qv n3y d3y) ≤ 40 := Nat.le_trans (sz_qv _ _ h1_3y h2_3y h3_3y h4_3y) (by decide)
  obtain ⟨k1, k2, k3⟩ := cut_eq (qv n0x d0x, qv n0y d0y) (qv n1x d1x, qv n1y d1y) (qv n2x d2x, qv n2y d2y) (qv n3x d3x, qv n3y d3y)
  have k4 := szp_cut (a := (qv n0x d0x, qv n0y d0y)) (b := (qv n1x d1x, qv n1y d1y)) (c := (qv n2x d2x, qv n2y d2y)) (d := (qv n3x d3x, qv n3y d3y)) ⟨s0, s1⟩ ⟨s2, s3⟩ ⟨s4, s5⟩ ⟨s6, s7⟩
  obtain ⟨⟨m, p1, p2⟩, hV⟩ : ∃ x, cutV (qv n0x d0x, qv n0y d0y) (qv n1x d1x, qv n1y d1y) (qv n2x d2x, qv n2y d2y) (qv n3x d3x, qv n3y d3y) = x := ⟨_, rfl⟩
  obtain ⟨⟨m2, q1, q2⟩, hR⟩ : ∃ x, cutR (qv n0x d0x, qv n0y d0y) (qv n1x d1x, qv n1y d1y) (qv n2x d2x, qv n2y d2y) (qv n3x d3x, qv n3y d3y) = x := ⟨_, rfl⟩
  rw [hV, hR] at k1 k2
  rw [hV] at k3 k4
  obtain rfl : m2 = m := k1
  by_cases h0 : m2 = 0
  · subst h0
    have k5 := k3 rfl
    injection k5 with e1 e2
    exact pcut_z n0x d0x n0y d0y n1x d1x n1y d1y n2x d2x n2y d2y n3x d3x n3y d3y _ _ _ _ _ _ _ _ p1 p2 q1 q2 w (Lib.hid rfl) (Lib.hid rfl) (Lib.hid rfl) (Lib.hid rfl) (Lib.hid rfl) (Lib.hid rfl) (Lib.hid rfl) (Lib.hid rfl) (Lib.hid hV) (Lib.hid hR) (Lib.hid e1) (Lib.hid e2) h1_0x h2_0x h3_0x h4_0x h1_0y h2_0y h3_0y h4_0y h1_1x h2_1x h3_1x h4_1x h1_1y h2_1y h3_1y h4_1y h1_2x h2_2x h3_2x h4_2x h1_2y h2_2y h3_2y h4_2y h1_3x h2_3x h3_3x h4_3x h1_3y h2_3y h3_3y h4_3y HT
  · have k5 := k2 h0
    injection k5 with e1 e2
    subst e1 e2
    have r1 := rz_sz q1
    have r2 := rz_sz q2
    have r3 : sz q1 ≤ 1000 := k4.1
    have r4 : sz q2 ≤ 1000 := k4.2
    exact pcut_n n0x d0x n0y d0y n1x d1x n1y d1y n2x d2x n2y d2y n3x d3x n3y d3y _ _ _ _ _ _ _ _ q1 q2 m2 w (Lib.hid rfl) (Lib.hid rfl) (Lib.hid rfl) (Lib.hid rfl) (Lib.hid rfl) (Lib.hid rfl) (Lib.hid rfl) (Lib.hid rfl) (Lib.hid hV) (Lib.hid hR) (Lib.hid h0) r3 r4 (by omega) (by omega) h1_0x h2_0x h3_0x h4_0x h1_0y h2_0y h3_0y h4_0y h1_1x h2_1x h3_1x h4_1x h1_1y h2_1y h3_1y h4_1y h1_2x h2_2x h3_2x h4_2x h1_2y h2_2y h3_2y h4_2y h1_3x h2_3x h3_3x h4_3x h1_3y h2_3y h3_3y h4_3y HT
end Go.Proofs.YtobojnodohjiaaaGreatDoor
