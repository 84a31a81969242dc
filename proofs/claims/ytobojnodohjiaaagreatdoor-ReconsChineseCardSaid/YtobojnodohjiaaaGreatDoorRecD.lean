
/- recons.join. -/
import Derived.Test.YtobojnodohjiaaaGreatDoorRecA
import Derived.Test.YtobojnodohjiaaaGreatDoorCrtP
import Derived.Test.YtobojnodohjiaaaGreatDoorPY
import Derived.Test.YtobojnodohjiaaaGreatDoorLawZ2
namespace Go.Proofs.YtobojnodohjiaaaGreatDoor
open Go.RowKit
set_option linter.unusedSimpArgs false
set_option linter.unusedVariables false
attribute [local go_sem ↓] Go.wp_at_zero Go.wp_at_succ
attribute [local go_sem ↓] eq_nat eq_nat_zero eq_int
attribute [local go_sem ↓] eq_nat eq_nat_zero eq_frac eq_frac_zero
set_option maxRecDepth 20000 in
set_option maxHeartbeats 4000000 in
theorem rjoin_ok (R1 R2 gg x y d q : Int) (M1 M2 : Nat) (pt m : Nat) (xq mx su z : Int) (w : World) (HG0 : Hid ((egcd ((M1 : Nat) : Int) ((M2 : Nat) : Int)).1 = gg)) (HGX : Hid ((egcd ((M1 : Nat) : Int) ((M2 : Nat) : Int)).2.1 = x)) (HGY : Hid ((egcd ((M1 : Nat) : Int) ((M2 : Nat) : Int)).2.2 = y)) (HGN : Hid (gg ≠ 0)) (HGP : Hid (0 < Int.natAbs gg)) (HD : Hid (R2 - R1 = d)) (HQ : Hid (d / gg = q)) (HR : Hid (d % gg = 0)) (HM2 : Hid (¬ M2 = 0)) (HPT : Hid (M2 / Int.natAbs gg = pt)) (HM : Hid (M1 * pt = m)) (HM0 : Hid (0 < m)) (HXQ : Hid (x * q = xq)) (HMX : Hid (((M1 : Nat) : Int) * xq = mx)) (HSU : Hid (R1 + mx = su)) (HZ : Hid (su % ((m : Nat) : Int) = z)) (hw1 : wl R1.natAbs ≤ 100) (hw2 : wl R2.natAbs ≤ 100) (hw3 : wl M1 ≤ 100) (hw4 : wl M2 ≤ 100) :
    Calls Tryz.prog 107 #[(Value.agg #[.int .u64 ((lo (Int.natAbs (R1)) : Nat) : Int), .string (bg (Int.natAbs (R1))), .bool (decide ((R1) < 0)), .int .u64 ((lo (M1) : Nat) : Int), .string (bg (M1))]), (Value.agg #[.int .u64 ((lo (Int.natAbs (R2)) : Nat) : Int), .string (bg (Int.natAbs (R2))), .bool (decide ((R2) < 0)), .int .u64 ((lo (M2) : Nat) : Int), .string (bg (M2))])] w fun e w' => e = .returned ((.tuple #[.agg #[.int .u64 ((lo (Int.natAbs (z)) : Nat) : Int), .string (bg (Int.natAbs (z))), .bool (decide ((z) < 0)), .int .u64 ((lo (m) : Nat) : Int), .string (bg (m))], .int .i64 0])) ∧ Below w.heap.size w w' := by
  go_enter Tryz.func107, Tryz.ntmps107
  have HF := Lib.hid (hp0 w)
  refine kS fun K hK => ?_
  refine wp_region_lit ?_
  go_wp2
  refine hK.out _ _ ?_; clear hK K
  show Code.wp _ _ _ _ _
  refine fH ((((HF.out).al (b := w.heap.size) (by first | rfl | simp) (by decide)).al (b := w.heap.size + 1) (by first | rfl | simp) (by decide)).al (b := w.heap.size + 1 + 1) (by first | rfl | simp) (by decide)) fun Wx0 HG => ?_
  clear HF; have HF := HG; clear HG
  generalize w.heap.size + 1 + 1 = gx2 at *
  generalize w.heap.size + 1 = gx1 at *
  refine wp_seq ?_
  have hd1 : decide (M2 = 0) = false := decide_eq_false (by first | exact ok | exact HM2.out | exact HRN.out)
  have lx1 := HF.out.c 1 rfl
  refine kS fun K hK => ?_
  refine sq 4 [(true, 0), (true, 1), (true, 2), (true, 3)] fun T hT => ?_
  iterate 4 refine tk ?_
  refine nlS hT HF fun vw1 HG => ?_
  clear hT T HF lx1
  go_wp2
  refine hK.out _ _ ?_; clear hK K
  show Code.wp _ _ _ _ _
  have HF := HG; clear HG
  clear hd1
  refine wp_cond_false (by rfl) ?_
  refine wp_skip ?_
  show Code.wp _ _ _ _ _
  have su1 : wl (Int.natAbs ((M1 : Nat) : Int)) ≤ 100 := by rw [Int.natAbs_natCast]; omega
  have su2 : wl (Int.natAbs ((M2 : Nat) : Int)) ≤ 100 := by rw [Int.natAbs_natCast]; omega
  have HZ3 : Hid ((egcd (((M1 : Nat) : Int)) (((M2 : Nat) : Int))).1 = gg) := Lib.hid (HG0.out)
  have su3 : wl (Int.natAbs (gg)) ≤ 104 := by have e := HZ3.out; first | omega | (rw [← e]; have := wl_egcd (a := ((M1 : Nat) : Int)) (b := ((M2 : Nat) : Int)) (M := 100) om om (by decide); omega)
  have HZ4 : Hid ((egcd (((M1 : Nat) : Int)) (((M2 : Nat) : Int))).2.1 = x) := Lib.hid (HGX.out)
  have su4 : wl (Int.natAbs (x)) ≤ 104 := by have e := HZ4.out; first | omega | (rw [← e]; have := wl_egcd (a := ((M1 : Nat) : Int)) (b := ((M2 : Nat) : Int)) (M := 100) om om (by decide); omega)
  have HZ5 : Hid ((egcd (((M1 : Nat) : Int)) (((M2 : Nat) : Int))).2.2 = y) := Lib.hid (HGY.out)
  have su5 : wl (Int.natAbs (y)) ≤ 104 := by have e := HZ5.out; first | omega | (rw [← e]; have := wl_egcd (a := ((M1 : Nat) : Int)) (b := ((M2 : Nat) : Int)) (M := 100) om om (by decide); omega)
  have lx0 := HF.out.c 0 rfl
  have lx1 := HF.out.c 1 rfl
  refine kS fun K hK => ?_
  refine wp_region_plan 14 [11, 12, 13] [9, 10] (fun i => if i = 11 then 6 else if i = 12 then 7 else 8) (fun i => if i = 11 then .cells #[.int .u64 0, .string ⟨#[]⟩, .bool false] 34 else if i = 12 then .cells #[.int .u64 0, .string ⟨#[]⟩, .bool false] 34 else .cells #[.int .u64 0, .string ⟨#[]⟩, .bool false] 34) [(true, 0), (true, 1), (true, 3), (true, 4), (true, 2), (true, 5), (true, 6), (true, 7), (true, 8), (true, 9), (true, 10)] (by kernel_rfl) (by kernel_rfl) (by intro i hi; simp only [List.mem_cons, List.not_mem_nil, or_false] at hi; rcases hi with rfl | rfl | rfl <;> exact ⟨_, rfl, rfl, rfl, by simp, fun ρ w => by kernel_rfl⟩) (by intro i hi; simp only [List.mem_cons, List.not_mem_nil, or_false] at hi; rcases hi with rfl | rfl <;> exact ⟨_, rfl, pure_extract⟩) (fun _ _ _ _ _ h => h) (fun T hT => ?_)
  iterate 4 refine tk ?_
  refine ck Tryz.call95 (fun w' hw => rwhole_any (M1) _) ?_
  refine ck Tryz.call95 (fun w' hw => rwhole_any (M2) _) ?_
  refine ck Tryz.call36 (fun w' hw => zigcd (((M1 : Nat) : Int)) (((M2 : Nat) : Int)) (gg) (x) (y) _ HZ3.out HZ4.out HZ5.out om om) ?_
  iterate 4 refine tk ?_
  refine wpPlan_nil (hT.out _ _ ?_)
  intro G vw2 hg hf
  simp only [puts, Act.put, lA, lB, lC, lD, lE, ↓reduceIte, Nat.reduceEqDiff]
  have HG := Lib.hid (HF.out.fr hg hf (zs := [(#[.int .u64 0, .string ⟨#[]⟩, .bool false], 34), (#[.int .u64 0, .string ⟨#[]⟩, .bool false], 34), (#[.int .u64 0, .string ⟨#[]⟩, .bool false], 34)]) rfl (by decide) (by decide))
  simp only [List.zip_cons_cons, List.zip_nil_right, List.map_cons, List.map_nil, lF, lG] at HG
  clear hT T HF hg hf lx0 lx1
  generalize G 11 = gx4 at *
  generalize G 12 = gx5 at *
  generalize G 13 = gx6 at *
  have lx4 := HG.out.c 3 rfl; have fx4 := HG.out.f 3 rfl
  have lx5 := HG.out.c 4 rfl; have fx5 := HG.out.f 4 rfl
  have lx6 := HG.out.c 5 rfl; have fx6 := HG.out.f 5 rfl
  have r0 := Gr.refl vw2
  obtain ⟨d4_5, d5_4⟩ := HG.out.ne 3 4 rfl rfl (by decide)
  obtain ⟨d4_6, d6_4⟩ := HG.out.ne 3 5 rfl rfl (by decide)
  obtain ⟨d5_6, d6_5⟩ := HG.out.ne 4 5 rfl rfl (by decide)
  go_wp2
  refine hK.out _ _ ?_; clear hK K
  show Code.wp _ _ _ _ _
  clear r0 lx4 fx4 lx5 fx5 lx6 fx6 d4_5 d5_4 d4_6 d6_4 d5_6 d6_5
  refine fH ((((((((HG.out).put2 3 0 rfl).put 3 2 _ rfl).put2 4 0 rfl).put 4 2 _ rfl).put2 5 0 rfl).put 5 2 _ rfl).er 5) fun Wx3 HF => ?_
  clear HG
  have HZ6 : Hid ((R2) - (R1) = d) := Lib.hid (HD.out)
  have su6 : wl (Int.natAbs (d)) ≤ 101 := by have e := HZ6.out; first | omega | (rw [← e]; have := wl_isub (R2) (R1); omega)
  have HZ7 : Hid ((d) / (gg) = q) := Lib.hid (HQ.out)
  have su7 : wl (Int.natAbs (q)) ≤ 102 := by have e := HZ7.out; first | omega | (rw [← e]; have := wl_idiv (d) (gg); omega)
  have HZ8 : Hid ((d) % (gg) = 0) := Lib.hid (HR.out)
  have su8 : wl (Int.natAbs (0)) ≤ 104 := by have e := HZ8.out; first | omega | (rw [← e]; have := wl_imod (d) (gg) (by exact HGN.out); omega) | exact wl_le.2 (by decide +kernel)
  have lx0 := HF.out.c 0 rfl
  have lx1 := HF.out.c 1 rfl
  have lx4 := HF.out.c 3 rfl
  refine kS fun K hK => ?_
  refine wp_region_plan 13 [11, 12] [9, 10] (fun i => if i = 11 then 9 else 10) (fun i => if i = 11 then .cells #[.int .u64 0, .string ⟨#[]⟩, .bool false] 34 else .cells #[.int .u64 0, .string ⟨#[]⟩, .bool false] 34) [(true, 0), (true, 1), (true, 2), (true, 3), (true, 5), (true, 4), (true, 6), (true, 7), (true, 8), (true, 9), (true, 10)] (by kernel_rfl) (by kernel_rfl) (by intro i hi; simp only [List.mem_cons, List.not_mem_nil, or_false] at hi; rcases hi with rfl | rfl <;> exact ⟨_, rfl, rfl, rfl, by simp, fun ρ w => by kernel_rfl⟩) (by intro i hi; simp only [List.mem_cons, List.not_mem_nil, or_false] at hi; rcases hi with rfl | rfl <;> exact ⟨_, rfl, pure_extract⟩) (fun _ _ _ _ _ h => h) (fun T hT => ?_)
  iterate 5 refine tk ?_
  refine ck Tryz.call98 (fun w' hw => zisub (R2) (R1) (d) _ HZ6.out om om) ?_
  refine ck Tryz.call42 (fun w' hw => zidiv (d) (gg) (q) (0) _ HZ7.out HZ8.out (by exact HGN.out) om om) ?_
  iterate 4 refine tk ?_
  refine wpPlan_nil (hT.out _ _ ?_)
  intro G vw3 hg hf
  simp only [puts, Act.put, lA, lB, lC, lD, lE, ↓reduceIte, Nat.reduceEqDiff]
  have HG := Lib.hid (HF.out.fr hg hf (zs := [(#[.int .u64 0, .string ⟨#[]⟩, .bool false], 34), (#[.int .u64 0, .string ⟨#[]⟩, .bool false], 34)]) rfl (by decide) (by decide))
  simp only [List.zip_cons_cons, List.zip_nil_right, List.map_cons, List.map_nil, lF, lG] at HG
  clear hT T HF hg hf lx0 lx1 lx4
  generalize G 11 = gx7 at *
  generalize G 12 = gx8 at *
  have lx7 := HG.out.c 5 rfl; have fx7 := HG.out.f 5 rfl
  have lx8 := HG.out.c 6 rfl; have fx8 := HG.out.f 6 rfl
  have r0 := Gr.refl vw3
  obtain ⟨d7_8, d8_7⟩ := HG.out.ne 5 6 rfl rfl (by decide)
  go_wp2
  refine hK.out _ _ ?_; clear hK K
  show Code.wp _ _ _ _ _
  clear r0 lx7 fx7 lx8 fx8 d7_8 d8_7
  refine fH (((((HG.out).put2 5 0 rfl).put 5 2 _ rfl).put2 6 0 rfl).put 6 2 _ rfl) fun Wx4 HF => ?_
  clear HG
  refine wp_seq ?_
  have lx8 := HF.out.c 6 rfl
  refine kS fun K hK => ?_
  refine sq 3 [(true, 0), (true, 1), (true, 2)] fun T hT => ?_
  iterate 3 refine tk ?_
  refine nlS hT HF fun vw4 HG => ?_
  clear hT T HF lx8
  go_wp2
  refine hK.out _ _ ?_; clear hK K
  show Code.wp _ _ _ _ _
  refine fH ((HG.out).er 6) fun Wx5 HF => ?_
  clear HG
  refine wp_cond_false (by rfl) ?_
  refine wp_skip ?_
  show Code.wp _ _ _ _ _
  have HZ9 : Hid ((M2) / (Int.natAbs (gg)) = pt) := Lib.hid (HPT.out)
  have su9 : wl (pt) ≤ 100 := by have e := HZ9.out; first | omega | (rw [← e]; have := wl_div (M2) (Int.natAbs (gg)); omega)
  have HZ10 : Hid ((M2) % (Int.natAbs (gg)) = (M2 % Int.natAbs gg)) := Lib.hid (rfl)
  have su10 : wl ((M2 % Int.natAbs gg)) ≤ 100 := by have := wl_mod (M2) (Int.natAbs (gg)); omega
  have lx1 := HF.out.c 1 rfl
  have lx4 := HF.out.c 3 rfl
  refine kS fun K hK => ?_
  refine wp_region_plan 11 [9, 10] [7, 8] (fun i => if i = 9 then 12 else 13) (fun i => if i = 9 then .cells #[.int .u64 0, .string ⟨#[]⟩] 30 else .cells #[.int .u64 0, .string ⟨#[]⟩] 30) [(true, 0), (true, 1), (true, 2), (true, 3), (true, 4), (true, 5), (true, 6), (true, 7), (true, 8)] (by kernel_rfl) (by kernel_rfl) (by intro i hi; simp only [List.mem_cons, List.not_mem_nil, or_false] at hi; rcases hi with rfl | rfl <;> exact ⟨_, rfl, rfl, rfl, by simp, fun ρ w => by kernel_rfl⟩) (by intro i hi; simp only [List.mem_cons, List.not_mem_nil, or_false] at hi; rcases hi with rfl | rfl <;> exact ⟨_, rfl, pure_extract⟩) (fun _ _ _ _ _ h => h) (fun T hT => ?_)
  iterate 3 refine tk ?_
  refine ck Tryz.call100 (fun w' hw => abs_any (gg) _) ?_
  refine ck Tryz.call43 (fun w' hw => nzdiv (M2) (Int.natAbs (gg)) (pt) ((M2 % Int.natAbs gg)) _ HZ9.out HZ10.out (by exact HGP.out) om om) ?_
  iterate 4 refine tk ?_
  refine wpPlan_nil (hT.out _ _ ?_)
  intro G vw5 hg hf
  simp only [puts, Act.put, lA, lB, lC, lD, lE, ↓reduceIte, Nat.reduceEqDiff]
  have HG := Lib.hid (HF.out.fr hg hf (zs := [(#[.int .u64 0, .string ⟨#[]⟩], 30), (#[.int .u64 0, .string ⟨#[]⟩], 30)]) rfl (by decide) (by decide))
  simp only [List.zip_cons_cons, List.zip_nil_right, List.map_cons, List.map_nil, lF, lG] at HG
  clear hT T HF hg hf lx1 lx4
  generalize G 9 = gx9 at *
  generalize G 10 = gx10 at *
  have lx9 := HG.out.c 6 rfl; have fx9 := HG.out.f 6 rfl
  have lx10 := HG.out.c 7 rfl; have fx10 := HG.out.f 7 rfl
  have r0 := Gr.refl vw5
  obtain ⟨d9_10, d10_9⟩ := HG.out.ne 6 7 rfl rfl (by decide)
  go_wp2
  refine hK.out _ _ ?_; clear hK K
  show Code.wp _ _ _ _ _
  clear r0 lx9 fx9 lx10 fx10 d9_10 d10_9
  refine fH ((((((HG.out).put2 6 0 rfl).put2 7 0 rfl).er 7).er 3).er 1) fun Wx7 HF => ?_
  clear HG
  have HZ11 : Hid ((M1) * (pt) = m) := Lib.hid (HM.out)
  have su11 : wl (m) ≤ 200 := by have e := HZ11.out; first | omega | (rw [← e]; have := wl_mul (M1) (pt); omega)
  have lx0 := HF.out.c 0 rfl
  have lx9 := HF.out.c 4 rfl
  refine kS fun K hK => ?_
  refine sq 4 [(true, 0), (true, 1), (true, 2), (true, 3)] fun T hT => ?_
  iterate 3 refine tk ?_
  refine ck Tryz.call110 (fun w' hw => nzmul (M1) (pt) (m) _ HZ11.out om om) ?_
  refine nlS hT HF fun vw6 HG => ?_
  clear hT T HF lx0 lx9
  go_wp2
  refine hK.out _ _ ?_; clear hK K
  show Code.wp _ _ _ _ _
  refine fH (((HG.out).al (b := vw6.heap.size) (by first | rfl | simp) (by decide)).er 4) fun Wx8 HF => ?_
  clear HG
  generalize vw6.heap.size = gx11 at *
  have su12 : wl (Int.natAbs ((M1 : Nat) : Int)) ≤ 100 := by rw [Int.natAbs_natCast]; omega
  have HZ13 : Hid ((x) * (q) = xq) := Lib.hid (HXQ.out)
  have su13 : wl (Int.natAbs (xq)) ≤ 206 := by have e := HZ13.out; first | omega | (rw [← e]; have := wl_imul (x) (q); omega)
  have HZ14 : Hid ((((M1 : Nat) : Int)) * (xq) = mx) := Lib.hid (HMX.out)
  have su14 : wl (Int.natAbs (mx)) ≤ 306 := by have e := HZ14.out; first | omega | (rw [← e]; have := wl_imul (((M1 : Nat) : Int)) (xq); omega)
  have HZ15 : Hid ((R1) + (mx) = su) := Lib.hid (HSU.out)
  have su15 : wl (Int.natAbs (su)) ≤ 307 := by have e := HZ15.out; first | omega | (rw [← e]; have := wl_iadd (R1) (mx); omega)
  have HZ16 : Hid ((su) % ((m : Nat) : Int) = z) := Lib.hid (HZ.out)
  have su16 : wl (Int.natAbs (z)) ≤ 200 := by have e := HZ16.out; first | omega | (rw [← e]; exact wl_rmod (by exact HM0.out) om)
  have lx0 := HF.out.c 0 rfl
  have lx5 := HF.out.c 2 rfl
  have lx7 := HF.out.c 3 rfl
  have lx11 := HF.out.c 4 rfl
  refine kS fun K hK => ?_
  refine pd 14 [(true, 0), (true, 1), (true, 2), (true, 3), (true, 5), (true, 6), (true, 10), (true, 12), (true, 4), (true, 7), (true, 8), (true, 9), (true, 11), (true, 13)] fun T hT => ?_
  iterate 8 refine tk ?_
  refine ck Tryz.call95 (fun w' hw => rwhole_any (M1) _) ?_
  refine ck Tryz.call39 (fun w' hw => zimul (x) (q) (xq) _ HZ13.out om om) ?_
  refine ck Tryz.call39 (fun w' hw => zimul (((M1 : Nat) : Int)) (xq) (mx) _ HZ14.out om om) ?_
  refine ck Tryz.call41 (fun w' hw => ziadd (R1) (mx) (su) _ HZ15.out om om) ?_
  refine ck Tryz.call96 (fun w' hw => rleft_any (su) (z) (m) _ (Lib.hid HZ16.out) (by exact HM0.out) om om) ?_
  refine tk ?_
  refine nlD hT HF fun vw7 HG => ?_
  clear hT T HF lx0 lx5 lx7 lx11
  have lx2 := HG.out.c 1 rfl; have fx2 := HG.out.f 1 rfl
  have r0 := Gr.refl vw7
  go_wp2
  refine hK.out _ _ ?_; clear hK K
  show Code.wp _ _ _ _ _
  clear r0 lx2 fx2
  refine fH ((((((((HG.out).put2 1 0 rfl).put2 1 2 rfl).put 1 4 _ rfl).er 4).er 3).er 2).er 0) fun Wx9 HF => ?_
  clear HG
  refine wp_ret ?_
  try simp only [Exit.then, Exit.inBlock]
  have lx2 := HF.out.c 0 rfl
  have r0 := Gr.refl Wx9
  exact bodyPost_ret (v := .tuple #[(.agg #[.int .u64 ((lo (Int.natAbs (z)) : Nat) : Int), .string (bg (Int.natAbs (z))), .bool (decide ((z) < 0)), .int .u64 ((lo (m) : Nat) : Int), .string (bg (m))]), .int .i64 0]) (by simp [results, Tryz.results107, go_sem, lx2 _ r0]) rfl ⟨rfl, HF.out.1⟩

set_option maxRecDepth 20000 in
set_option maxHeartbeats 4000000 in
theorem rjoin_no (R1 R2 gg x y d q r : Int) (M1 M2 : Nat) (w : World) (HG0 : Hid ((egcd ((M1 : Nat) : Int) ((M2 : Nat) : Int)).1 = gg)) (HGX : Hid ((egcd ((M1 : Nat) : Int) ((M2 : Nat) : Int)).2.1 = x)) (HGY : Hid ((egcd ((M1 : Nat) : Int) ((M2 : Nat) : Int)).2.2 = y)) (HGN : Hid (gg ≠ 0)) (HGP : Hid (0 < Int.natAbs gg)) (HD : Hid (R2 - R1 = d)) (HQ : Hid (d / gg = q)) (HR : Hid (d % gg = r)) (HM2 : Hid (¬ M2 = 0)) (HRN : Hid (¬ r = 0)) (hw1 : wl R1.natAbs ≤ 100) (hw2 : wl R2.natAbs ≤ 100) (hw3 : wl M1 ≤ 100) (hw4 : wl M2 ≤ 100) :
    Calls Tryz.prog 107 #[(Value.agg #[.int .u64 ((lo (Int.natAbs (R1)) : Nat) : Int), .string (bg (Int.natAbs (R1))), .bool (decide ((R1) < 0)), .int .u64 ((lo (M1) : Nat) : Int), .string (bg (M1))]), (Value.agg #[.int .u64 ((lo (Int.natAbs (R2)) : Nat) : Int), .string (bg (Int.natAbs (R2))), .bool (decide ((R2) < 0)), .int .u64 ((lo (M2) : Nat) : Int), .string (bg (M2))])] w fun e w' => e = .returned ((.tuple #[(.agg #[.int .u64 0, .string ⟨#[]⟩, .bool false, .int .u64 0, .string ⟨#[]⟩]), .int .i64 6])) ∧ Below w.heap.size w w' := by
  go_enter Tryz.func107, Tryz.ntmps107
  have HF := Lib.hid (hp0 w)
  refine kS fun K hK => ?_
  refine wp_region_lit ?_
  go_wp2
  refine hK.out _ _ ?_; clear hK K
  show Code.wp _ _ _ _ _
  refine fH ((((HF.out).al (b := w.heap.size) (by first | rfl | simp) (by decide)).al (b := w.heap.size + 1) (by first | rfl | simp) (by decide)).al (b := w.heap.size + 1 + 1) (by first | rfl | simp) (by decide)) fun Wx0 HG => ?_
  clear HF; have HF := HG; clear HG
  generalize w.heap.size + 1 + 1 = gx2 at *
  generalize w.heap.size + 1 = gx1 at *
  refine wp_seq ?_
  have hd1 : decide (M2 = 0) = false := decide_eq_false (by first | exact ok | exact HM2.out | exact HRN.out)
  have lx1 := HF.out.c 1 rfl
  refine kS fun K hK => ?_
  refine sq 4 [(true, 0), (true, 1), (true, 2), (true, 3)] fun T hT => ?_
  iterate 4 refine tk ?_
  refine nlS hT HF fun vw1 HG => ?_
  clear hT T HF lx1
  go_wp2
  refine hK.out _ _ ?_; clear hK K
  show Code.wp _ _ _ _ _
  have HF := HG; clear HG
  clear hd1
  refine wp_cond_false (by rfl) ?_
  refine wp_skip ?_
  show Code.wp _ _ _ _ _
  have su1 : wl (Int.natAbs ((M1 : Nat) : Int)) ≤ 100 := by rw [Int.natAbs_natCast]; omega
  have su2 : wl (Int.natAbs ((M2 : Nat) : Int)) ≤ 100 := by rw [Int.natAbs_natCast]; omega
  have HZ3 : Hid ((egcd (((M1 : Nat) : Int)) (((M2 : Nat) : Int))).1 = gg) := Lib.hid (HG0.out)
  have su3 : wl (Int.natAbs (gg)) ≤ 104 := by have e := HZ3.out; first | omega | (rw [← e]; have := wl_egcd (a := ((M1 : Nat) : Int)) (b := ((M2 : Nat) : Int)) (M := 100) om om (by decide); omega)
  have HZ4 : Hid ((egcd (((M1 : Nat) : Int)) (((M2 : Nat) : Int))).2.1 = x) := Lib.hid (HGX.out)
  have su4 : wl (Int.natAbs (x)) ≤ 104 := by have e := HZ4.out; first | omega | (rw [← e]; have := wl_egcd (a := ((M1 : Nat) : Int)) (b := ((M2 : Nat) : Int)) (M := 100) om om (by decide); omega)
  have HZ5 : Hid ((egcd (((M1 : Nat) : Int)) (((M2 : Nat) : Int))).2.2 = y) := Lib.hid (HGY.out)
  have su5 : wl (Int.natAbs (y)) ≤ 104 := by have e := HZ5.out; first | omega | (rw [← e]; have := wl_egcd (a := ((M1 : Nat) : Int)) (b := ((M2 : Nat) : Int)) (M := 100) om om (by decide); omega)
  have lx0 := HF.out.c 0 rfl
  have lx1 := HF.out.c 1 rfl
  refine kS fun K hK => ?_
  refine wp_region_plan 14 [11, 12, 13] [9, 10] (fun i => if i = 11 then 6 else if i = 12 then 7 else 8) (fun i => if i = 11 then .cells #[.int .u64 0, .string ⟨#[]⟩, .bool false] 34 else if i = 12 then .cells #[.int .u64 0, .string ⟨#[]⟩, .bool false] 34 else .cells #[.int .u64 0, .string ⟨#[]⟩, .bool false] 34) [(true, 0), (true, 1), (true, 3), (true, 4), (true, 2), (true, 5), (true, 6), (true, 7), (true, 8), (true, 9), (true, 10)] (by kernel_rfl) (by kernel_rfl) (by intro i hi; simp only [List.mem_cons, List.not_mem_nil, or_false] at hi; rcases hi with rfl | rfl | rfl <;> exact ⟨_, rfl, rfl, rfl, by simp, fun ρ w => by kernel_rfl⟩) (by intro i hi; simp only [List.mem_cons, List.not_mem_nil, or_false] at hi; rcases hi with rfl | rfl <;> exact ⟨_, rfl, pure_extract⟩) (fun _ _ _ _ _ h => h) (fun T hT => ?_)
  iterate 4 refine tk ?_
  refine ck Tryz.call95 (fun w' hw => rwhole_any (M1) _) ?_
  refine ck Tryz.call95 (fun w' hw => rwhole_any (M2) _) ?_
  refine ck Tryz.call36 (fun w' hw => zigcd (((M1 : Nat) : Int)) (((M2 : Nat) : Int)) (gg) (x) (y) _ HZ3.out HZ4.out HZ5.out om om) ?_
  iterate 4 refine tk ?_
  refine wpPlan_nil (hT.out _ _ ?_)
  intro G vw2 hg hf
  simp only [puts, Act.put, lA, lB, lC, lD, lE, ↓reduceIte, Nat.reduceEqDiff]
  have HG := Lib.hid (HF.out.fr hg hf (zs := [(#[.int .u64 0, .string ⟨#[]⟩, .bool false], 34), (#[.int .u64 0, .string ⟨#[]⟩, .bool false], 34), (#[.int .u64 0, .string ⟨#[]⟩, .bool false], 34)]) rfl (by decide) (by decide))
  simp only [List.zip_cons_cons, List.zip_nil_right, List.map_cons, List.map_nil, lF, lG] at HG
  clear hT T HF hg hf lx0 lx1
  generalize G 11 = gx4 at *
  generalize G 12 = gx5 at *
  generalize G 13 = gx6 at *
  have lx4 := HG.out.c 3 rfl; have fx4 := HG.out.f 3 rfl
  have lx5 := HG.out.c 4 rfl; have fx5 := HG.out.f 4 rfl
  have lx6 := HG.out.c 5 rfl; have fx6 := HG.out.f 5 rfl
  have r0 := Gr.refl vw2
  obtain ⟨d4_5, d5_4⟩ := HG.out.ne 3 4 rfl rfl (by decide)
  obtain ⟨d4_6, d6_4⟩ := HG.out.ne 3 5 rfl rfl (by decide)
  obtain ⟨d5_6, d6_5⟩ := HG.out.ne 4 5 rfl rfl (by decide)
  go_wp2
  refine hK.out _ _ ?_; clear hK K
  show Code.wp _ _ _ _ _
  clear r0 lx4 fx4 lx5 fx5 lx6 fx6 d4_5 d5_4 d4_6 d6_4 d5_6 d6_5
  refine fH ((((((((HG.out).put2 3 0 rfl).put 3 2 _ rfl).put2 4 0 rfl).put 4 2 _ rfl).put2 5 0 rfl).put 5 2 _ rfl).er 5) fun Wx3 HF => ?_
  clear HG
  have HZ6 : Hid ((R2) - (R1) = d) := Lib.hid (HD.out)
  have su6 : wl (Int.natAbs (d)) ≤ 101 := by have e := HZ6.out; first | omega | (rw [← e]; have := wl_isub (R2) (R1); omega)
  have HZ7 : Hid ((d) / (gg) = q) := Lib.hid (HQ.out)
  have su7 : wl (Int.natAbs (q)) ≤ 102 := by have e := HZ7.out; first | omega | (rw [← e]; have := wl_idiv (d) (gg); omega)
  have HZ8 : Hid ((d) % (gg) = r) := Lib.hid (HR.out)
  have su8 : wl (Int.natAbs (r)) ≤ 104 := by have e := HZ8.out; first | omega | (rw [← e]; have := wl_imod (d) (gg) (by exact HGN.out); omega)
  have lx0 := HF.out.c 0 rfl
  have lx1 := HF.out.c 1 rfl
  have lx4 := HF.out.c 3 rfl
  refine kS fun K hK => ?_
  refine wp_region_plan 13 [11, 12] [9, 10] (fun i => if i = 11 then 9 else 10) (fun i => if i = 11 then .cells #[.int .u64 0, .string ⟨#[]⟩, .bool false] 34 else .cells #[.int .u64 0, .string ⟨#[]⟩, .bool false] 34) [(true, 0), (true, 1), (true, 2), (true, 3), (true, 5), (true, 4), (true, 6), (true, 7), (true, 8), (true, 9), (true, 10)] (by kernel_rfl) (by kernel_rfl) (by intro i hi; simp only [List.mem_cons, List.not_mem_nil, or_false] at hi; rcases hi with rfl | rfl <;> exact ⟨_, rfl, rfl, rfl, by simp, fun ρ w => by kernel_rfl⟩) (by intro i hi; simp only [List.mem_cons, List.not_mem_nil, or_false] at hi; rcases hi with rfl | rfl <;> exact ⟨_, rfl, pure_extract⟩) (fun _ _ _ _ _ h => h) (fun T hT => ?_)
  iterate 5 refine tk ?_
  refine ck Tryz.call98 (fun w' hw => zisub (R2) (R1) (d) _ HZ6.out om om) ?_
  refine ck Tryz.call42 (fun w' hw => zidiv (d) (gg) (q) (r) _ HZ7.out HZ8.out (by exact HGN.out) om om) ?_
  iterate 4 refine tk ?_
  refine wpPlan_nil (hT.out _ _ ?_)
  intro G vw3 hg hf
  simp only [puts, Act.put, lA, lB, lC, lD, lE, ↓reduceIte, Nat.reduceEqDiff]
  have HG := Lib.hid (HF.out.fr hg hf (zs := [(#[.int .u64 0, .string ⟨#[]⟩, .bool false], 34), (#[.int .u64 0, .string ⟨#[]⟩, .bool false], 34)]) rfl (by decide) (by decide))
  simp only [List.zip_cons_cons, List.zip_nil_right, List.map_cons, List.map_nil, lF, lG] at HG
  clear hT T HF hg hf lx0 lx1 lx4
  generalize G 11 = gx7 at *
  generalize G 12 = gx8 at *
  have lx7 := HG.out.c 5 rfl; have fx7 := HG.out.f 5 rfl
  have lx8 := HG.out.c 6 rfl; have fx8 := HG.out.f 6 rfl
  have r0 := Gr.refl vw3
  obtain ⟨d7_8, d8_7⟩ := HG.out.ne 5 6 rfl rfl (by decide)
  go_wp2
  refine hK.out _ _ ?_; clear hK K
  show Code.wp _ _ _ _ _
  clear r0 lx7 fx7 lx8 fx8 d7_8 d8_7
  refine fH (((((HG.out).put2 5 0 rfl).put 5 2 _ rfl).put2 6 0 rfl).put 6 2 _ rfl) fun Wx4 HF => ?_
  clear HG
  refine wp_seq ?_
  have hd2 : decide (r = 0) = false := decide_eq_false (by first | exact ok | exact HM2.out | exact HRN.out)
  have lx8 := HF.out.c 6 rfl
  refine kS fun K hK => ?_
  refine sq 3 [(true, 0), (true, 1), (true, 2)] fun T hT => ?_
  iterate 3 refine tk ?_
  refine nlS hT HF fun vw4 HG => ?_
  clear hT T HF lx8
  go_wp2
  refine hK.out _ _ ?_; clear hK K
  show Code.wp _ _ _ _ _
  refine fH ((HG.out).er 6) fun Wx5 HF => ?_
  clear HG
  clear hd2
  refine wp_cond_true (by rfl) ?_
  refine kS fun K hK => ?_
  refine sq 1 [(true, 0)] fun T hT => ?_
  refine tk ?_
  refine nlS hT HF fun vw5 HG => ?_
  clear hT T HF
  have lx2 := HG.out.c 2 rfl; have fx2 := HG.out.f 2 rfl
  have r0 := Gr.refl vw5
  go_wp2
  refine hK.out _ _ ?_; clear hK K
  show Code.wp _ _ _ _ _
  clear r0 lx2 fx2
  refine fH ((((HG.out).put2 2 0 rfl).put2 2 2 rfl).put 2 4 _ rfl) fun Wx6 HF => ?_
  clear HG
  refine wp_ret ?_
  try simp only [Exit.then, Exit.inBlock]
  have lx2 := HF.out.c 2 rfl
  have r0 := Gr.refl Wx6
  exact bodyPost_ret (v := .tuple #[(.agg #[.int .u64 0, .string ⟨#[]⟩, .bool false, .int .u64 0, .string ⟨#[]⟩]), .int .i64 6]) (by simp [results, Tryz.results107, go_sem, lx2 _ r0]) rfl ⟨rfl, HF.out.1⟩

theorem rjoin (R1 R2 : Int) (M1 M2 : Nat) (z : Int) (m : Nat) (w : World) (hz : crt R1 M1 R2 M2 = z) (hm : crm M1 M2 = m) (hk : (R2 - R1) % (egcd ((M1 : Nat) : Int) ((M2 : Nat) : Int)).1 = 0) (h1 : 0 < M1) (h2 : 0 < M2) (hw1 : wl R1.natAbs ≤ 100) (hw2 : wl R2.natAbs ≤ 100) (hw3 : wl M1 ≤ 100) (hw4 : wl M2 ≤ 100) :
    Calls Tryz.prog 107 #[.agg #[.int .u64 ((lo (Int.natAbs (R1)) : Nat) : Int), .string (bg (Int.natAbs (R1))), .bool (decide ((R1) < 0)), .int .u64 ((lo (M1) : Nat) : Int), .string (bg (M1))], .agg #[.int .u64 ((lo (Int.natAbs (R2)) : Nat) : Int), .string (bg (Int.natAbs (R2))), .bool (decide ((R2) < 0)), .int .u64 ((lo (M2) : Nat) : Int), .string (bg (M2))]] w fun e w' => e = .returned (.tuple #[.agg #[.int .u64 ((lo (Int.natAbs (z)) : Nat) : Int), .string (bg (Int.natAbs (z))), .bool (decide ((z) < 0)), .int .u64 ((lo (m) : Nat) : Int), .string (bg (m))], .int .i64 0]) ∧ Below w.heap.size w w' := by
  have hg := crg_pos (M2 := M2) h1
  have hp := crm_pos h1 h2
  rw [hm] at hp
  exact rjoin_ok R1 R2 _ _ _ _ _ M1 M2 _ m _ _ _ z w (Lib.hid rfl) (Lib.hid rfl) (Lib.hid rfl) (Lib.hid (by omega)) (Lib.hid (by omega)) (Lib.hid rfl) (Lib.hid rfl) (Lib.hid hk) (Lib.hid (by omega)) (Lib.hid rfl) (Lib.hid hm) (Lib.hid hp) (Lib.hid rfl) (Lib.hid rfl) (Lib.hid rfl) (Lib.hid (by rw [← hm]; exact hz)) hw1 hw2 hw3 hw4
theorem rjoin_bad (R1 R2 : Int) (M1 M2 : Nat) (w : World) (hk : ¬ (R2 - R1) % (egcd ((M1 : Nat) : Int) ((M2 : Nat) : Int)).1 = 0) (h1 : 0 < M1) (h2 : 0 < M2) (hw1 : wl R1.natAbs ≤ 100) (hw2 : wl R2.natAbs ≤ 100) (hw3 : wl M1 ≤ 100) (hw4 : wl M2 ≤ 100) :
    Calls Tryz.prog 107 #[.agg #[.int .u64 ((lo (Int.natAbs (R1)) : Nat) : Int), .string (bg (Int.natAbs (R1))), .bool (decide ((R1) < 0)), .int .u64 ((lo (M1) : Nat) : Int), .string (bg (M1))], .agg #[.int .u64 ((lo (Int.natAbs (R2)) : Nat) : Int), .string (bg (Int.natAbs (R2))), .bool (decide ((R2) < 0)), .int .u64 ((lo (M2) : Nat) : Int), .string (bg (M2))]] w fun e w' => e = .returned (.tuple #[(.agg #[.int .u64 0, .string ⟨#[]⟩, .bool false, .int .u64 0, .string ⟨#[]⟩]), .int .i64 6]) ∧ Below w.heap.size w w' := by
  have hg := crg_pos (M2 := M2) h1
  exact rjoin_no R1 R2 _ _ _ _ _ _ M1 M2 w (Lib.hid rfl) (Lib.hid rfl) (Lib.hid rfl) (Lib.hid (by omega)) (Lib.hid (by omega)) (Lib.hid rfl) (Lib.hid rfl) (Lib.hid rfl) (Lib.hid (by omega)) (Lib.hid hk) hw1 hw2 hw3 hw4

end Go.Proofs.YtobojnodohjiaaaGreatDoor
