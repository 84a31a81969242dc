
/- IntsDivides: the law's walk. -/
import Derived.Test.YtpcfncbcpknobaaGreatDoorWorksZ
namespace Go.Proofs.YtpcfncbcpknobaaGreatDoor
open Go.RowKit
set_option linter.unusedSimpArgs false
set_option linter.unusedVariables false
attribute [local go_sem ↓] Go.wp_at_zero Go.wp_at_succ
attribute [local go_sem ↓] eq_nat eq_nat_zero eq_int
set_option maxRecDepth 100000 in
set_option maxHeartbeats 4000000 in
theorem dvz_zero (bbx : Bool) (vx : Value) (kx : Nat) (fx : Nat → Nat) (mx : Nat) (bby : Bool) (vy : Value) (ky : Nat) (fy : Nat → Nat) (my : Nat) (bbz : Bool) (vz : Value) (kz : Nat) (fz : Nat → Nat) (mz : Nat) (a c : Int)  (w : World) (HWx : Hid (Wa w vx kx fx)) (HFx : Hid (∀ i, i < kx → fx i < 4294967296)) (HVx : Hid (vl fx kx = mx)) (HAx : Hid ((if bbx then -((mx : Nat) : Int) else ((mx : Nat) : Int)) = a)) (HWy : Hid (Wa w vy ky fy)) (HFy : Hid (∀ i, i < ky → fy i < 4294967296)) (HVy : Hid (vl fy ky = my)) (HAy : Hid ((if bby then -((my : Nat) : Int) else ((my : Nat) : Int)) = 0)) (HWz : Hid (Wa w vz kz fz)) (HFz : Hid (∀ i, i < kz → fz i < 4294967296)) (HVz : Hid (vl fz kz = mz)) (HAz : Hid ((if bbz then -((mz : Nat) : Int) else ((mz : Nat) : Int)) = c)) (hkx : kx ≤ 16) (hky : ky ≤ 16) (hkz : kz ≤ 16) (HT : Hid (Tab w)) :
    Calls Tryz.prog 17 #[.agg #[.bool bbx, vx], .agg #[.bool bby, vy], .agg #[.bool bbz, vz]] w fun e w' => e = .returned (.bool true) ∧ Below w.heap.size w w' := by
  obtain ⟨ao_x, c_x, rfl⟩ := HWx.out.slice
  obtain ⟨ao_y, c_y, rfl⟩ := HWy.out.slice
  obtain ⟨ao_z, c_z, rfl⟩ := HWz.out.slice
  have hm_x : wl mx ≤ 16 := by rw [← HVx.out]; have := wl_le.2 (vl_lt HFx.out); omega
  have hb_x : wl (Int.natAbs (a)) ≤ 16 := by rw [zsize HAx.out]; exact hm_x
  have ht_x : tw (Int.natAbs (a)) ≤ 48 := by have := tw_wl (Int.natAbs (a)); omega
  have hm_y : wl my ≤ 16 := by rw [← HVy.out]; have := wl_le.2 (vl_lt HFy.out); omega
  have hb_y : wl (Int.natAbs (0)) ≤ 16 := by rw [zsize HAy.out]; exact hm_y
  have ht_y : tw (Int.natAbs (0)) ≤ 48 := by have := tw_wl (Int.natAbs (0)); omega
  have hm_z : wl mz ≤ 16 := by rw [← HVz.out]; have := wl_le.2 (vl_lt HFz.out); omega
  have hb_z : wl (Int.natAbs (c)) ≤ 16 := by rw [zsize HAz.out]; exact hm_z
  have ht_z : tw (Int.natAbs (c)) ≤ 48 := by have := tw_wl (Int.natAbs (c)); omega
  go_enter Tryz.func17, Tryz.ntmps17
  have HF := Lib.hid (hp0 w)
  refine kS fun K hK => ?_
  refine wp_region_lit ?_
  go_wp2
  refine hK.out _ _ ?_; clear hK K
  show Code.wp _ _ _ _ _
  refine fH ((((HF.out).al (b := w.heap.size) (by first | rfl | simp) (by decide)).al (b := w.heap.size + 1) (by first | rfl | simp) (by decide)).al (b := w.heap.size + 1 + 1) (by first | rfl | simp) (by decide)) fun Wx0 HG => ?_
  clear HF; have HF := HG; clear HG
  generalize w.heap.size + 1 + 1 = gx2 at *
  generalize w.heap.size + 1 = gx1 at *
  refine wp_seq ?_
  have lx0 := HF.out.c 0 rfl
  have lx1 := HF.out.c 1 rfl
  have lx2 := HF.out.c 2 rfl
  refine kS fun K hK => ?_
  have HG0 : Hid (Gr Wx0 Wx0) := Lib.hid (Gr.refl _)
  refine sq 6 [(true, 0), (true, 1), (true, 2), (false, 3), (true, 4), (true, 5)] fun T hT => ?_
  iterate 3 refine tk ?_
  refine wpPlan_slice (cs := #[.bool (bbx), (.slice ao_x kx c_x), .bool (bby), (.slice ao_y ky c_y), .bool (bbz), (.slice ao_z kz c_z)]) (E := 25) (n := 3) rfl (by rfl) (fun w' hw => ?_) (fun gx4 vv4 hg0 yx4 bx4 => ?_)
  · go_simp
  clear yx4
  replace HG0 := Lib.hid (HG0.out.trans hg0)
  have HGS := Lib.hid hg0; clear hg0
  clear HGS
  have BX4 := Lib.hid bx4; clear bx4
  clear lx0; have lx0 := fun w' (h : Gr _ w') => HF.out.c 0 rfl w' (HG0.out.trans h)
  clear lx1; have lx1 := fun w' (h : Gr _ w') => HF.out.c 1 rfl w' (HG0.out.trans h)
  clear lx2; have lx2 := fun w' (h : Gr _ w') => HF.out.c 2 rfl w' (HG0.out.trans h)
  simp only [Act.put, lA, lB, lC]
  refine ck Tryz.call104 (fun w' hw => few3_ok _ _ _ _ _ _ _ _ _ _ _ _ 16 gx4 _ (BX4.out.gr hw) (by omega) (by omega) (by omega)) ?_
  refine tk ?_
  refine wpPlan_nil (hT.out _ _ ?_)
  intro vw1 hg
  simp only [puts, Act.put, lA, lB, lC, lD, lE, ↓reduceIte, Nat.reduceEqDiff]
  have HG := Lib.hid (HF.out.gr (HG0.out.trans hg))
  clear hT T HF hg HG0 BX4 lx0 lx1 lx2
  go_wp2
  refine hK.out _ _ ?_; clear hK K
  show Code.wp _ _ _ _ _
  have HF := HG; clear HG
  refine wp_cond_false (by rfl) ?_
  refine wp_skip ?_
  show Code.wp _ _ _ _ _
  have HB := HPb HF
  have lx0 := HF.out.c 0 rfl
  have lx1 := HF.out.c 1 rfl
  have lx2 := HF.out.c 2 rfl
  refine kS fun K hK => ?_
  refine wp_region_plan 9 [6, 7, 8] [] (fun i => if i = 6 then 7 else if i = 7 then 8 else 9) (fun i => if i = 6 then .cells #[.int .u64 0, .string ⟨#[]⟩, .bool false] 38 else if i = 7 then .cells #[.int .u64 0, .string ⟨#[]⟩, .bool false] 38 else .cells #[.int .u64 0, .string ⟨#[]⟩, .bool false] 38) [(true, 0), (true, 2), (true, 4), (true, 1), (true, 3), (true, 5)] (by kernel_rfl) (by kernel_rfl) (by intro i hi; simp only [List.mem_cons, List.not_mem_nil, or_false] at hi; rcases hi with rfl | rfl | rfl <;> exact ⟨_, rfl, rfl, rfl, by simp, fun ρ w => by kernel_rfl⟩) (fun i hi => by cases hi) (fun _ _ _ _ _ h => h) (fun T hT => ?_)
  iterate 3 refine tk ?_
  refine ck Tryz.call19 (fun w' hw => zlof bbx kx fx mx a ao_x c_x w' (Lib.hid (HWx.out.gr (Gr.trans HB.out hw))) HFx HVx HAx om om) ?_
  refine ck Tryz.call19 (fun w' hw => zlof bby ky fy my 0 ao_y c_y w' (Lib.hid (HWy.out.gr (Gr.trans HB.out hw))) HFy HVy HAy om om) ?_
  refine ck Tryz.call19 (fun w' hw => zlof bbz kz fz mz c ao_z c_z w' (Lib.hid (HWz.out.gr (Gr.trans HB.out hw))) HFz HVz HAz om om) ?_
  refine wpPlan_nil (hT.out _ _ ?_)
  intro G vw2 hg hf
  simp only [puts, Act.put, lA, lB, lC, lD, lE, ↓reduceIte, Nat.reduceEqDiff]
  have HG := Lib.hid (HF.out.fr hg hf (zs := [(#[.int .u64 0, .string ⟨#[]⟩, .bool false], 38), (#[.int .u64 0, .string ⟨#[]⟩, .bool false], 38), (#[.int .u64 0, .string ⟨#[]⟩, .bool false], 38)]) rfl (by decide) (by decide))
  simp only [List.zip_cons_cons, List.zip_nil_right, List.map_cons, List.map_nil, lF, lG] at HG
  clear hT T HF hg hf lx0 lx1 lx2 HB
  generalize G 6 = gx5 at *
  generalize G 7 = gx6 at *
  generalize G 8 = gx7 at *
  have lx5 := HG.out.c 3 rfl; have fx5 := HG.out.f 3 rfl
  have lx6 := HG.out.c 4 rfl; have fx6 := HG.out.f 4 rfl
  have lx7 := HG.out.c 5 rfl; have fx7 := HG.out.f 5 rfl
  have r0 := Gr.refl vw2
  obtain ⟨d5_6, d6_5⟩ := HG.out.ne 3 4 rfl rfl (by decide)
  obtain ⟨d5_7, d7_5⟩ := HG.out.ne 3 5 rfl rfl (by decide)
  obtain ⟨d6_7, d7_6⟩ := HG.out.ne 4 5 rfl rfl (by decide)
  go_wp2
  refine hK.out _ _ ?_; clear hK K
  show Code.wp _ _ _ _ _
  clear r0 lx5 fx5 lx6 fx6 lx7 fx7 d5_6 d6_5 d5_7 d7_5 d6_7 d7_6
  refine fH ((((((((((HG.out).put2 3 0 rfl).put 3 2 _ rfl).put2 4 0 rfl).put 4 2 _ rfl).put2 5 0 rfl).put 5 2 _ rfl).er 2).er 1).er 0) fun Wx3 HF => ?_
  clear HG
  obtain ⟨u1, HZ1⟩ : ∃ z, Hid ((egcd (a) (0)).1 = z) := ⟨_, Lib.hid rfl⟩
  have su1 : wl (Int.natAbs (u1)) ≤ 20 := by rw [← HZ1.out]; have := wl_egcd (a := a) (b := 0) (M := 16) om om (by decide); omega
  obtain ⟨u2, HZ2⟩ : ∃ z, Hid ((egcd (a) (0)).2.1 = z) := ⟨_, Lib.hid rfl⟩
  have su2 : wl (Int.natAbs (u2)) ≤ 20 := by rw [← HZ2.out]; have := wl_egcd (a := a) (b := 0) (M := 16) om om (by decide); omega
  have HZ3 : Hid ((egcd (a) (0)).2.2 = 0) := Lib.hid (by first | exact ok | exact eg0 _ | (rw [egcd_zero]; done) | (rw [egcd_zero]; simp; done) | exact elt _ _ (by assumption) | exact zback _ | exact eg_comb _ _ | exact eg_abs _ _ | exact idv0 _ _ | exact idv1 _ _ _ (by assumption) | exact idv2 _ _ _ | (simp only [← HZ2.out, ← HZ1.out] <;> first | exact ok | exact eg0 _ | (rw [egcd_zero]; done) | (rw [egcd_zero]; simp; done) | exact elt _ _ (by assumption) | exact zback _ | exact eg_comb _ _ | exact eg_abs _ _ | exact idv0 _ _ | exact idv1 _ _ _ (by assumption) | exact idv2 _ _ _))
  have su3 : wl (Int.natAbs (0)) ≤ 20 := by have e := HZ3.out; first | omega | (rw [← e]; have := wl_egcd (a := a) (b := 0) (M := 16) om om (by decide); omega) | exact wl_le.2 (by decide +kernel)
  have lx5 := HF.out.c 0 rfl
  have lx6 := HF.out.c 1 rfl
  refine kS fun K hK => ?_
  refine sq 7 [(true, 0), (true, 1), (true, 2), (true, 3), (true, 4), (true, 5), (true, 6)] fun T hT => ?_
  iterate 2 refine tk ?_
  refine ck Tryz.call117 (fun w' hw => zigcd (a) (0) (u1) (u2) (0) _ HZ1.out HZ2.out HZ3.out om om) ?_
  iterate 4 refine tk ?_
  refine nlS hT HF fun vw3 HG => ?_
  clear hT T HF lx5 lx6
  go_wp2
  refine hK.out _ _ ?_; clear hK K
  show Code.wp _ _ _ _ _
  refine fH ((((HG.out).al (b := vw3.heap.size) (by first | rfl | simp) (by decide)).al (b := vw3.heap.size + 1) (by first | rfl | simp) (by decide)).al (b := vw3.heap.size + 1 + 1) (by first | rfl | simp) (by decide)) fun Wx4 HF => ?_
  clear HG
  generalize vw3.heap.size + 1 + 1 = gx10 at *
  generalize vw3.heap.size + 1 = gx9 at *
  generalize vw3.heap.size = gx8 at *
  refine wp_seq ?_
  have HZ4 : Hid ((a) * (u2) = u1) := Lib.hid (by first | exact ok | exact eg0 _ | (rw [egcd_zero]; done) | (rw [egcd_zero]; simp; done) | exact elt _ _ (by assumption) | exact zback _ | exact eg_comb _ _ | exact eg_abs _ _ | exact idv0 _ _ | exact idv1 _ _ _ (by assumption) | exact idv2 _ _ _ | (simp only [← HZ2.out, ← HZ1.out] <;> first | exact ok | exact eg0 _ | (rw [egcd_zero]; done) | (rw [egcd_zero]; simp; done) | exact elt _ _ (by assumption) | exact zback _ | exact eg_comb _ _ | exact eg_abs _ _ | exact idv0 _ _ | exact idv1 _ _ _ (by assumption) | exact idv2 _ _ _))
  have su4 : wl (Int.natAbs (u1)) ≤ 36 := by have e := HZ4.out; first | omega | (rw [← e]; have := wl_imul (a) (u2); omega)
  have HZ5 : Hid ((0 : Int) * (0) = 0) := Lib.hid (by first | exact ok | exact eg0 _ | (rw [egcd_zero]; done) | (rw [egcd_zero]; simp; done) | exact elt _ _ (by assumption) | exact zback _ | exact eg_comb _ _ | exact eg_abs _ _ | exact idv0 _ _ | exact idv1 _ _ _ (by assumption) | exact idv2 _ _ _ | (simp only [← HZ2.out, ← HZ1.out] <;> first | exact ok | exact eg0 _ | (rw [egcd_zero]; done) | (rw [egcd_zero]; simp; done) | exact elt _ _ (by assumption) | exact zback _ | exact eg_comb _ _ | exact eg_abs _ _ | exact idv0 _ _ | exact idv1 _ _ _ (by assumption) | exact idv2 _ _ _))
  have su5 : wl (Int.natAbs (0)) ≤ 36 := by have e := HZ5.out; first | omega | (rw [← e]; have := wl_imul (0) (0); omega) | exact wl_le.2 (by decide +kernel)
  have HZ6 : Hid ((u1) + (0) = u1) := Lib.hid (by first | exact ok | exact eg0 _ | (rw [egcd_zero]; done) | (rw [egcd_zero]; simp; done) | exact elt _ _ (by assumption) | exact zback _ | exact eg_comb _ _ | exact eg_abs _ _ | exact idv0 _ _ | exact idv1 _ _ _ (by assumption) | exact idv2 _ _ _ | (simp only [← HZ2.out, ← HZ1.out] <;> first | exact ok | exact eg0 _ | (rw [egcd_zero]; done) | (rw [egcd_zero]; simp; done) | exact elt _ _ (by assumption) | exact zback _ | exact eg_comb _ _ | exact eg_abs _ _ | exact idv0 _ _ | exact idv1 _ _ _ (by assumption) | exact idv2 _ _ _))
  have su6 : wl (Int.natAbs (u1)) ≤ 37 := by have e := HZ6.out; first | omega | (rw [← e]; have := wl_iadd (u1) (0); omega)
  obtain ⟨t7, HT7⟩ : ∃ z, Hid (sgI (u1) = z) := ⟨_, Lib.hid rfl⟩
  have ht7 : 0 ≤ t7 := by rw [← HT7.out]; exact sgI_nonneg (by simp only [← HZ2.out, ← HZ1.out]; exact eg_pos _ _)
  have hd1 : ¬ (t7 < 0) := by first | exact ok | exact eg0 _ | (rw [egcd_zero]; done) | (rw [egcd_zero]; simp; done) | exact elt _ _ (by assumption) | exact zback _ | exact eg_comb _ _ | exact eg_abs _ _ | exact idv0 _ _ | exact idv1 _ _ _ (by assumption) | exact idv2 _ _ _ | (simp only [← HZ2.out, ← HZ1.out] <;> first | exact ok | exact eg0 _ | (rw [egcd_zero]; done) | (rw [egcd_zero]; simp; done) | exact elt _ _ (by assumption) | exact zback _ | exact eg_comb _ _ | exact eg_abs _ _ | exact idv0 _ _ | exact idv1 _ _ _ (by assumption) | exact idv2 _ _ _)
  obtain ⟨u8, HZ8⟩ : ∃ z, Hid (Nat.gcd (Int.natAbs (a)) (Int.natAbs (0)) = z) := ⟨_, Lib.hid rfl⟩
  have su8 : wl (u8) ≤ 16 := by rw [← HZ8.out]; have := wl_gcd (Int.natAbs (a)) (Int.natAbs (0)); omega
  have hd2 : decide (Int.natAbs (u1) = u8) = true := decide_eq_true (by first | exact ok | exact eg0 _ | (rw [egcd_zero]; done) | (rw [egcd_zero]; simp; done) | exact elt _ _ (by assumption) | exact zback _ | exact eg_comb _ _ | exact eg_abs _ _ | exact idv0 _ _ | exact idv1 _ _ _ (by assumption) | exact idv2 _ _ _ | (simp only [← HZ8.out, ← HZ2.out, ← HZ1.out] <;> first | exact ok | exact eg0 _ | (rw [egcd_zero]; done) | (rw [egcd_zero]; simp; done) | exact elt _ _ (by assumption) | exact zback _ | exact eg_comb _ _ | exact eg_abs _ _ | exact idv0 _ _ | exact idv1 _ _ _ (by assumption) | exact idv2 _ _ _))
  have lx5 := HF.out.c 0 rfl
  have lx6 := HF.out.c 1 rfl
  have lx8 := HF.out.c 3 rfl
  have lx9 := HF.out.c 4 rfl
  have lx10 := HF.out.c 5 rfl
  refine kS fun K hK => ?_
  refine pd 23 [(true, 0), (true, 1), (true, 3), (true, 4), (true, 7), (true, 2), (true, 5), (true, 6), (true, 8), (true, 9), (true, 10), (true, 11), (true, 12), (true, 13), (true, 14), (true, 15), (true, 17), (true, 19), (true, 16), (true, 18), (true, 20), (true, 21), (true, 22)] fun T hT => ?_
  iterate 5 refine tk ?_
  refine ck Tryz.call94 (fun w' hw => zimul (a) (u2) (u1) _ HZ4.out om om) ?_
  refine ck Tryz.call94 (fun w' hw => zimul (0) (0) (0) _ HZ5.out om om) ?_
  refine ck Tryz.call102 (fun w' hw => ziadd (u1) (0) (u1) _ HZ6.out om om) ?_
  iterate 3 refine tk ?_
  refine ck Tryz.call114 (fun w' hw => zisign (u1) (t7) _ HT7.out) ?_
  iterate 6 refine tk ?_
  refine ck Tryz.call70 (fun w' hw => abs_any (u1) _) ?_
  refine ck Tryz.call70 (fun w' hw => abs_any (a) _) ?_
  refine ck Tryz.call70 (fun w' hw => abs_any (0) _) ?_
  refine ck Tryz.call92 (fun w' hw => nzgcd (Int.natAbs (a)) (Int.natAbs (0)) (u8) _ HZ8.out om om) ?_
  refine tk ?_
  refine nlD hT HF fun vw4 HG => ?_
  clear hT T HF lx5 lx6 lx8 lx9 lx10
  go_wp2
  refine hK.out _ _ ?_; clear hK K
  show Code.wp _ _ _ _ _
  refine fH ((((HG.out).er 5).er 4).er 3) fun Wx5 HF => ?_
  clear HG
  clear ht7 hd1 hd2
  refine wp_cond_false (by rfl) ?_
  refine wp_skip ?_
  show Code.wp _ _ _ _ _
  have HZ9 : Hid ((if false then -((Int.natAbs (0) : Nat) : Int) else ((Int.natAbs (0) : Nat) : Int)) = 0) := Lib.hid (by first | exact ok | exact eg0 _ | (rw [egcd_zero]; done) | (rw [egcd_zero]; simp; done) | exact elt _ _ (by assumption) | exact zback _ | exact eg_comb _ _ | exact eg_abs _ _ | exact idv0 _ _ | exact idv1 _ _ _ (by assumption) | exact idv2 _ _ _ | (simp only [← HZ8.out, ← HZ2.out, ← HZ1.out] <;> first | exact ok | exact eg0 _ | (rw [egcd_zero]; done) | (rw [egcd_zero]; simp; done) | exact elt _ _ (by assumption) | exact zback _ | exact eg_comb _ _ | exact eg_abs _ _ | exact idv0 _ _ | exact idv1 _ _ _ (by assumption) | exact idv2 _ _ _))
  have su9 : wl (Int.natAbs (0)) ≤ 16 := by have e := HZ9.out; first | omega | (rw [← e]; split <;> simp <;> omega) | exact wl_le.2 (by decide +kernel)
  have lx6 := HF.out.c 1 rfl
  refine kS fun K hK => ?_
  refine sq 3 [(true, 0), (true, 1), (true, 2)] fun T hT => ?_
  refine tk ?_
  refine ck Tryz.call70 (fun w' hw => abs_any (0) _) ?_
  refine ck Tryz.call95 (fun w' hw => from_any false (Int.natAbs (0)) (0) _ HZ9.out) ?_
  refine nlS hT HF fun vw5 HG => ?_
  clear hT T HF lx6
  go_wp2
  refine hK.out _ _ ?_; clear hK K
  show Code.wp _ _ _ _ _
  refine fH ((HG.out).al (b := vw5.heap.size) (by first | rfl | simp) (by decide)) fun Wx7 HF => ?_
  clear HG
  generalize vw5.heap.size = gx11 at *
  have lx5 := HF.out.c 0 rfl
  have lx6 := HF.out.c 1 rfl
  refine kS fun K hK => ?_
  refine sq 7 [(true, 0), (true, 1), (true, 2), (true, 3), (true, 4), (true, 5), (true, 6)] fun T hT => ?_
  iterate 2 refine tk ?_
  refine ck Tryz.call103 (fun w' hw => zidivno (a) (0) _ (by first | exact ok | exact eg0 _ | (rw [egcd_zero]; done) | (rw [egcd_zero]; simp; done) | exact elt _ _ (by assumption) | exact zback _ | exact eg_comb _ _ | exact eg_abs _ _ | exact idv0 _ _ | exact idv1 _ _ _ (by assumption) | exact idv2 _ _ _ | (simp only [← HZ8.out, ← HZ2.out, ← HZ1.out] <;> first | exact ok | exact eg0 _ | (rw [egcd_zero]; done) | (rw [egcd_zero]; simp; done) | exact elt _ _ (by assumption) | exact zback _ | exact eg_comb _ _ | exact eg_abs _ _ | exact idv0 _ _ | exact idv1 _ _ _ (by assumption) | exact idv2 _ _ _)) om om) ?_
  iterate 4 refine tk ?_
  refine nlS hT HF fun vw6 HG => ?_
  clear hT T HF lx5 lx6
  go_wp2
  refine hK.out _ _ ?_; clear hK K
  show Code.wp _ _ _ _ _
  refine fH (((HG.out).al (b := vw6.heap.size) (by first | rfl | simp) (by decide)).al (b := vw6.heap.size + 1) (by first | rfl | simp) (by decide)) fun Wx8 HF => ?_
  clear HG
  generalize vw6.heap.size + 1 = gx13 at *
  generalize vw6.heap.size = gx12 at *
  refine wp_seq ?_
  have lx6 := HF.out.c 1 rfl
  refine kS fun K hK => ?_
  refine sq 2 [(true, 0), (true, 1)] fun T hT => ?_
  refine tk ?_
  refine ck Tryz.call119 (fun w' hw => is_any (0) (0) true _ (Lib.hid (decide_eq_true (by decide))) (by decide) (by decide)) ?_
  refine nlS hT HF fun vw7 HG => ?_
  clear hT T HF lx6
  go_wp2
  refine hK.out _ _ ?_; clear hK K
  show Code.wp _ _ _ _ _
  have HF := HG; clear HG
  refine wp_cond_true (by rfl) ?_
  have HB := HPb HF
  refine kS fun K hK => ?_
  refine sq 6 [(true, 0), (true, 1), (true, 2), (true, 3), (true, 4), (true, 5)] fun T hT => ?_
  iterate 3 refine tk ?_
  refine ck Tryz.call23 (fun w' hw => worksz_any _ (Lib.hid (HT.out.gr (Gr.trans HB.out hw)))) ?_
  iterate 2 refine tk ?_
  refine nlS hT HF fun vw8 HG => ?_
  clear hT T HF HB
  go_wp2
  refine hK.out _ _ ?_; clear hK K
  show Code.wp _ _ _ _ _
  have HF := HG; clear HG
  refine wp_ret ?_
  try simp only [Exit.then, Exit.inBlock]
  exact bodyPost_ret (v := .bool true) (by simp [results, Tryz.results17, go_sem]) rfl ⟨rfl, HF.out.1⟩

set_option maxRecDepth 100000 in
set_option maxHeartbeats 4000000 in
theorem dvz_pos (bbx : Bool) (vx : Value) (kx : Nat) (fx : Nat → Nat) (mx : Nat) (bby : Bool) (vy : Value) (ky : Nat) (fy : Nat → Nat) (my : Nat) (bbz : Bool) (vz : Value) (kz : Nat) (fz : Nat → Nat) (mz : Nat) (a b c : Int)  (w : World) (HWx : Hid (Wa w vx kx fx)) (HFx : Hid (∀ i, i < kx → fx i < 4294967296)) (HVx : Hid (vl fx kx = mx)) (HAx : Hid ((if bbx then -((mx : Nat) : Int) else ((mx : Nat) : Int)) = a)) (HWy : Hid (Wa w vy ky fy)) (HFy : Hid (∀ i, i < ky → fy i < 4294967296)) (HVy : Hid (vl fy ky = my)) (HAy : Hid ((if bby then -((my : Nat) : Int) else ((my : Nat) : Int)) = b)) (HWz : Hid (Wa w vz kz fz)) (HFz : Hid (∀ i, i < kz → fz i < 4294967296)) (HVz : Hid (vl fz kz = mz)) (HAz : Hid ((if bbz then -((mz : Nat) : Int) else ((mz : Nat) : Int)) = c)) (hkx : kx ≤ 16) (hky : ky ≤ 16) (hkz : kz ≤ 16) (hb0 : b ≠ 0) (HT : Hid (Tab w)) :
    Calls Tryz.prog 17 #[.agg #[.bool bbx, vx], .agg #[.bool bby, vy], .agg #[.bool bbz, vz]] w fun e w' => e = .returned (.bool true) ∧ Below w.heap.size w w' := by
  obtain ⟨ao_x, c_x, rfl⟩ := HWx.out.slice
  obtain ⟨ao_y, c_y, rfl⟩ := HWy.out.slice
  obtain ⟨ao_z, c_z, rfl⟩ := HWz.out.slice
  have hm_x : wl mx ≤ 16 := by rw [← HVx.out]; have := wl_le.2 (vl_lt HFx.out); omega
  have hb_x : wl (Int.natAbs (a)) ≤ 16 := by rw [zsize HAx.out]; exact hm_x
  have ht_x : tw (Int.natAbs (a)) ≤ 48 := by have := tw_wl (Int.natAbs (a)); omega
  have hm_y : wl my ≤ 16 := by rw [← HVy.out]; have := wl_le.2 (vl_lt HFy.out); omega
  have hb_y : wl (Int.natAbs (b)) ≤ 16 := by rw [zsize HAy.out]; exact hm_y
  have ht_y : tw (Int.natAbs (b)) ≤ 48 := by have := tw_wl (Int.natAbs (b)); omega
  have hm_z : wl mz ≤ 16 := by rw [← HVz.out]; have := wl_le.2 (vl_lt HFz.out); omega
  have hb_z : wl (Int.natAbs (c)) ≤ 16 := by rw [zsize HAz.out]; exact hm_z
  have ht_z : tw (Int.natAbs (c)) ≤ 48 := by have := tw_wl (Int.natAbs (c)); omega
  go_enter Tryz.func17, Tryz.ntmps17
  have HF := Lib.hid (hp0 w)
  refine kS fun K hK => ?_
  refine wp_region_lit ?_
  go_wp2
  refine hK.out _ _ ?_; clear hK K
  show Code.wp _ _ _ _ _
  refine fH ((((HF.out).al (b := w.heap.size) (by first | rfl | simp) (by decide)).al (b := w.heap.size + 1) (by first | rfl | simp) (by decide)).al (b := w.heap.size + 1 + 1) (by first | rfl | simp) (by decide)) fun Wx0 HG => ?_
  clear HF; have HF := HG; clear HG
  generalize w.heap.size + 1 + 1 = gx2 at *
  generalize w.heap.size + 1 = gx1 at *
  refine wp_seq ?_
  have lx0 := HF.out.c 0 rfl
  have lx1 := HF.out.c 1 rfl
  have lx2 := HF.out.c 2 rfl
  refine kS fun K hK => ?_
  have HG0 : Hid (Gr Wx0 Wx0) := Lib.hid (Gr.refl _)
  refine sq 6 [(true, 0), (true, 1), (true, 2), (false, 3), (true, 4), (true, 5)] fun T hT => ?_
  iterate 3 refine tk ?_
  refine wpPlan_slice (cs := #[.bool (bbx), (.slice ao_x kx c_x), .bool (bby), (.slice ao_y ky c_y), .bool (bbz), (.slice ao_z kz c_z)]) (E := 25) (n := 3) rfl (by rfl) (fun w' hw => ?_) (fun gx4 vv4 hg0 yx4 bx4 => ?_)
  · go_simp
  clear yx4
  replace HG0 := Lib.hid (HG0.out.trans hg0)
  have HGS := Lib.hid hg0; clear hg0
  clear HGS
  have BX4 := Lib.hid bx4; clear bx4
  clear lx0; have lx0 := fun w' (h : Gr _ w') => HF.out.c 0 rfl w' (HG0.out.trans h)
  clear lx1; have lx1 := fun w' (h : Gr _ w') => HF.out.c 1 rfl w' (HG0.out.trans h)
  clear lx2; have lx2 := fun w' (h : Gr _ w') => HF.out.c 2 rfl w' (HG0.out.trans h)
  simp only [Act.put, lA, lB, lC]
  refine ck Tryz.call104 (fun w' hw => few3_ok _ _ _ _ _ _ _ _ _ _ _ _ 16 gx4 _ (BX4.out.gr hw) (by omega) (by omega) (by omega)) ?_
  refine tk ?_
  refine wpPlan_nil (hT.out _ _ ?_)
  intro vw1 hg
  simp only [puts, Act.put, lA, lB, lC, lD, lE, ↓reduceIte, Nat.reduceEqDiff]
  have HG := Lib.hid (HF.out.gr (HG0.out.trans hg))
  clear hT T HF hg HG0 BX4 lx0 lx1 lx2
  go_wp2
  refine hK.out _ _ ?_; clear hK K
  show Code.wp _ _ _ _ _
  have HF := HG; clear HG
  refine wp_cond_false (by rfl) ?_
  refine wp_skip ?_
  show Code.wp _ _ _ _ _
  have HB := HPb HF
  have lx0 := HF.out.c 0 rfl
  have lx1 := HF.out.c 1 rfl
  have lx2 := HF.out.c 2 rfl
  refine kS fun K hK => ?_
  refine wp_region_plan 9 [6, 7, 8] [] (fun i => if i = 6 then 7 else if i = 7 then 8 else 9) (fun i => if i = 6 then .cells #[.int .u64 0, .string ⟨#[]⟩, .bool false] 38 else if i = 7 then .cells #[.int .u64 0, .string ⟨#[]⟩, .bool false] 38 else .cells #[.int .u64 0, .string ⟨#[]⟩, .bool false] 38) [(true, 0), (true, 2), (true, 4), (true, 1), (true, 3), (true, 5)] (by kernel_rfl) (by kernel_rfl) (by intro i hi; simp only [List.mem_cons, List.not_mem_nil, or_false] at hi; rcases hi with rfl | rfl | rfl <;> exact ⟨_, rfl, rfl, rfl, by simp, fun ρ w => by kernel_rfl⟩) (fun i hi => by cases hi) (fun _ _ _ _ _ h => h) (fun T hT => ?_)
  iterate 3 refine tk ?_
  refine ck Tryz.call19 (fun w' hw => zlof bbx kx fx mx a ao_x c_x w' (Lib.hid (HWx.out.gr (Gr.trans HB.out hw))) HFx HVx HAx om om) ?_
  refine ck Tryz.call19 (fun w' hw => zlof bby ky fy my b ao_y c_y w' (Lib.hid (HWy.out.gr (Gr.trans HB.out hw))) HFy HVy HAy om om) ?_
  refine ck Tryz.call19 (fun w' hw => zlof bbz kz fz mz c ao_z c_z w' (Lib.hid (HWz.out.gr (Gr.trans HB.out hw))) HFz HVz HAz om om) ?_
  refine wpPlan_nil (hT.out _ _ ?_)
  intro G vw2 hg hf
  simp only [puts, Act.put, lA, lB, lC, lD, lE, ↓reduceIte, Nat.reduceEqDiff]
  have HG := Lib.hid (HF.out.fr hg hf (zs := [(#[.int .u64 0, .string ⟨#[]⟩, .bool false], 38), (#[.int .u64 0, .string ⟨#[]⟩, .bool false], 38), (#[.int .u64 0, .string ⟨#[]⟩, .bool false], 38)]) rfl (by decide) (by decide))
  simp only [List.zip_cons_cons, List.zip_nil_right, List.map_cons, List.map_nil, lF, lG] at HG
  clear hT T HF hg hf lx0 lx1 lx2 HB
  generalize G 6 = gx5 at *
  generalize G 7 = gx6 at *
  generalize G 8 = gx7 at *
  have lx5 := HG.out.c 3 rfl; have fx5 := HG.out.f 3 rfl
  have lx6 := HG.out.c 4 rfl; have fx6 := HG.out.f 4 rfl
  have lx7 := HG.out.c 5 rfl; have fx7 := HG.out.f 5 rfl
  have r0 := Gr.refl vw2
  obtain ⟨d5_6, d6_5⟩ := HG.out.ne 3 4 rfl rfl (by decide)
  obtain ⟨d5_7, d7_5⟩ := HG.out.ne 3 5 rfl rfl (by decide)
  obtain ⟨d6_7, d7_6⟩ := HG.out.ne 4 5 rfl rfl (by decide)
  go_wp2
  refine hK.out _ _ ?_; clear hK K
  show Code.wp _ _ _ _ _
  clear r0 lx5 fx5 lx6 fx6 lx7 fx7 d5_6 d6_5 d5_7 d7_5 d6_7 d7_6
  refine fH ((((((((((HG.out).put2 3 0 rfl).put 3 2 _ rfl).put2 4 0 rfl).put 4 2 _ rfl).put2 5 0 rfl).put 5 2 _ rfl).er 2).er 1).er 0) fun Wx3 HF => ?_
  clear HG
  obtain ⟨u1, HZ1⟩ : ∃ z, Hid ((egcd (a) (b)).1 = z) := ⟨_, Lib.hid rfl⟩
  have su1 : wl (Int.natAbs (u1)) ≤ 20 := by rw [← HZ1.out]; have := wl_egcd (a := a) (b := b) (M := 16) om om (by decide); omega
  obtain ⟨u2, HZ2⟩ : ∃ z, Hid ((egcd (a) (b)).2.1 = z) := ⟨_, Lib.hid rfl⟩
  have su2 : wl (Int.natAbs (u2)) ≤ 20 := by rw [← HZ2.out]; have := wl_egcd (a := a) (b := b) (M := 16) om om (by decide); omega
  obtain ⟨u3, HZ3⟩ : ∃ z, Hid ((egcd (a) (b)).2.2 = z) := ⟨_, Lib.hid rfl⟩
  have su3 : wl (Int.natAbs (u3)) ≤ 20 := by rw [← HZ3.out]; have := wl_egcd (a := a) (b := b) (M := 16) om om (by decide); omega
  have lx5 := HF.out.c 0 rfl
  have lx6 := HF.out.c 1 rfl
  refine kS fun K hK => ?_
  refine sq 7 [(true, 0), (true, 1), (true, 2), (true, 3), (true, 4), (true, 5), (true, 6)] fun T hT => ?_
  iterate 2 refine tk ?_
  refine ck Tryz.call117 (fun w' hw => zigcd (a) (b) (u1) (u2) (u3) _ HZ1.out HZ2.out HZ3.out om om) ?_
  iterate 4 refine tk ?_
  refine nlS hT HF fun vw3 HG => ?_
  clear hT T HF lx5 lx6
  go_wp2
  refine hK.out _ _ ?_; clear hK K
  show Code.wp _ _ _ _ _
  refine fH ((((HG.out).al (b := vw3.heap.size) (by first | rfl | simp) (by decide)).al (b := vw3.heap.size + 1) (by first | rfl | simp) (by decide)).al (b := vw3.heap.size + 1 + 1) (by first | rfl | simp) (by decide)) fun Wx4 HF => ?_
  clear HG
  generalize vw3.heap.size + 1 + 1 = gx10 at *
  generalize vw3.heap.size + 1 = gx9 at *
  generalize vw3.heap.size = gx8 at *
  refine wp_seq ?_
  obtain ⟨u4, HZ4⟩ : ∃ z, Hid ((a) * (u2) = z) := ⟨_, Lib.hid rfl⟩
  have su4 : wl (Int.natAbs (u4)) ≤ 36 := by rw [← HZ4.out]; have := wl_imul (a) (u2); omega
  obtain ⟨u5, HZ5⟩ : ∃ z, Hid ((b) * (u3) = z) := ⟨_, Lib.hid rfl⟩
  have su5 : wl (Int.natAbs (u5)) ≤ 36 := by rw [← HZ5.out]; have := wl_imul (b) (u3); omega
  have HZ6 : Hid ((u4) + (u5) = u1) := Lib.hid (by first | exact ok | exact eg0 _ | (rw [egcd_zero]; done) | (rw [egcd_zero]; simp; done) | exact elt _ _ (by assumption) | exact zback _ | exact eg_comb _ _ | exact eg_abs _ _ | exact idv0 _ _ | exact idv1 _ _ _ (by assumption) | exact idv2 _ _ _ | (simp only [← HZ5.out, ← HZ4.out, ← HZ3.out, ← HZ2.out, ← HZ1.out] <;> first | exact ok | exact eg0 _ | (rw [egcd_zero]; done) | (rw [egcd_zero]; simp; done) | exact elt _ _ (by assumption) | exact zback _ | exact eg_comb _ _ | exact eg_abs _ _ | exact idv0 _ _ | exact idv1 _ _ _ (by assumption) | exact idv2 _ _ _))
  have su6 : wl (Int.natAbs (u1)) ≤ 37 := by have e := HZ6.out; first | omega | (rw [← e]; have := wl_iadd (u4) (u5); omega)
  obtain ⟨t7, HT7⟩ : ∃ z, Hid (sgI (u1) = z) := ⟨_, Lib.hid rfl⟩
  have ht7 : 0 ≤ t7 := by rw [← HT7.out]; exact sgI_nonneg (by simp only [← HZ5.out, ← HZ4.out, ← HZ3.out, ← HZ2.out, ← HZ1.out]; exact eg_pos _ _)
  have hd1 : ¬ (t7 < 0) := by first | exact ok | exact eg0 _ | (rw [egcd_zero]; done) | (rw [egcd_zero]; simp; done) | exact elt _ _ (by assumption) | exact zback _ | exact eg_comb _ _ | exact eg_abs _ _ | exact idv0 _ _ | exact idv1 _ _ _ (by assumption) | exact idv2 _ _ _ | (simp only [← HZ5.out, ← HZ4.out, ← HZ3.out, ← HZ2.out, ← HZ1.out] <;> first | exact ok | exact eg0 _ | (rw [egcd_zero]; done) | (rw [egcd_zero]; simp; done) | exact elt _ _ (by assumption) | exact zback _ | exact eg_comb _ _ | exact eg_abs _ _ | exact idv0 _ _ | exact idv1 _ _ _ (by assumption) | exact idv2 _ _ _)
  obtain ⟨u8, HZ8⟩ : ∃ z, Hid (Nat.gcd (Int.natAbs (a)) (Int.natAbs (b)) = z) := ⟨_, Lib.hid rfl⟩
  have su8 : wl (u8) ≤ 16 := by rw [← HZ8.out]; have := wl_gcd (Int.natAbs (a)) (Int.natAbs (b)); omega
  have hd2 : decide (Int.natAbs (u1) = u8) = true := decide_eq_true (by first | exact ok | exact eg0 _ | (rw [egcd_zero]; done) | (rw [egcd_zero]; simp; done) | exact elt _ _ (by assumption) | exact zback _ | exact eg_comb _ _ | exact eg_abs _ _ | exact idv0 _ _ | exact idv1 _ _ _ (by assumption) | exact idv2 _ _ _ | (simp only [← HZ8.out, ← HZ5.out, ← HZ4.out, ← HZ3.out, ← HZ2.out, ← HZ1.out] <;> first | exact ok | exact eg0 _ | (rw [egcd_zero]; done) | (rw [egcd_zero]; simp; done) | exact elt _ _ (by assumption) | exact zback _ | exact eg_comb _ _ | exact eg_abs _ _ | exact idv0 _ _ | exact idv1 _ _ _ (by assumption) | exact idv2 _ _ _))
  have lx5 := HF.out.c 0 rfl
  have lx6 := HF.out.c 1 rfl
  have lx8 := HF.out.c 3 rfl
  have lx9 := HF.out.c 4 rfl
  have lx10 := HF.out.c 5 rfl
  refine kS fun K hK => ?_
  refine pd 23 [(true, 0), (true, 1), (true, 3), (true, 4), (true, 7), (true, 2), (true, 5), (true, 6), (true, 8), (true, 9), (true, 10), (true, 11), (true, 12), (true, 13), (true, 14), (true, 15), (true, 17), (true, 19), (true, 16), (true, 18), (true, 20), (true, 21), (true, 22)] fun T hT => ?_
  iterate 5 refine tk ?_
  refine ck Tryz.call94 (fun w' hw => zimul (a) (u2) (u4) _ HZ4.out om om) ?_
  refine ck Tryz.call94 (fun w' hw => zimul (b) (u3) (u5) _ HZ5.out om om) ?_
  refine ck Tryz.call102 (fun w' hw => ziadd (u4) (u5) (u1) _ HZ6.out om om) ?_
  iterate 3 refine tk ?_
  refine ck Tryz.call114 (fun w' hw => zisign (u1) (t7) _ HT7.out) ?_
  iterate 6 refine tk ?_
  refine ck Tryz.call70 (fun w' hw => abs_any (u1) _) ?_
  refine ck Tryz.call70 (fun w' hw => abs_any (a) _) ?_
  refine ck Tryz.call70 (fun w' hw => abs_any (b) _) ?_
  refine ck Tryz.call92 (fun w' hw => nzgcd (Int.natAbs (a)) (Int.natAbs (b)) (u8) _ HZ8.out om om) ?_
  refine tk ?_
  refine nlD hT HF fun vw4 HG => ?_
  clear hT T HF lx5 lx6 lx8 lx9 lx10
  go_wp2
  refine hK.out _ _ ?_; clear hK K
  show Code.wp _ _ _ _ _
  refine fH ((((HG.out).er 5).er 4).er 3) fun Wx5 HF => ?_
  clear HG
  clear ht7 hd1 hd2
  refine wp_cond_false (by rfl) ?_
  refine wp_skip ?_
  show Code.wp _ _ _ _ _
  obtain ⟨u9, HZ9⟩ : ∃ z, Hid ((if false then -((Int.natAbs (b) : Nat) : Int) else ((Int.natAbs (b) : Nat) : Int)) = z) := ⟨_, Lib.hid rfl⟩
  have su9 : wl (Int.natAbs (u9)) ≤ 16 := by rw [← HZ9.out]; split <;> simp <;> omega
  have lx6 := HF.out.c 1 rfl
  refine kS fun K hK => ?_
  refine sq 3 [(true, 0), (true, 1), (true, 2)] fun T hT => ?_
  refine tk ?_
  refine ck Tryz.call70 (fun w' hw => abs_any (b) _) ?_
  refine ck Tryz.call95 (fun w' hw => from_any false (Int.natAbs (b)) (u9) _ HZ9.out) ?_
  refine nlS hT HF fun vw5 HG => ?_
  clear hT T HF lx6
  go_wp2
  refine hK.out _ _ ?_; clear hK K
  show Code.wp _ _ _ _ _
  refine fH ((HG.out).al (b := vw5.heap.size) (by first | rfl | simp) (by decide)) fun Wx7 HF => ?_
  clear HG
  generalize vw5.heap.size = gx11 at *
  obtain ⟨u10, HZ10⟩ : ∃ z, Hid ((a) / (b) = z) := ⟨_, Lib.hid rfl⟩
  have su10 : wl (Int.natAbs (u10)) ≤ 17 := by rw [← HZ10.out]; have := wl_idiv (a) (b); omega
  obtain ⟨u11, HZ11⟩ : ∃ z, Hid ((a) % (b) = z) := ⟨_, Lib.hid rfl⟩
  have su11 : wl (Int.natAbs (u11)) ≤ 16 := by rw [← HZ11.out]; have := wl_imod (a) (b) (by first | exact ok | exact eg0 _ | (rw [egcd_zero]; done) | (rw [egcd_zero]; simp; done) | exact elt _ _ (by assumption) | exact zback _ | exact eg_comb _ _ | exact eg_abs _ _ | exact idv0 _ _ | exact idv1 _ _ _ (by assumption) | exact idv2 _ _ _ | (simp only [← HZ10.out, ← HZ9.out, ← HZ8.out, ← HZ5.out, ← HZ4.out, ← HZ3.out, ← HZ2.out, ← HZ1.out] <;> first | exact ok | exact eg0 _ | (rw [egcd_zero]; done) | (rw [egcd_zero]; simp; done) | exact elt _ _ (by assumption) | exact zback _ | exact eg_comb _ _ | exact eg_abs _ _ | exact idv0 _ _ | exact idv1 _ _ _ (by assumption) | exact idv2 _ _ _)); omega
  have lx5 := HF.out.c 0 rfl
  have lx6 := HF.out.c 1 rfl
  refine kS fun K hK => ?_
  refine sq 7 [(true, 0), (true, 1), (true, 2), (true, 3), (true, 4), (true, 5), (true, 6)] fun T hT => ?_
  iterate 2 refine tk ?_
  refine ck Tryz.call103 (fun w' hw => zidiv (a) (b) (u10) (u11) _ HZ10.out HZ11.out (by first | exact ok | exact eg0 _ | (rw [egcd_zero]; done) | (rw [egcd_zero]; simp; done) | exact elt _ _ (by assumption) | exact zback _ | exact eg_comb _ _ | exact eg_abs _ _ | exact idv0 _ _ | exact idv1 _ _ _ (by assumption) | exact idv2 _ _ _ | (simp only [← HZ11.out, ← HZ10.out, ← HZ9.out, ← HZ8.out, ← HZ5.out, ← HZ4.out, ← HZ3.out, ← HZ2.out, ← HZ1.out] <;> first | exact ok | exact eg0 _ | (rw [egcd_zero]; done) | (rw [egcd_zero]; simp; done) | exact elt _ _ (by assumption) | exact zback _ | exact eg_comb _ _ | exact eg_abs _ _ | exact idv0 _ _ | exact idv1 _ _ _ (by assumption) | exact idv2 _ _ _)) om om) ?_
  iterate 4 refine tk ?_
  refine nlS hT HF fun vw6 HG => ?_
  clear hT T HF lx5 lx6
  go_wp2
  refine hK.out _ _ ?_; clear hK K
  show Code.wp _ _ _ _ _
  refine fH (((HG.out).al (b := vw6.heap.size) (by first | rfl | simp) (by decide)).al (b := vw6.heap.size + 1) (by first | rfl | simp) (by decide)) fun Wx8 HF => ?_
  clear HG
  generalize vw6.heap.size + 1 = gx13 at *
  generalize vw6.heap.size = gx12 at *
  refine wp_seq ?_
  have lx6 := HF.out.c 1 rfl
  refine kS fun K hK => ?_
  refine sq 2 [(true, 0), (true, 1)] fun T hT => ?_
  refine tk ?_
  refine ck Tryz.call119 (fun w' hw => is_any (b) (0) false _ (Lib.hid (decide_eq_false (by first | exact ok | exact eg0 _ | (rw [egcd_zero]; done) | (rw [egcd_zero]; simp; done) | exact elt _ _ (by assumption) | exact zback _ | exact eg_comb _ _ | exact eg_abs _ _ | exact idv0 _ _ | exact idv1 _ _ _ (by assumption) | exact idv2 _ _ _ | (simp only [← HZ11.out, ← HZ10.out, ← HZ9.out, ← HZ8.out, ← HZ5.out, ← HZ4.out, ← HZ3.out, ← HZ2.out, ← HZ1.out] <;> first | exact ok | exact eg0 _ | (rw [egcd_zero]; done) | (rw [egcd_zero]; simp; done) | exact elt _ _ (by assumption) | exact zback _ | exact eg_comb _ _ | exact eg_abs _ _ | exact idv0 _ _ | exact idv1 _ _ _ (by assumption) | exact idv2 _ _ _)))) (by decide) (by decide)) ?_
  refine nlS hT HF fun vw7 HG => ?_
  clear hT T HF lx6
  go_wp2
  refine hK.out _ _ ?_; clear hK K
  show Code.wp _ _ _ _ _
  have HF := HG; clear HG
  refine wp_cond_false (by rfl) ?_
  refine wp_skip ?_
  show Code.wp _ _ _ _ _
  obtain ⟨u12, HZ12⟩ : ∃ z, Hid ((c) / (b) = z) := ⟨_, Lib.hid rfl⟩
  have su12 : wl (Int.natAbs (u12)) ≤ 17 := by rw [← HZ12.out]; have := wl_idiv (c) (b); omega
  obtain ⟨u13, HZ13⟩ : ∃ z, Hid ((c) % (b) = z) := ⟨_, Lib.hid rfl⟩
  have su13 : wl (Int.natAbs (u13)) ≤ 16 := by rw [← HZ13.out]; have := wl_imod (c) (b) (by first | exact ok | exact eg0 _ | (rw [egcd_zero]; done) | (rw [egcd_zero]; simp; done) | exact elt _ _ (by assumption) | exact zback _ | exact eg_comb _ _ | exact eg_abs _ _ | exact idv0 _ _ | exact idv1 _ _ _ (by assumption) | exact idv2 _ _ _ | (simp only [← HZ12.out, ← HZ11.out, ← HZ10.out, ← HZ9.out, ← HZ8.out, ← HZ5.out, ← HZ4.out, ← HZ3.out, ← HZ2.out, ← HZ1.out] <;> first | exact ok | exact eg0 _ | (rw [egcd_zero]; done) | (rw [egcd_zero]; simp; done) | exact elt _ _ (by assumption) | exact zback _ | exact eg_comb _ _ | exact eg_abs _ _ | exact idv0 _ _ | exact idv1 _ _ _ (by assumption) | exact idv2 _ _ _)); omega
  have lx6 := HF.out.c 1 rfl
  have lx7 := HF.out.c 2 rfl
  refine kS fun K hK => ?_
  refine sq 7 [(true, 0), (true, 1), (true, 2), (true, 3), (true, 4), (true, 5), (true, 6)] fun T hT => ?_
  iterate 2 refine tk ?_
  refine ck Tryz.call103 (fun w' hw => zidiv (c) (b) (u12) (u13) _ HZ12.out HZ13.out (by first | exact ok | exact eg0 _ | (rw [egcd_zero]; done) | (rw [egcd_zero]; simp; done) | exact elt _ _ (by assumption) | exact zback _ | exact eg_comb _ _ | exact eg_abs _ _ | exact idv0 _ _ | exact idv1 _ _ _ (by assumption) | exact idv2 _ _ _ | (simp only [← HZ13.out, ← HZ12.out, ← HZ11.out, ← HZ10.out, ← HZ9.out, ← HZ8.out, ← HZ5.out, ← HZ4.out, ← HZ3.out, ← HZ2.out, ← HZ1.out] <;> first | exact ok | exact eg0 _ | (rw [egcd_zero]; done) | (rw [egcd_zero]; simp; done) | exact elt _ _ (by assumption) | exact zback _ | exact eg_comb _ _ | exact eg_abs _ _ | exact idv0 _ _ | exact idv1 _ _ _ (by assumption) | exact idv2 _ _ _)) om om) ?_
  iterate 4 refine tk ?_
  refine nlS hT HF fun vw8 HG => ?_
  clear hT T HF lx6 lx7
  go_wp2
  refine hK.out _ _ ?_; clear hK K
  show Code.wp _ _ _ _ _
  refine fH (((((HG.out).al (b := vw8.heap.size) (by first | rfl | simp) (by decide)).al (b := vw8.heap.size + 1) (by first | rfl | simp) (by decide)).er 6).er 2) fun Wx11 HF => ?_
  clear HG
  generalize vw8.heap.size + 1 = gx15 at *
  generalize vw8.heap.size = gx14 at *
  obtain ⟨u14, HZ14⟩ : ∃ z, Hid ((a) * (b) = z) := ⟨_, Lib.hid rfl⟩
  have su14 : wl (Int.natAbs (u14)) ≤ 32 := by rw [← HZ14.out]; have := wl_imul (a) (b); omega
  obtain ⟨u15, HZ15⟩ : ∃ z, Hid ((u14) + (u13) = z) := ⟨_, Lib.hid rfl⟩
  have su15 : wl (Int.natAbs (u15)) ≤ 33 := by rw [← HZ15.out]; have := wl_iadd (u14) (u13); omega
  have HZ16 : Hid ((u15) / (b) = a) := Lib.hid (by first | exact ok | exact eg0 _ | (rw [egcd_zero]; done) | (rw [egcd_zero]; simp; done) | exact elt _ _ (by assumption) | exact zback _ | exact eg_comb _ _ | exact eg_abs _ _ | exact idv0 _ _ | exact idv1 _ _ _ (by assumption) | exact idv2 _ _ _ | (simp only [← HZ15.out, ← HZ14.out, ← HZ13.out, ← HZ12.out, ← HZ11.out, ← HZ10.out, ← HZ9.out, ← HZ8.out, ← HZ5.out, ← HZ4.out, ← HZ3.out, ← HZ2.out, ← HZ1.out] <;> first | exact ok | exact eg0 _ | (rw [egcd_zero]; done) | (rw [egcd_zero]; simp; done) | exact elt _ _ (by assumption) | exact zback _ | exact eg_comb _ _ | exact eg_abs _ _ | exact idv0 _ _ | exact idv1 _ _ _ (by assumption) | exact idv2 _ _ _))
  have su16 : wl (Int.natAbs (a)) ≤ 34 := by have e := HZ16.out; first | omega | (rw [← e]; have := wl_idiv (u15) (b); omega)
  have HZ17 : Hid ((u15) % (b) = u13) := Lib.hid (by first | exact ok | exact eg0 _ | (rw [egcd_zero]; done) | (rw [egcd_zero]; simp; done) | exact elt _ _ (by assumption) | exact zback _ | exact eg_comb _ _ | exact eg_abs _ _ | exact idv0 _ _ | exact idv1 _ _ _ (by assumption) | exact idv2 _ _ _ | (simp only [← HZ15.out, ← HZ14.out, ← HZ13.out, ← HZ12.out, ← HZ11.out, ← HZ10.out, ← HZ9.out, ← HZ8.out, ← HZ5.out, ← HZ4.out, ← HZ3.out, ← HZ2.out, ← HZ1.out] <;> first | exact ok | exact eg0 _ | (rw [egcd_zero]; done) | (rw [egcd_zero]; simp; done) | exact elt _ _ (by assumption) | exact zback _ | exact eg_comb _ _ | exact eg_abs _ _ | exact idv0 _ _ | exact idv1 _ _ _ (by assumption) | exact idv2 _ _ _))
  have su17 : wl (Int.natAbs (u13)) ≤ 33 := by have e := HZ17.out; first | omega | (rw [← e]; have := wl_imod (u15) (b) (by first | exact ok | exact eg0 _ | (rw [egcd_zero]; done) | (rw [egcd_zero]; simp; done) | exact elt _ _ (by assumption) | exact zback _ | exact eg_comb _ _ | exact eg_abs _ _ | exact idv0 _ _ | exact idv1 _ _ _ (by assumption) | exact idv2 _ _ _ | (simp only [← HZ15.out, ← HZ14.out, ← HZ13.out, ← HZ12.out, ← HZ11.out, ← HZ10.out, ← HZ9.out, ← HZ8.out, ← HZ5.out, ← HZ4.out, ← HZ3.out, ← HZ2.out, ← HZ1.out] <;> first | exact ok | exact eg0 _ | (rw [egcd_zero]; done) | (rw [egcd_zero]; simp; done) | exact elt _ _ (by assumption) | exact zback _ | exact eg_comb _ _ | exact eg_abs _ _ | exact idv0 _ _ | exact idv1 _ _ _ (by assumption) | exact idv2 _ _ _)); omega)
  have lx5 := HF.out.c 0 rfl
  have lx6 := HF.out.c 1 rfl
  have lx15 := HF.out.c 5 rfl
  refine kS fun K hK => ?_
  refine wp_region_plan 13 [11, 12] [9, 10] (fun i => if i = 11 then 20 else 21) (fun i => if i = 11 then .cells #[.int .u64 0, .string ⟨#[]⟩, .bool false] 38 else .cells #[.int .u64 0, .string ⟨#[]⟩, .bool false] 38) [(true, 0), (true, 1), (true, 3), (true, 5), (true, 2), (true, 4), (true, 6), (true, 7), (true, 8), (true, 9), (true, 10)] (by kernel_rfl) (by kernel_rfl) (by intro i hi; simp only [List.mem_cons, List.not_mem_nil, or_false] at hi; rcases hi with rfl | rfl <;> exact ⟨_, rfl, rfl, rfl, by simp, fun ρ w => by kernel_rfl⟩) (by intro i hi; simp only [List.mem_cons, List.not_mem_nil, or_false] at hi; rcases hi with rfl | rfl <;> exact ⟨_, rfl, pure_extract⟩) (fun _ _ _ _ _ h => h) (fun T hT => ?_)
  iterate 4 refine tk ?_
  refine ck Tryz.call94 (fun w' hw => zimul (a) (b) (u14) _ HZ14.out om om) ?_
  refine ck Tryz.call102 (fun w' hw => ziadd (u14) (u13) (u15) _ HZ15.out om om) ?_
  refine ck Tryz.call103 (fun w' hw => zidiv (u15) (b) (a) (u13) _ HZ16.out HZ17.out (by first | exact ok | exact eg0 _ | (rw [egcd_zero]; done) | (rw [egcd_zero]; simp; done) | exact elt _ _ (by assumption) | exact zback _ | exact eg_comb _ _ | exact eg_abs _ _ | exact idv0 _ _ | exact idv1 _ _ _ (by assumption) | exact idv2 _ _ _ | (simp only [← HZ15.out, ← HZ14.out, ← HZ13.out, ← HZ12.out, ← HZ11.out, ← HZ10.out, ← HZ9.out, ← HZ8.out, ← HZ5.out, ← HZ4.out, ← HZ3.out, ← HZ2.out, ← HZ1.out] <;> first | exact ok | exact eg0 _ | (rw [egcd_zero]; done) | (rw [egcd_zero]; simp; done) | exact elt _ _ (by assumption) | exact zback _ | exact eg_comb _ _ | exact eg_abs _ _ | exact idv0 _ _ | exact idv1 _ _ _ (by assumption) | exact idv2 _ _ _)) om om) ?_
  iterate 4 refine tk ?_
  refine wpPlan_nil (hT.out _ _ ?_)
  intro G vw9 hg hf
  simp only [puts, Act.put, lA, lB, lC, lD, lE, ↓reduceIte, Nat.reduceEqDiff]
  have HG := Lib.hid (HF.out.fr hg hf (zs := [(#[.int .u64 0, .string ⟨#[]⟩, .bool false], 38), (#[.int .u64 0, .string ⟨#[]⟩, .bool false], 38)]) rfl (by decide) (by decide))
  simp only [List.zip_cons_cons, List.zip_nil_right, List.map_cons, List.map_nil, lF, lG] at HG
  clear hT T HF hg hf lx5 lx6 lx15
  generalize G 11 = gx16 at *
  generalize G 12 = gx17 at *
  have lx16 := HG.out.c 6 rfl; have fx16 := HG.out.f 6 rfl
  have lx17 := HG.out.c 7 rfl; have fx17 := HG.out.f 7 rfl
  have r0 := Gr.refl vw9
  obtain ⟨d16_17, d17_16⟩ := HG.out.ne 6 7 rfl rfl (by decide)
  go_wp2
  refine hK.out _ _ ?_; clear hK K
  show Code.wp _ _ _ _ _
  clear r0 lx16 fx16 lx17 fx17 d16_17 d17_16
  refine fH (((((HG.out).put2 6 0 rfl).put 6 2 _ rfl).put2 7 0 rfl).put 7 2 _ rfl) fun Wx12 HF => ?_
  clear HG
  have HB := HPb HF
  obtain ⟨u18, HZ18⟩ : ∃ z, Hid ((u10) * (b) = z) := ⟨_, Lib.hid rfl⟩
  have su18 : wl (Int.natAbs (u18)) ≤ 33 := by rw [← HZ18.out]; have := wl_imul (u10) (b); omega
  have HZ19 : Hid ((u18) + (u11) = a) := Lib.hid (by first | exact ok | exact eg0 _ | (rw [egcd_zero]; done) | (rw [egcd_zero]; simp; done) | exact elt _ _ (by assumption) | exact zback _ | exact eg_comb _ _ | exact eg_abs _ _ | exact idv0 _ _ | exact idv1 _ _ _ (by assumption) | exact idv2 _ _ _ | (simp only [← HZ18.out, ← HZ15.out, ← HZ14.out, ← HZ13.out, ← HZ12.out, ← HZ11.out, ← HZ10.out, ← HZ9.out, ← HZ8.out, ← HZ5.out, ← HZ4.out, ← HZ3.out, ← HZ2.out, ← HZ1.out] <;> first | exact ok | exact eg0 _ | (rw [egcd_zero]; done) | (rw [egcd_zero]; simp; done) | exact elt _ _ (by assumption) | exact zback _ | exact eg_comb _ _ | exact eg_abs _ _ | exact idv0 _ _ | exact idv1 _ _ _ (by assumption) | exact idv2 _ _ _))
  have su19 : wl (Int.natAbs (a)) ≤ 34 := by have e := HZ19.out; first | omega | (rw [← e]; have := wl_iadd (u18) (u11); omega)
  obtain ⟨t20, HT20⟩ : ∃ z, Hid (sgI (u11) = z) := ⟨_, Lib.hid rfl⟩
  have ht20 : 0 ≤ t20 := by rw [← HT20.out]; exact sgI_nonneg (by simp only [← HZ18.out, ← HZ15.out, ← HZ14.out, ← HZ13.out, ← HZ12.out, ← HZ11.out, ← HZ10.out, ← HZ9.out, ← HZ8.out, ← HZ5.out, ← HZ4.out, ← HZ3.out, ← HZ2.out, ← HZ1.out]; exact Int.emod_nonneg _ (by assumption))
  have hd3 : 0 ≤ t20 := by first | exact ok | exact eg0 _ | (rw [egcd_zero]; done) | (rw [egcd_zero]; simp; done) | exact elt _ _ (by assumption) | exact zback _ | exact eg_comb _ _ | exact eg_abs _ _ | exact idv0 _ _ | exact idv1 _ _ _ (by assumption) | exact idv2 _ _ _ | (simp only [← HZ18.out, ← HZ15.out, ← HZ14.out, ← HZ13.out, ← HZ12.out, ← HZ11.out, ← HZ10.out, ← HZ9.out, ← HZ8.out, ← HZ5.out, ← HZ4.out, ← HZ3.out, ← HZ2.out, ← HZ1.out] <;> first | exact ok | exact eg0 _ | (rw [egcd_zero]; done) | (rw [egcd_zero]; simp; done) | exact elt _ _ (by assumption) | exact zback _ | exact eg_comb _ _ | exact eg_abs _ _ | exact idv0 _ _ | exact idv1 _ _ _ (by assumption) | exact idv2 _ _ _)
  have lx5 := HF.out.c 0 rfl
  have lx6 := HF.out.c 1 rfl
  have lx11 := HF.out.c 2 rfl
  have lx12 := HF.out.c 3 rfl
  have lx13 := HF.out.c 4 rfl
  have lx15 := HF.out.c 5 rfl
  have lx16 := HF.out.c 6 rfl
  have lx17 := HF.out.c 7 rfl
  refine kS fun K hK => ?_
  refine pd 37 [(true, 0), (true, 1), (true, 2), (true, 3), (true, 5), (true, 7), (true, 4), (true, 6), (true, 8), (true, 9), (true, 10), (true, 11), (true, 12), (true, 13), (true, 14), (true, 15), (true, 16), (true, 17), (true, 18), (true, 19), (true, 20), (true, 21), (true, 22), (true, 23), (true, 24), (true, 25), (true, 26), (true, 27), (true, 28), (true, 29), (true, 30), (true, 31), (true, 32), (true, 33), (true, 34), (true, 35), (true, 36)] fun T hT => ?_
  iterate 6 refine tk ?_
  refine ck Tryz.call94 (fun w' hw => zimul (u10) (b) (u18) _ HZ18.out om om) ?_
  refine ck Tryz.call102 (fun w' hw => ziadd (u18) (u11) (a) _ HZ19.out om om) ?_
  iterate 4 refine tk ?_
  refine ck Tryz.call114 (fun w' hw => zisign (u11) (t20) _ HT20.out) ?_
  iterate 5 refine tk ?_
  refine ck Tryz.call101 (fun w' hw => zicmp (u11) (u9) (-1) _ (by have e9 : ((u11) : Int) < (u9) := (by first | exact ok | exact eg0 _ | (rw [egcd_zero]; done) | (rw [egcd_zero]; simp; done) | exact elt _ _ (by assumption) | exact zback _ | exact eg_comb _ _ | exact eg_abs _ _ | exact idv0 _ _ | exact idv1 _ _ _ (by assumption) | exact idv2 _ _ _ | (simp only [← HZ18.out, ← HZ15.out, ← HZ14.out, ← HZ13.out, ← HZ12.out, ← HZ11.out, ← HZ10.out, ← HZ9.out, ← HZ8.out, ← HZ5.out, ← HZ4.out, ← HZ3.out, ← HZ2.out, ← HZ1.out] <;> first | exact ok | exact eg0 _ | (rw [egcd_zero]; done) | (rw [egcd_zero]; simp; done) | exact elt _ _ (by assumption) | exact zback _ | exact eg_comb _ _ | exact eg_abs _ _ | exact idv0 _ _ | exact idv1 _ _ _ (by assumption) | exact idv2 _ _ _)); exact sgs_lt e9) om om) ?_
  iterate 16 refine tk ?_
  refine ck Tryz.call23 (fun w' hw => worksz_any _ (Lib.hid (HT.out.gr (Gr.trans HB.out hw)))) ?_
  refine tk ?_
  refine nlD hT HF fun vw10 HG => ?_
  clear hT T HF lx5 lx6 lx11 lx12 lx13 lx15 lx16 lx17 HB
  go_wp2
  refine hK.out _ _ ?_; clear hK K
  show Code.wp _ _ _ _ _
  refine fH (((((((((HG.out).er 7).er 6).er 5).er 4).er 3).er 2).er 1).er 0) fun Wx13 HF => ?_
  clear HG
  clear ht20 hd3
  refine wp_ret ?_
  try simp only [Exit.then, Exit.inBlock]
  exact bodyPost_ret (v := .bool true) (by simp [results, Tryz.results17, go_sem]) rfl ⟨rfl, HF.out.1⟩

set_option maxRecDepth 100000 in
set_option maxHeartbeats 4000000 in
theorem dvz_big1 (bbx : Bool) (vx : Value) (kx : Nat) (fx : Nat → Nat) (mx : Nat) (bby : Bool) (vy : Value) (ky : Nat) (fy : Nat → Nat) (my : Nat) (bbz : Bool) (vz : Value) (kz : Nat) (fz : Nat → Nat) (mz : Nat) (a b c : Int)  (w : World) (HWx : Hid (Wa w vx kx fx)) (HFx : Hid (∀ i, i < kx → fx i < 4294967296)) (HVx : Hid (vl fx kx = mx)) (HAx : Hid ((if bbx then -((mx : Nat) : Int) else ((mx : Nat) : Int)) = a)) (HWy : Hid (Wa w vy ky fy)) (HFy : Hid (∀ i, i < ky → fy i < 4294967296)) (HVy : Hid (vl fy ky = my)) (HAy : Hid ((if bby then -((my : Nat) : Int) else ((my : Nat) : Int)) = b)) (HWz : Hid (Wa w vz kz fz)) (HFz : Hid (∀ i, i < kz → fz i < 4294967296)) (HVz : Hid (vl fz kz = mz)) (HAz : Hid ((if bbz then -((mz : Nat) : Int) else ((mz : Nat) : Int)) = c))  (hkx : 16 < kx) (HT : Hid (Tab w)) :
    Calls Tryz.prog 17 #[.agg #[.bool bbx, vx], .agg #[.bool bby, vy], .agg #[.bool bbz, vz]] w fun e w' => e = .returned (.bool true) ∧ Below w.heap.size w w' := by
  obtain ⟨ao_x, c_x, rfl⟩ := HWx.out.slice
  obtain ⟨ao_y, c_y, rfl⟩ := HWy.out.slice
  obtain ⟨ao_z, c_z, rfl⟩ := HWz.out.slice
  go_enter Tryz.func17, Tryz.ntmps17
  have HF := Lib.hid (hp0 w)
  refine kS fun K hK => ?_
  refine wp_region_lit ?_
  go_wp2
  refine hK.out _ _ ?_; clear hK K
  show Code.wp _ _ _ _ _
  refine fH ((((HF.out).al (b := w.heap.size) (by first | rfl | simp) (by decide)).al (b := w.heap.size + 1) (by first | rfl | simp) (by decide)).al (b := w.heap.size + 1 + 1) (by first | rfl | simp) (by decide)) fun Wx0 HG => ?_
  clear HF; have HF := HG; clear HG
  generalize w.heap.size + 1 + 1 = gx2 at *
  generalize w.heap.size + 1 = gx1 at *
  refine wp_seq ?_
  have lx0 := HF.out.c 0 rfl
  have lx1 := HF.out.c 1 rfl
  have lx2 := HF.out.c 2 rfl
  refine kS fun K hK => ?_
  have HG0 : Hid (Gr Wx0 Wx0) := Lib.hid (Gr.refl _)
  refine sq 6 [(true, 0), (true, 1), (true, 2), (false, 3), (true, 4), (true, 5)] fun T hT => ?_
  iterate 3 refine tk ?_
  refine wpPlan_slice (cs := #[.bool (bbx), (.slice ao_x kx c_x), .bool (bby), (.slice ao_y ky c_y), .bool (bbz), (.slice ao_z kz c_z)]) (E := 25) (n := 3) rfl (by rfl) (fun w' hw => ?_) (fun gx4 vv4 hg0 yx4 bx4 => ?_)
  · go_simp
  clear yx4
  replace HG0 := Lib.hid (HG0.out.trans hg0)
  have HGS := Lib.hid hg0; clear hg0
  clear HGS
  have BX4 := Lib.hid bx4; clear bx4
  clear lx0; have lx0 := fun w' (h : Gr _ w') => HF.out.c 0 rfl w' (HG0.out.trans h)
  clear lx1; have lx1 := fun w' (h : Gr _ w') => HF.out.c 1 rfl w' (HG0.out.trans h)
  clear lx2; have lx2 := fun w' (h : Gr _ w') => HF.out.c 2 rfl w' (HG0.out.trans h)
  simp only [Act.put, lA, lB, lC]
  refine ck Tryz.call104 (fun w' hw => few3_no0 _ _ _ _ _ _ _ _ _ _ _ _ 16 gx4 _ (BX4.out.gr hw) (by omega)) ?_
  refine tk ?_
  refine wpPlan_nil (hT.out _ _ ?_)
  intro vw1 hg
  simp only [puts, Act.put, lA, lB, lC, lD, lE, ↓reduceIte, Nat.reduceEqDiff]
  have HG := Lib.hid (HF.out.gr (HG0.out.trans hg))
  clear hT T HF hg HG0 BX4 lx0 lx1 lx2
  go_wp2
  refine hK.out _ _ ?_; clear hK K
  show Code.wp _ _ _ _ _
  have HF := HG; clear HG
  refine wp_cond_true (by rfl) ?_
  have HB := HPb HF
  refine kS fun K hK => ?_
  refine sq 2 [(true, 0), (true, 1)] fun T hT => ?_
  refine ck Tryz.call23 (fun w' hw => worksz_any _ (Lib.hid (HT.out.gr (Gr.trans HB.out hw)))) ?_
  refine tk ?_
  refine nlS hT HF fun vw2 HG => ?_
  clear hT T HF HB
  go_wp2
  refine hK.out _ _ ?_; clear hK K
  show Code.wp _ _ _ _ _
  have HF := HG; clear HG
  refine wp_ret ?_
  try simp only [Exit.then, Exit.inBlock]
  exact bodyPost_ret (v := .bool true) (by simp [results, Tryz.results17, go_sem]) rfl ⟨rfl, HF.out.1⟩

set_option maxRecDepth 100000 in
set_option maxHeartbeats 4000000 in
theorem dvz_big2 (bbx : Bool) (vx : Value) (kx : Nat) (fx : Nat → Nat) (mx : Nat) (bby : Bool) (vy : Value) (ky : Nat) (fy : Nat → Nat) (my : Nat) (bbz : Bool) (vz : Value) (kz : Nat) (fz : Nat → Nat) (mz : Nat) (a b c : Int)  (w : World) (HWx : Hid (Wa w vx kx fx)) (HFx : Hid (∀ i, i < kx → fx i < 4294967296)) (HVx : Hid (vl fx kx = mx)) (HAx : Hid ((if bbx then -((mx : Nat) : Int) else ((mx : Nat) : Int)) = a)) (HWy : Hid (Wa w vy ky fy)) (HFy : Hid (∀ i, i < ky → fy i < 4294967296)) (HVy : Hid (vl fy ky = my)) (HAy : Hid ((if bby then -((my : Nat) : Int) else ((my : Nat) : Int)) = b)) (HWz : Hid (Wa w vz kz fz)) (HFz : Hid (∀ i, i < kz → fz i < 4294967296)) (HVz : Hid (vl fz kz = mz)) (HAz : Hid ((if bbz then -((mz : Nat) : Int) else ((mz : Nat) : Int)) = c)) (hkx : kx ≤ 16) (hky : 16 < ky) (HT : Hid (Tab w)) :
    Calls Tryz.prog 17 #[.agg #[.bool bbx, vx], .agg #[.bool bby, vy], .agg #[.bool bbz, vz]] w fun e w' => e = .returned (.bool true) ∧ Below w.heap.size w w' := by
  obtain ⟨ao_x, c_x, rfl⟩ := HWx.out.slice
  obtain ⟨ao_y, c_y, rfl⟩ := HWy.out.slice
  obtain ⟨ao_z, c_z, rfl⟩ := HWz.out.slice
  go_enter Tryz.func17, Tryz.ntmps17
  have HF := Lib.hid (hp0 w)
  refine kS fun K hK => ?_
  refine wp_region_lit ?_
  go_wp2
  refine hK.out _ _ ?_; clear hK K
  show Code.wp _ _ _ _ _
  refine fH ((((HF.out).al (b := w.heap.size) (by first | rfl | simp) (by decide)).al (b := w.heap.size + 1) (by first | rfl | simp) (by decide)).al (b := w.heap.size + 1 + 1) (by first | rfl | simp) (by decide)) fun Wx0 HG => ?_
  clear HF; have HF := HG; clear HG
  generalize w.heap.size + 1 + 1 = gx2 at *
  generalize w.heap.size + 1 = gx1 at *
  refine wp_seq ?_
  have lx0 := HF.out.c 0 rfl
  have lx1 := HF.out.c 1 rfl
  have lx2 := HF.out.c 2 rfl
  refine kS fun K hK => ?_
  have HG0 : Hid (Gr Wx0 Wx0) := Lib.hid (Gr.refl _)
  refine sq 6 [(true, 0), (true, 1), (true, 2), (false, 3), (true, 4), (true, 5)] fun T hT => ?_
  iterate 3 refine tk ?_
  refine wpPlan_slice (cs := #[.bool (bbx), (.slice ao_x kx c_x), .bool (bby), (.slice ao_y ky c_y), .bool (bbz), (.slice ao_z kz c_z)]) (E := 25) (n := 3) rfl (by rfl) (fun w' hw => ?_) (fun gx4 vv4 hg0 yx4 bx4 => ?_)
  · go_simp
  clear yx4
  replace HG0 := Lib.hid (HG0.out.trans hg0)
  have HGS := Lib.hid hg0; clear hg0
  clear HGS
  have BX4 := Lib.hid bx4; clear bx4
  clear lx0; have lx0 := fun w' (h : Gr _ w') => HF.out.c 0 rfl w' (HG0.out.trans h)
  clear lx1; have lx1 := fun w' (h : Gr _ w') => HF.out.c 1 rfl w' (HG0.out.trans h)
  clear lx2; have lx2 := fun w' (h : Gr _ w') => HF.out.c 2 rfl w' (HG0.out.trans h)
  simp only [Act.put, lA, lB, lC]
  refine ck Tryz.call104 (fun w' hw => few3_no1 _ _ _ _ _ _ _ _ _ _ _ _ 16 gx4 _ (BX4.out.gr hw) (by omega) (by omega)) ?_
  refine tk ?_
  refine wpPlan_nil (hT.out _ _ ?_)
  intro vw1 hg
  simp only [puts, Act.put, lA, lB, lC, lD, lE, ↓reduceIte, Nat.reduceEqDiff]
  have HG := Lib.hid (HF.out.gr (HG0.out.trans hg))
  clear hT T HF hg HG0 BX4 lx0 lx1 lx2
  go_wp2
  refine hK.out _ _ ?_; clear hK K
  show Code.wp _ _ _ _ _
  have HF := HG; clear HG
  refine wp_cond_true (by rfl) ?_
  have HB := HPb HF
  refine kS fun K hK => ?_
  refine sq 2 [(true, 0), (true, 1)] fun T hT => ?_
  refine ck Tryz.call23 (fun w' hw => worksz_any _ (Lib.hid (HT.out.gr (Gr.trans HB.out hw)))) ?_
  refine tk ?_
  refine nlS hT HF fun vw2 HG => ?_
  clear hT T HF HB
  go_wp2
  refine hK.out _ _ ?_; clear hK K
  show Code.wp _ _ _ _ _
  have HF := HG; clear HG
  refine wp_ret ?_
  try simp only [Exit.then, Exit.inBlock]
  exact bodyPost_ret (v := .bool true) (by simp [results, Tryz.results17, go_sem]) rfl ⟨rfl, HF.out.1⟩

set_option maxRecDepth 100000 in
set_option maxHeartbeats 4000000 in
theorem dvz_big3 (bbx : Bool) (vx : Value) (kx : Nat) (fx : Nat → Nat) (mx : Nat) (bby : Bool) (vy : Value) (ky : Nat) (fy : Nat → Nat) (my : Nat) (bbz : Bool) (vz : Value) (kz : Nat) (fz : Nat → Nat) (mz : Nat) (a b c : Int)  (w : World) (HWx : Hid (Wa w vx kx fx)) (HFx : Hid (∀ i, i < kx → fx i < 4294967296)) (HVx : Hid (vl fx kx = mx)) (HAx : Hid ((if bbx then -((mx : Nat) : Int) else ((mx : Nat) : Int)) = a)) (HWy : Hid (Wa w vy ky fy)) (HFy : Hid (∀ i, i < ky → fy i < 4294967296)) (HVy : Hid (vl fy ky = my)) (HAy : Hid ((if bby then -((my : Nat) : Int) else ((my : Nat) : Int)) = b)) (HWz : Hid (Wa w vz kz fz)) (HFz : Hid (∀ i, i < kz → fz i < 4294967296)) (HVz : Hid (vl fz kz = mz)) (HAz : Hid ((if bbz then -((mz : Nat) : Int) else ((mz : Nat) : Int)) = c)) (hkx : kx ≤ 16) (hky : ky ≤ 16) (hkz : 16 < kz) (HT : Hid (Tab w)) :
    Calls Tryz.prog 17 #[.agg #[.bool bbx, vx], .agg #[.bool bby, vy], .agg #[.bool bbz, vz]] w fun e w' => e = .returned (.bool true) ∧ Below w.heap.size w w' := by
  obtain ⟨ao_x, c_x, rfl⟩ := HWx.out.slice
  obtain ⟨ao_y, c_y, rfl⟩ := HWy.out.slice
  obtain ⟨ao_z, c_z, rfl⟩ := HWz.out.slice
  go_enter Tryz.func17, Tryz.ntmps17
  have HF := Lib.hid (hp0 w)
  refine kS fun K hK => ?_
  refine wp_region_lit ?_
  go_wp2
  refine hK.out _ _ ?_; clear hK K
  show Code.wp _ _ _ _ _
  refine fH ((((HF.out).al (b := w.heap.size) (by first | rfl | simp) (by decide)).al (b := w.heap.size + 1) (by first | rfl | simp) (by decide)).al (b := w.heap.size + 1 + 1) (by first | rfl | simp) (by decide)) fun Wx0 HG => ?_
  clear HF; have HF := HG; clear HG
  generalize w.heap.size + 1 + 1 = gx2 at *
  generalize w.heap.size + 1 = gx1 at *
  refine wp_seq ?_
  have lx0 := HF.out.c 0 rfl
  have lx1 := HF.out.c 1 rfl
  have lx2 := HF.out.c 2 rfl
  refine kS fun K hK => ?_
  have HG0 : Hid (Gr Wx0 Wx0) := Lib.hid (Gr.refl _)
  refine sq 6 [(true, 0), (true, 1), (true, 2), (false, 3), (true, 4), (true, 5)] fun T hT => ?_
  iterate 3 refine tk ?_
  refine wpPlan_slice (cs := #[.bool (bbx), (.slice ao_x kx c_x), .bool (bby), (.slice ao_y ky c_y), .bool (bbz), (.slice ao_z kz c_z)]) (E := 25) (n := 3) rfl (by rfl) (fun w' hw => ?_) (fun gx4 vv4 hg0 yx4 bx4 => ?_)
  · go_simp
  clear yx4
  replace HG0 := Lib.hid (HG0.out.trans hg0)
  have HGS := Lib.hid hg0; clear hg0
  clear HGS
  have BX4 := Lib.hid bx4; clear bx4
  clear lx0; have lx0 := fun w' (h : Gr _ w') => HF.out.c 0 rfl w' (HG0.out.trans h)
  clear lx1; have lx1 := fun w' (h : Gr _ w') => HF.out.c 1 rfl w' (HG0.out.trans h)
  clear lx2; have lx2 := fun w' (h : Gr _ w') => HF.out.c 2 rfl w' (HG0.out.trans h)
  simp only [Act.put, lA, lB, lC]
  refine ck Tryz.call104 (fun w' hw => few3_no2 _ _ _ _ _ _ _ _ _ _ _ _ 16 gx4 _ (BX4.out.gr hw) (by omega) (by omega) (by omega)) ?_
  refine tk ?_
  refine wpPlan_nil (hT.out _ _ ?_)
  intro vw1 hg
  simp only [puts, Act.put, lA, lB, lC, lD, lE, ↓reduceIte, Nat.reduceEqDiff]
  have HG := Lib.hid (HF.out.gr (HG0.out.trans hg))
  clear hT T HF hg HG0 BX4 lx0 lx1 lx2
  go_wp2
  refine hK.out _ _ ?_; clear hK K
  show Code.wp _ _ _ _ _
  have HF := HG; clear HG
  refine wp_cond_true (by rfl) ?_
  have HB := HPb HF
  refine kS fun K hK => ?_
  refine sq 2 [(true, 0), (true, 1)] fun T hT => ?_
  refine ck Tryz.call23 (fun w' hw => worksz_any _ (Lib.hid (HT.out.gr (Gr.trans HB.out hw)))) ?_
  refine tk ?_
  refine nlS hT HF fun vw2 HG => ?_
  clear hT T HF HB
  go_wp2
  refine hK.out _ _ ?_; clear hK K
  show Code.wp _ _ _ _ _
  have HF := HG; clear HG
  refine wp_ret ?_
  try simp only [Exit.then, Exit.inBlock]
  exact bodyPost_ret (v := .bool true) (by simp [results, Tryz.results17, go_sem]) rfl ⟨rfl, HF.out.1⟩

theorem dvz_law (bbx : Bool) (vx : Value) (kx : Nat) (fx : Nat → Nat) (bby : Bool) (vy : Value) (ky : Nat) (fy : Nat → Nat) (bbz : Bool) (vz : Value) (kz : Nat) (fz : Nat → Nat) (w : World) (HWx : Hid (Wa w vx kx fx)) (HFx : Hid (∀ i, i < kx → fx i < 4294967296)) (HWy : Hid (Wa w vy ky fy)) (HFy : Hid (∀ i, i < ky → fy i < 4294967296)) (HWz : Hid (Wa w vz kz fz)) (HFz : Hid (∀ i, i < kz → fz i < 4294967296)) (HT : Hid (Tab w)) :
    Calls Tryz.prog 17 #[.agg #[.bool bbx, vx], .agg #[.bool bby, vy], .agg #[.bool bbz, vz]] w fun e w' => e = .returned (.bool true) ∧ Below w.heap.size w w' := by
  obtain ⟨a, ha⟩ : ∃ z, Hid ((if bbx then -((vl fx kx : Nat) : Int) else ((vl fx kx : Nat) : Int)) = z) := ⟨_, Lib.hid rfl⟩
  obtain ⟨b, hb⟩ : ∃ z, Hid ((if bby then -((vl fy ky : Nat) : Int) else ((vl fy ky : Nat) : Int)) = z) := ⟨_, Lib.hid rfl⟩
  obtain ⟨c, hc⟩ : ∃ z, Hid ((if bbz then -((vl fz kz : Nat) : Int) else ((vl fz kz : Nat) : Int)) = z) := ⟨_, Lib.hid rfl⟩
  by_cases hkx : kx ≤ 16
  · skip
    by_cases hky : ky ≤ 16
    · skip
      by_cases hkz : kz ≤ 16
      · skip
        by_cases h : b = 0
        · subst h
          exact dvz_zero bbx vx kx fx _ bby vy ky fy _ bbz vz kz fz _ a c w HWx HFx (Lib.hid rfl) ha HWy HFy (Lib.hid rfl) hb HWz HFz (Lib.hid rfl) hc hkx hky hkz HT
        · exact dvz_pos bbx vx kx fx _ bby vy ky fy _ bbz vz kz fz _ a b c w HWx HFx (Lib.hid rfl) ha HWy HFy (Lib.hid rfl) hb HWz HFz (Lib.hid rfl) hc hkx hky hkz h HT
      · exact dvz_big3 bbx vx kx fx _ bby vy ky fy _ bbz vz kz fz _ a b c w HWx HFx (Lib.hid rfl) ha HWy HFy (Lib.hid rfl) hb HWz HFz (Lib.hid rfl) hc hkx hky (by omega) HT
    · exact dvz_big2 bbx vx kx fx _ bby vy ky fy _ bbz vz kz fz _ a b c w HWx HFx (Lib.hid rfl) ha HWy HFy (Lib.hid rfl) hb HWz HFz (Lib.hid rfl) hc hkx (by omega) HT
  · exact dvz_big1 bbx vx kx fx _ bby vy ky fy _ bbz vz kz fz _ a b c w HWx HFx (Lib.hid rfl) ha HWy HFy (Lib.hid rfl) hb HWz HFz (Lib.hid rfl) hc  (by omega) HT

end Go.Proofs.YtpcfncbcpknobaaGreatDoor
