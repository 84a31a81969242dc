
/- IntsDivs: the law's walk. -/
import Derived.Test.YtpcfncbcpknobaaGreatDoorWorksZ
namespace Go.Proofs.YtpcfncbcpknobaaGreatDoor
open Go.RowKit
set_option linter.unusedSimpArgs false
set_option linter.unusedVariables false
attribute [local go_sem ↓] Go.wp_at_zero Go.wp_at_succ
attribute [local go_sem ↓] eq_nat eq_nat_zero eq_int
set_option maxRecDepth 100000 in
set_option maxHeartbeats 4000000 in
theorem divz_zero (bbx : Bool) (vx : Value) (kx : Nat) (fx : Nat → Nat) (mx : Nat) (bby : Bool) (vy : Value) (ky : Nat) (fy : Nat → Nat) (my : Nat) (a : Int)  (w : World) (HWx : Hid (Wa w vx kx fx)) (HFx : Hid (∀ i, i < kx → fx i < 4294967296)) (HVx : Hid (vl fx kx = mx)) (HAx : Hid ((if bbx then -((mx : Nat) : Int) else ((mx : Nat) : Int)) = a)) (HWy : Hid (Wa w vy ky fy)) (HFy : Hid (∀ i, i < ky → fy i < 4294967296)) (HVy : Hid (vl fy ky = my)) (HAy : Hid ((if bby then -((my : Nat) : Int) else ((my : Nat) : Int)) = 0)) (hkx : kx ≤ 10) (hky : ky ≤ 10) (HT : Hid (Tab w)) :
    Calls Tryz.prog 16 #[.agg #[.bool bbx, vx], .agg #[.bool bby, vy]] w fun e w' => e = .returned (.bool true) ∧ Below w.heap.size w w' := by
  obtain ⟨ao_x, c_x, rfl⟩ := HWx.out.slice
  obtain ⟨ao_y, c_y, rfl⟩ := HWy.out.slice
  have hm_x : wl mx ≤ 10 := by rw [← HVx.out]; have := wl_le.2 (vl_lt HFx.out); omega
  have hb_x : wl (Int.natAbs (a)) ≤ 10 := by rw [zsize HAx.out]; exact hm_x
  have ht_x : tw (Int.natAbs (a)) ≤ 30 := by have := tw_wl (Int.natAbs (a)); omega
  have hm_y : wl my ≤ 10 := by rw [← HVy.out]; have := wl_le.2 (vl_lt HFy.out); omega
  have hb_y : wl (Int.natAbs (0)) ≤ 10 := by rw [zsize HAy.out]; exact hm_y
  have ht_y : tw (Int.natAbs (0)) ≤ 30 := by have := tw_wl (Int.natAbs (0)); omega
  go_enter Tryz.func16, Tryz.ntmps16
  have HF := Lib.hid (hp0 w)
  refine kS fun K hK => ?_
  refine wp_region_lit ?_
  go_wp2
  refine hK.out _ _ ?_; clear hK K
  show Code.wp _ _ _ _ _
  refine fH (((HF.out).al (b := w.heap.size) (by first | rfl | simp) (by decide)).al (b := w.heap.size + 1) (by first | rfl | simp) (by decide)) fun Wx0 HG => ?_
  clear HF; have HF := HG; clear HG
  generalize w.heap.size + 1 = gx1 at *
  refine wp_seq ?_
  have lx0 := HF.out.c 0 rfl
  have lx1 := HF.out.c 1 rfl
  refine kS fun K hK => ?_
  have HG0 : Hid (Gr Wx0 Wx0) := Lib.hid (Gr.refl _)
  refine sq 5 [(true, 0), (true, 1), (false, 2), (true, 3), (true, 4)] fun T hT => ?_
  iterate 2 refine tk ?_
  refine wpPlan_slice (cs := #[.bool (bbx), (.slice ao_x kx c_x), .bool (bby), (.slice ao_y ky c_y)]) (E := 25) (n := 2) rfl (by rfl) (fun w' hw => ?_) (fun gx3 vv3 hg0 yx3 bx3 => ?_)
  · go_simp
  clear yx3
  replace HG0 := Lib.hid (HG0.out.trans hg0)
  have HGS := Lib.hid hg0; clear hg0
  clear HGS
  have BX3 := Lib.hid bx3; clear bx3
  clear lx0; have lx0 := fun w' (h : Gr _ w') => HF.out.c 0 rfl w' (HG0.out.trans h)
  clear lx1; have lx1 := fun w' (h : Gr _ w') => HF.out.c 1 rfl w' (HG0.out.trans h)
  simp only [Act.put, lA, lB, lC]
  refine ck Tryz.call104 (fun w' hw => few2_ok _ _ _ _ _ _ _ _ 10 gx3 _ (BX3.out.gr hw) (by omega) (by omega)) ?_
  refine tk ?_
  refine wpPlan_nil (hT.out _ _ ?_)
  intro vw1 hg
  simp only [puts, Act.put, lA, lB, lC, lD, lE, ↓reduceIte, Nat.reduceEqDiff]
  have HG := Lib.hid (HF.out.gr (HG0.out.trans hg))
  clear hT T HF hg HG0 BX3 lx0 lx1
  go_wp2
  refine hK.out _ _ ?_; clear hK K
  show Code.wp _ _ _ _ _
  have HF := HG; clear HG
  refine wp_cond_false (by rfl) ?_
  refine wp_skip ?_
  show Code.wp _ _ _ _ _
  have HB := HPb HF
  have lx0 := HF.out.c 0 rfl
  have lx1 := HF.out.c 1 rfl
  refine kS fun K hK => ?_
  have HG0 : Hid (Gr vw1 vw1) := Lib.hid (Gr.refl _)
  refine wp_region_plan 12 [8, 9, 10, 11] [] (fun i => if i = 8 then 5 else if i = 9 then 6 else if i = 10 then 7 else 8) (fun i => if i = 8 then .cells #[.int .u64 0, .string ⟨#[]⟩, .bool false] 38 else if i = 9 then .cells #[.int .u64 0, .string ⟨#[]⟩, .bool false] 38 else if i = 10 then .cells #[.bool false, .slice none 0 0] 60 else .cells #[.bool false, .slice none 0 0] 60) [(true, 0), (true, 2), (true, 4), (true, 6), (true, 1), (true, 3), (false, 5), (false, 7)] (by kernel_rfl) (by kernel_rfl) (by intro i hi; simp only [List.mem_cons, List.not_mem_nil, or_false] at hi; rcases hi with rfl | rfl | rfl | rfl <;> exact ⟨_, rfl, rfl, rfl, by simp, fun ρ w => by kernel_rfl⟩) (fun i hi => by cases hi) (fun _ _ _ _ _ h => h) (fun T hT => ?_)
  iterate 4 refine tk ?_
  refine ck Tryz.call19 (fun w' hw => zlof bbx kx fx mx a ao_x c_x w' (Lib.hid (HWx.out.gr (Gr.trans HB.out hw))) HFx HVx HAx om om) ?_
  refine ck Tryz.call19 (fun w' hw => zlof bby ky fy my 0 ao_y c_y w' (Lib.hid (HWy.out.gr (Gr.trans HB.out hw))) HFy HVy HAy om om) ?_
  refine wpPlan_callE rfl (by rfl) Tryz.call105 (by rfl) (fun w' hw => ((zlref bbx kx fx mx a ao_x c_x w' (Lib.hid (HWx.out.gr (Gr.trans HB.out hw))) HFx HVx HAx om om)).mono ?_)
  rintro e vv4 ⟨⟨rv1, rfl, bx4⟩, hg0⟩
  obtain ⟨ao1, nn1, cc1, rfl⟩ := Rn.sl bx4
  refine ⟨_, rfl, hg0, ?_⟩
  replace hg0 := Gr.trans hw hg0; clear hw
  replace HG0 := Lib.hid (HG0.out.trans hg0)
  have HGS := Lib.hid hg0; clear hg0
  replace HB := Lib.hid (HB.out.trans (HGS.out.mono HB.out.size))
  clear HGS
  have RN4 := Lib.hid bx4; clear bx4
  clear lx0; have lx0 := fun w' (h : Gr _ w') => HF.out.c 0 rfl w' (HG0.out.trans h)
  clear lx1; have lx1 := fun w' (h : Gr _ w') => HF.out.c 1 rfl w' (HG0.out.trans h)
  simp only [Act.put, lA, lB, lC]
  refine wpPlan_callE rfl (by rfl) Tryz.call105 (by rfl) (fun w' hw => ((zlref bby ky fy my 0 ao_y c_y w' (Lib.hid (HWy.out.gr (Gr.trans HB.out hw))) HFy HVy HAy om om)).mono ?_)
  rintro e vv5 ⟨⟨rv2, rfl, bx5⟩, hg0⟩
  obtain ⟨ao2, nn2, cc2, rfl⟩ := Rn.sl bx5
  refine ⟨_, rfl, hg0, ?_⟩
  replace hg0 := Gr.trans hw hg0; clear hw
  replace HG0 := Lib.hid (HG0.out.trans hg0)
  have HGS := Lib.hid hg0; clear hg0
  replace RN4 := Lib.hid (RN4.out.gr HGS.out)
  replace HB := Lib.hid (HB.out.trans (HGS.out.mono HB.out.size))
  clear HGS
  have RN5 := Lib.hid bx5; clear bx5
  clear lx0; have lx0 := fun w' (h : Gr _ w') => HF.out.c 0 rfl w' (HG0.out.trans h)
  clear lx1; have lx1 := fun w' (h : Gr _ w') => HF.out.c 1 rfl w' (HG0.out.trans h)
  simp only [Act.put, lA, lB, lC]
  refine wpPlan_nil (hT.out _ _ ?_)
  intro G vw2 hg hf
  simp only [puts, Act.put, lA, lB, lC, lD, lE, ↓reduceIte, Nat.reduceEqDiff]
  have HG := Lib.hid (((HF.out.fr (HG0.out.trans hg) hf (zs := [(#[.int .u64 0, .string ⟨#[]⟩, .bool false], 38), (#[.int .u64 0, .string ⟨#[]⟩, .bool false], 38), (#[.bool false, .slice none 0 0], 60), (#[.bool false, .slice none 0 0], 60)]) rfl (by decide) (by decide)).ar (RN4.out.gr hg)).ar (RN5.out.gr hg))
  simp only [List.zip_cons_cons, List.zip_nil_right, List.map_cons, List.map_nil, lF, lG] at HG
  clear hT T HF hg hf HG0 RN4 RN5 lx0 lx1 HB
  generalize G 8 = gx6 at *
  generalize G 9 = gx7 at *
  generalize G 10 = gx8 at *
  generalize G 11 = gx9 at *
  have lx6 := HG.out.c 2 rfl; have fx6 := HG.out.f 2 rfl
  have lx7 := HG.out.c 3 rfl; have fx7 := HG.out.f 3 rfl
  have lx8 := HG.out.c 4 rfl; have fx8 := HG.out.f 4 rfl
  have lx9 := HG.out.c 5 rfl; have fx9 := HG.out.f 5 rfl
  have r0 := Gr.refl vw2
  obtain ⟨d6_7, d7_6⟩ := HG.out.ne 2 3 rfl rfl (by decide)
  obtain ⟨d6_8, d8_6⟩ := HG.out.ne 2 4 rfl rfl (by decide)
  obtain ⟨d6_9, d9_6⟩ := HG.out.ne 2 5 rfl rfl (by decide)
  obtain ⟨d7_8, d8_7⟩ := HG.out.ne 3 4 rfl rfl (by decide)
  obtain ⟨d7_9, d9_7⟩ := HG.out.ne 3 5 rfl rfl (by decide)
  obtain ⟨d8_9, d9_8⟩ := HG.out.ne 4 5 rfl rfl (by decide)
  go_wp2
  refine hK.out _ _ ?_; clear hK K
  show Code.wp _ _ _ _ _
  clear r0 lx6 fx6 lx7 fx7 lx8 fx8 lx9 fx9 d6_7 d7_6 d6_8 d8_6 d6_9 d9_6 d7_8 d8_7 d7_9 d9_7 d8_9 d9_8
  refine fH (((((((((HG.out).put2 2 0 rfl).put 2 2 _ rfl).put2 3 0 rfl).put 3 2 _ rfl).put2 4 0 rfl).put2 5 0 rfl).er 1).er 0) fun Wx3 HF => ?_
  clear HG
  obtain ⟨u1, HZ1⟩ : ∃ z, Hid ((egcd (a) (0)).1 = z) := ⟨_, Lib.hid rfl⟩
  have su1 : wl (Int.natAbs (u1)) ≤ 14 := by rw [← HZ1.out]; have := wl_egcd (a := a) (b := 0) (M := 10) om om (by decide); omega
  obtain ⟨u2, HZ2⟩ : ∃ z, Hid ((egcd (a) (0)).2.1 = z) := ⟨_, Lib.hid rfl⟩
  have su2 : wl (Int.natAbs (u2)) ≤ 14 := by rw [← HZ2.out]; have := wl_egcd (a := a) (b := 0) (M := 10) om om (by decide); omega
  have HZ3 : Hid ((egcd (a) (0)).2.2 = 0) := Lib.hid (by first | exact ok | exact eg0 _ | (rw [egcd_zero]; done) | (rw [egcd_zero]; simp; done) | exact elt _ _ (by assumption) | exact zback _ | exact eg_comb _ _ | exact eg_abs _ _ | exact idv0 _ _ | exact idv1 _ _ _ (by assumption) | exact idv2 _ _ _ | (simp only [← HZ2.out, ← HZ1.out] <;> first | exact ok | exact eg0 _ | (rw [egcd_zero]; done) | (rw [egcd_zero]; simp; done) | exact elt _ _ (by assumption) | exact zback _ | exact eg_comb _ _ | exact eg_abs _ _ | exact idv0 _ _ | exact idv1 _ _ _ (by assumption) | exact idv2 _ _ _))
  have su3 : wl (Int.natAbs (0)) ≤ 14 := by have e := HZ3.out; first | omega | (rw [← e]; have := wl_egcd (a := a) (b := 0) (M := 10) om om (by decide); omega) | exact wl_le.2 (by decide +kernel)
  have lx6 := HF.out.c 0 rfl
  have lx7 := HF.out.c 1 rfl
  refine kS fun K hK => ?_
  refine sq 7 [(true, 0), (true, 1), (true, 2), (true, 3), (true, 4), (true, 5), (true, 6)] fun T hT => ?_
  iterate 2 refine tk ?_
  refine ck Tryz.call117 (fun w' hw => zigcd (a) (0) (u1) (u2) (0) _ HZ1.out HZ2.out HZ3.out om om) ?_
  iterate 4 refine tk ?_
  refine nlS hT HF fun vw3 HG => ?_
  clear hT T HF lx6 lx7
  go_wp2
  refine hK.out _ _ ?_; clear hK K
  show Code.wp _ _ _ _ _
  refine fH ((((HG.out).al (b := vw3.heap.size) (by first | rfl | simp) (by decide)).al (b := vw3.heap.size + 1) (by first | rfl | simp) (by decide)).al (b := vw3.heap.size + 1 + 1) (by first | rfl | simp) (by decide)) fun Wx4 HF => ?_
  clear HG
  generalize vw3.heap.size + 1 + 1 = gx12 at *
  generalize vw3.heap.size + 1 = gx11 at *
  generalize vw3.heap.size = gx10 at *
  have HZ4 : Hid ((egcd (a) (0)).1 = u1) := Lib.hid (by first | exact ok | exact eg0 _ | (rw [egcd_zero]; done) | (rw [egcd_zero]; simp; done) | exact elt _ _ (by assumption) | exact zback _ | exact eg_comb _ _ | exact eg_abs _ _ | exact idv0 _ _ | exact idv1 _ _ _ (by assumption) | exact idv2 _ _ _ | (simp only [← HZ2.out, ← HZ1.out] <;> first | exact ok | exact eg0 _ | (rw [egcd_zero]; done) | (rw [egcd_zero]; simp; done) | exact elt _ _ (by assumption) | exact zback _ | exact eg_comb _ _ | exact eg_abs _ _ | exact idv0 _ _ | exact idv1 _ _ _ (by assumption) | exact idv2 _ _ _))
  have su4 : tw (Int.natAbs (u1)) ≤ 34 := by have e := HZ4.out; first | omega | (rw [← e]; have := tw_egcd' (a := a) (b := 0) (M := 30) om om; omega)
  have HZ5 : Hid ((egcd (a) (0)).2.1 = u2) := Lib.hid (by first | exact ok | exact eg0 _ | (rw [egcd_zero]; done) | (rw [egcd_zero]; simp; done) | exact elt _ _ (by assumption) | exact zback _ | exact eg_comb _ _ | exact eg_abs _ _ | exact idv0 _ _ | exact idv1 _ _ _ (by assumption) | exact idv2 _ _ _ | (simp only [← HZ2.out, ← HZ1.out] <;> first | exact ok | exact eg0 _ | (rw [egcd_zero]; done) | (rw [egcd_zero]; simp; done) | exact elt _ _ (by assumption) | exact zback _ | exact eg_comb _ _ | exact eg_abs _ _ | exact idv0 _ _ | exact idv1 _ _ _ (by assumption) | exact idv2 _ _ _))
  have su5 : tw (Int.natAbs (u2)) ≤ 34 := by have e := HZ5.out; first | omega | (rw [← e]; have := tw_egcd' (a := a) (b := 0) (M := 30) om om; omega)
  have HZ6 : Hid ((egcd (a) (0)).2.2 = 0) := Lib.hid (by first | exact ok | exact eg0 _ | (rw [egcd_zero]; done) | (rw [egcd_zero]; simp; done) | exact elt _ _ (by assumption) | exact zback _ | exact eg_comb _ _ | exact eg_abs _ _ | exact idv0 _ _ | exact idv1 _ _ _ (by assumption) | exact idv2 _ _ _ | (simp only [← HZ2.out, ← HZ1.out] <;> first | exact ok | exact eg0 _ | (rw [egcd_zero]; done) | (rw [egcd_zero]; simp; done) | exact elt _ _ (by assumption) | exact zback _ | exact eg_comb _ _ | exact eg_abs _ _ | exact idv0 _ _ | exact idv1 _ _ _ (by assumption) | exact idv2 _ _ _))
  have su6 : tw (Int.natAbs (0)) ≤ 34 := by have e := HZ6.out; first | omega | (rw [← e]; have := tw_egcd' (a := a) (b := 0) (M := 30) om om; omega) | exact tw_le.2 (by decide +kernel)
  have lx8 := HF.out.c 2 rfl
  have lx9 := HF.out.c 3 rfl
  refine kS fun K hK => ?_
  have HG0 : Hid (Gr Wx4 Wx4) := Lib.hid (Gr.refl _)
  refine sq 7 [(true, 0), (true, 1), (false, 2), (true, 3), (true, 4), (true, 5), (true, 6)] fun T hT => ?_
  iterate 2 refine tk ?_
  refine wpPlan_callE rfl (by rfl) Tryz.call118 (by rfl) (fun w' hw => (zzgcd (a) (0) (u1) (u2) (0) _ _ _ HZ4.out HZ5.out HZ6.out (by omega) (by omega) (HF.out.r 4 rfl (HG0.out.trans hw)) (HF.out.r 5 rfl (HG0.out.trans hw))).mono ?_)
  rintro e vv13 ⟨⟨rv3, rv4, rv5, rfl, bx13, bx14, bx15⟩, hg0⟩
  obtain ⟨ao3, nn3, cc3, rfl⟩ := Rn.sl bx13
  obtain ⟨ao4, nn4, cc4, rfl⟩ := Rn.sl bx14
  obtain ⟨ao5, nn5, cc5, rfl⟩ := Rn.sl bx15
  refine ⟨_, rfl, hg0, ?_⟩
  replace hg0 := Gr.trans hw hg0; clear hw
  replace HG0 := Lib.hid (HG0.out.trans hg0)
  have HGS := Lib.hid hg0; clear hg0
  clear HGS
  have RN13 := Lib.hid bx13; clear bx13
  have RN14 := Lib.hid bx14; clear bx14
  have RN15 := Lib.hid bx15; clear bx15
  clear lx8; have lx8 := fun w' (h : Gr _ w') => HF.out.c 2 rfl w' (HG0.out.trans h)
  clear lx9; have lx9 := fun w' (h : Gr _ w') => HF.out.c 3 rfl w' (HG0.out.trans h)
  simp only [Act.put, lA, lB, lC]
  iterate 4 refine tk ?_
  refine wpPlan_nil (hT.out _ _ ?_)
  intro vw4 hg
  simp only [puts, Act.put, lA, lB, lC, lD, lE, ↓reduceIte, Nat.reduceEqDiff]
  have HG := Lib.hid ((((HF.out.gr (HG0.out.trans hg)).ar (RN13.out.gr hg)).ar (RN14.out.gr hg)).ar (RN15.out.gr hg))
  simp only [List.zip_cons_cons, List.zip_nil_right, List.map_cons, List.map_nil, lF, lG] at HG
  clear hT T HF hg HG0 RN13 RN14 RN15 lx8 lx9
  go_wp2
  refine hK.out _ _ ?_; clear hK K
  show Code.wp _ _ _ _ _
  refine fH ((((HG.out).al (b := vw4.heap.size) (by first | rfl | simp) (by decide)).al (b := vw4.heap.size + 1) (by first | rfl | simp) (by decide)).al (b := vw4.heap.size + 1 + 1) (by first | rfl | simp) (by decide)) fun Wx5 HF => ?_
  clear HG
  generalize vw4.heap.size + 1 + 1 = gx18 at *
  generalize vw4.heap.size + 1 = gx17 at *
  generalize vw4.heap.size = gx16 at *
  refine wp_seq ?_
  have HB := HPb HF
  have lx10 := HF.out.c 6 rfl
  have lx11 := HF.out.c 7 rfl
  have lx12 := HF.out.c 8 rfl
  have lx16 := HF.out.c 12 rfl
  have lx17 := HF.out.c 13 rfl
  have lx18 := HF.out.c 14 rfl
  refine kS fun K hK => ?_
  refine sq 16 [(true, 0), (true, 1), (true, 2), (true, 3), (true, 4), (true, 5), (true, 6), (true, 7), (true, 8), (true, 9), (true, 10), (true, 11), (true, 12), (true, 13), (true, 14), (true, 15)] fun T hT => ?_
  iterate 2 refine tk ?_
  refine ck Tryz.call107 (fun w' hw => samez_any (u1) (u1) _ _ (rfl) (HF.out.r 9 rfl hw) om om (Lib.hid (HT.out.gr (Gr.trans HB.out hw)))) ?_
  iterate 4 refine tk ?_
  refine ck Tryz.call107 (fun w' hw => samez_any (u2) (u2) _ _ (rfl) (HF.out.r 10 rfl hw) om om (Lib.hid (HT.out.gr (Gr.trans HB.out hw)))) ?_
  iterate 5 refine tk ?_
  refine ck Tryz.call107 (fun w' hw => samez_any (0) (0) _ _ (rfl) (HF.out.r 11 rfl hw) om om (Lib.hid (HT.out.gr (Gr.trans HB.out hw)))) ?_
  iterate 2 refine tk ?_
  refine nlS hT HF fun vw5 HG => ?_
  clear hT T HF lx10 lx11 lx12 lx16 lx17 lx18 HB
  go_wp2
  refine hK.out _ _ ?_; clear hK K
  show Code.wp _ _ _ _ _
  refine fH ((((((((((HG.out).er 14).er 13).er 12).er 11).er 10).er 9).er 8).er 7).er 6) fun Wx6 HF => ?_
  clear HG
  refine wp_cond_false (by rfl) ?_
  refine wp_skip ?_
  show Code.wp _ _ _ _ _
  have lx6 := HF.out.c 0 rfl
  have lx7 := HF.out.c 1 rfl
  refine kS fun K hK => ?_
  refine sq 7 [(true, 0), (true, 1), (true, 2), (true, 3), (true, 4), (true, 5), (true, 6)] fun T hT => ?_
  iterate 2 refine tk ?_
  refine ck Tryz.call103 (fun w' hw => zidivno (a) (0) _ (by first | exact ok | exact eg0 _ | (rw [egcd_zero]; done) | (rw [egcd_zero]; simp; done) | exact elt _ _ (by assumption) | exact zback _ | exact eg_comb _ _ | exact eg_abs _ _ | exact idv0 _ _ | exact idv1 _ _ _ (by assumption) | exact idv2 _ _ _ | (simp only [← HZ2.out, ← HZ1.out] <;> first | exact ok | exact eg0 _ | (rw [egcd_zero]; done) | (rw [egcd_zero]; simp; done) | exact elt _ _ (by assumption) | exact zback _ | exact eg_comb _ _ | exact eg_abs _ _ | exact idv0 _ _ | exact idv1 _ _ _ (by assumption) | exact idv2 _ _ _)) om om) ?_
  iterate 4 refine tk ?_
  refine nlS hT HF fun vw6 HG => ?_
  clear hT T HF lx6 lx7
  go_wp2
  refine hK.out _ _ ?_; clear hK K
  show Code.wp _ _ _ _ _
  refine fH (((((HG.out).al (b := vw6.heap.size) (by first | rfl | simp) (by decide)).al (b := vw6.heap.size + 1) (by first | rfl | simp) (by decide)).er 1).er 0) fun Wx8 HF => ?_
  clear HG
  generalize vw6.heap.size + 1 = gx20 at *
  generalize vw6.heap.size = gx19 at *
  refine wp_seq ?_
  have lx9 := HF.out.c 1 rfl
  refine kS fun K hK => ?_
  refine sq 3 [(true, 0), (true, 1), (true, 2)] fun T hT => ?_
  refine tk ?_
  refine ck Tryz.call115 (fun w' hw => zrsign (0) (0) _ _ (by have e9 : (0) = (0 : Int) := (by first | exact ok | exact eg0 _ | (rw [egcd_zero]; done) | (rw [egcd_zero]; simp; done) | exact elt _ _ (by assumption) | exact zback _ | exact eg_comb _ _ | exact eg_abs _ _ | exact idv0 _ _ | exact idv1 _ _ _ (by assumption) | exact idv2 _ _ _ | (simp only [← HZ2.out, ← HZ1.out] <;> first | exact ok | exact eg0 _ | (rw [egcd_zero]; done) | (rw [egcd_zero]; simp; done) | exact elt _ _ (by assumption) | exact zback _ | exact eg_comb _ _ | exact eg_abs _ _ | exact idv0 _ _ | exact idv1 _ _ _ (by assumption) | exact idv2 _ _ _)); exact sgI_eq e9) (HF.out.r 3 rfl hw)) ?_
  refine tk ?_
  refine nlS hT HF fun vw7 HG => ?_
  clear hT T HF lx9
  go_wp2
  refine hK.out _ _ ?_; clear hK K
  show Code.wp _ _ _ _ _
  have HF := HG; clear HG
  refine wp_cond_true (by rfl) ?_
  have HB := HPb HF
  have lx19 := HF.out.c 4 rfl
  have lx20 := HF.out.c 5 rfl
  refine kS fun K hK => ?_
  refine sq 14 [(true, 0), (true, 1), (true, 2), (true, 3), (true, 4), (true, 5), (true, 6), (true, 7), (true, 8), (true, 9), (true, 10), (true, 11), (true, 12), (true, 13)] fun T hT => ?_
  iterate 4 refine tk ?_
  refine ck Tryz.call119 (fun w' hw => is_any (0) (0) true _ (Lib.hid (decide_eq_true (by decide))) (by decide) (by decide)) ?_
  iterate 3 refine tk ?_
  refine ck Tryz.call119 (fun w' hw => is_any (0) (0) true _ (Lib.hid (decide_eq_true (by decide))) (by decide) (by decide)) ?_
  iterate 2 refine tk ?_
  refine ck Tryz.call23 (fun w' hw => worksz_any _ (Lib.hid (HT.out.gr (Gr.trans HB.out hw)))) ?_
  iterate 2 refine tk ?_
  refine nlS hT HF fun vw8 HG => ?_
  clear hT T HF lx19 lx20 HB
  go_wp2
  refine hK.out _ _ ?_; clear hK K
  show Code.wp _ _ _ _ _
  have HF := HG; clear HG
  refine wp_ret ?_
  try simp only [Exit.then, Exit.inBlock]
  exact bodyPost_ret (v := .bool true) (by simp [results, Tryz.results16, go_sem]) rfl ⟨rfl, HF.out.1⟩

set_option maxRecDepth 100000 in
set_option maxHeartbeats 4000000 in
theorem divz_pos (bbx : Bool) (vx : Value) (kx : Nat) (fx : Nat → Nat) (mx : Nat) (bby : Bool) (vy : Value) (ky : Nat) (fy : Nat → Nat) (my : Nat) (a b : Int) (tb : Int) (w : World) (HWx : Hid (Wa w vx kx fx)) (HFx : Hid (∀ i, i < kx → fx i < 4294967296)) (HVx : Hid (vl fx kx = mx)) (HAx : Hid ((if bbx then -((mx : Nat) : Int) else ((mx : Nat) : Int)) = a)) (HWy : Hid (Wa w vy ky fy)) (HFy : Hid (∀ i, i < ky → fy i < 4294967296)) (HVy : Hid (vl fy ky = my)) (HAy : Hid ((if bby then -((my : Nat) : Int) else ((my : Nat) : Int)) = b)) (hkx : kx ≤ 10) (hky : ky ≤ 10) (hb0 : b ≠ 0) (HTB : Hid (sgI b = tb)) (htb : ¬ tb = 0) (HT : Hid (Tab w)) :
    Calls Tryz.prog 16 #[.agg #[.bool bbx, vx], .agg #[.bool bby, vy]] w fun e w' => e = .returned (.bool true) ∧ Below w.heap.size w w' := by
  obtain ⟨ao_x, c_x, rfl⟩ := HWx.out.slice
  obtain ⟨ao_y, c_y, rfl⟩ := HWy.out.slice
  have hm_x : wl mx ≤ 10 := by rw [← HVx.out]; have := wl_le.2 (vl_lt HFx.out); omega
  have hb_x : wl (Int.natAbs (a)) ≤ 10 := by rw [zsize HAx.out]; exact hm_x
  have ht_x : tw (Int.natAbs (a)) ≤ 30 := by have := tw_wl (Int.natAbs (a)); omega
  have hm_y : wl my ≤ 10 := by rw [← HVy.out]; have := wl_le.2 (vl_lt HFy.out); omega
  have hb_y : wl (Int.natAbs (b)) ≤ 10 := by rw [zsize HAy.out]; exact hm_y
  have ht_y : tw (Int.natAbs (b)) ≤ 30 := by have := tw_wl (Int.natAbs (b)); omega
  go_enter Tryz.func16, Tryz.ntmps16
  have HF := Lib.hid (hp0 w)
  refine kS fun K hK => ?_
  refine wp_region_lit ?_
  go_wp2
  refine hK.out _ _ ?_; clear hK K
  show Code.wp _ _ _ _ _
  refine fH (((HF.out).al (b := w.heap.size) (by first | rfl | simp) (by decide)).al (b := w.heap.size + 1) (by first | rfl | simp) (by decide)) fun Wx0 HG => ?_
  clear HF; have HF := HG; clear HG
  generalize w.heap.size + 1 = gx1 at *
  refine wp_seq ?_
  have lx0 := HF.out.c 0 rfl
  have lx1 := HF.out.c 1 rfl
  refine kS fun K hK => ?_
  have HG0 : Hid (Gr Wx0 Wx0) := Lib.hid (Gr.refl _)
  refine sq 5 [(true, 0), (true, 1), (false, 2), (true, 3), (true, 4)] fun T hT => ?_
  iterate 2 refine tk ?_
  refine wpPlan_slice (cs := #[.bool (bbx), (.slice ao_x kx c_x), .bool (bby), (.slice ao_y ky c_y)]) (E := 25) (n := 2) rfl (by rfl) (fun w' hw => ?_) (fun gx3 vv3 hg0 yx3 bx3 => ?_)
  · go_simp
  clear yx3
  replace HG0 := Lib.hid (HG0.out.trans hg0)
  have HGS := Lib.hid hg0; clear hg0
  clear HGS
  have BX3 := Lib.hid bx3; clear bx3
  clear lx0; have lx0 := fun w' (h : Gr _ w') => HF.out.c 0 rfl w' (HG0.out.trans h)
  clear lx1; have lx1 := fun w' (h : Gr _ w') => HF.out.c 1 rfl w' (HG0.out.trans h)
  simp only [Act.put, lA, lB, lC]
  refine ck Tryz.call104 (fun w' hw => few2_ok _ _ _ _ _ _ _ _ 10 gx3 _ (BX3.out.gr hw) (by omega) (by omega)) ?_
  refine tk ?_
  refine wpPlan_nil (hT.out _ _ ?_)
  intro vw1 hg
  simp only [puts, Act.put, lA, lB, lC, lD, lE, ↓reduceIte, Nat.reduceEqDiff]
  have HG := Lib.hid (HF.out.gr (HG0.out.trans hg))
  clear hT T HF hg HG0 BX3 lx0 lx1
  go_wp2
  refine hK.out _ _ ?_; clear hK K
  show Code.wp _ _ _ _ _
  have HF := HG; clear HG
  refine wp_cond_false (by rfl) ?_
  refine wp_skip ?_
  show Code.wp _ _ _ _ _
  have HB := HPb HF
  have lx0 := HF.out.c 0 rfl
  have lx1 := HF.out.c 1 rfl
  refine kS fun K hK => ?_
  have HG0 : Hid (Gr vw1 vw1) := Lib.hid (Gr.refl _)
  refine wp_region_plan 12 [8, 9, 10, 11] [] (fun i => if i = 8 then 5 else if i = 9 then 6 else if i = 10 then 7 else 8) (fun i => if i = 8 then .cells #[.int .u64 0, .string ⟨#[]⟩, .bool false] 38 else if i = 9 then .cells #[.int .u64 0, .string ⟨#[]⟩, .bool false] 38 else if i = 10 then .cells #[.bool false, .slice none 0 0] 60 else .cells #[.bool false, .slice none 0 0] 60) [(true, 0), (true, 2), (true, 4), (true, 6), (true, 1), (true, 3), (false, 5), (false, 7)] (by kernel_rfl) (by kernel_rfl) (by intro i hi; simp only [List.mem_cons, List.not_mem_nil, or_false] at hi; rcases hi with rfl | rfl | rfl | rfl <;> exact ⟨_, rfl, rfl, rfl, by simp, fun ρ w => by kernel_rfl⟩) (fun i hi => by cases hi) (fun _ _ _ _ _ h => h) (fun T hT => ?_)
  iterate 4 refine tk ?_
  refine ck Tryz.call19 (fun w' hw => zlof bbx kx fx mx a ao_x c_x w' (Lib.hid (HWx.out.gr (Gr.trans HB.out hw))) HFx HVx HAx om om) ?_
  refine ck Tryz.call19 (fun w' hw => zlof bby ky fy my b ao_y c_y w' (Lib.hid (HWy.out.gr (Gr.trans HB.out hw))) HFy HVy HAy om om) ?_
  refine wpPlan_callE rfl (by rfl) Tryz.call105 (by rfl) (fun w' hw => ((zlref bbx kx fx mx a ao_x c_x w' (Lib.hid (HWx.out.gr (Gr.trans HB.out hw))) HFx HVx HAx om om)).mono ?_)
  rintro e vv4 ⟨⟨rv1, rfl, bx4⟩, hg0⟩
  obtain ⟨ao1, nn1, cc1, rfl⟩ := Rn.sl bx4
  refine ⟨_, rfl, hg0, ?_⟩
  replace hg0 := Gr.trans hw hg0; clear hw
  replace HG0 := Lib.hid (HG0.out.trans hg0)
  have HGS := Lib.hid hg0; clear hg0
  replace HB := Lib.hid (HB.out.trans (HGS.out.mono HB.out.size))
  clear HGS
  have RN4 := Lib.hid bx4; clear bx4
  clear lx0; have lx0 := fun w' (h : Gr _ w') => HF.out.c 0 rfl w' (HG0.out.trans h)
  clear lx1; have lx1 := fun w' (h : Gr _ w') => HF.out.c 1 rfl w' (HG0.out.trans h)
  simp only [Act.put, lA, lB, lC]
  refine wpPlan_callE rfl (by rfl) Tryz.call105 (by rfl) (fun w' hw => ((zlref bby ky fy my b ao_y c_y w' (Lib.hid (HWy.out.gr (Gr.trans HB.out hw))) HFy HVy HAy om om)).mono ?_)
  rintro e vv5 ⟨⟨rv2, rfl, bx5⟩, hg0⟩
  obtain ⟨ao2, nn2, cc2, rfl⟩ := Rn.sl bx5
  refine ⟨_, rfl, hg0, ?_⟩
  replace hg0 := Gr.trans hw hg0; clear hw
  replace HG0 := Lib.hid (HG0.out.trans hg0)
  have HGS := Lib.hid hg0; clear hg0
  replace RN4 := Lib.hid (RN4.out.gr HGS.out)
  replace HB := Lib.hid (HB.out.trans (HGS.out.mono HB.out.size))
  clear HGS
  have RN5 := Lib.hid bx5; clear bx5
  clear lx0; have lx0 := fun w' (h : Gr _ w') => HF.out.c 0 rfl w' (HG0.out.trans h)
  clear lx1; have lx1 := fun w' (h : Gr _ w') => HF.out.c 1 rfl w' (HG0.out.trans h)
  simp only [Act.put, lA, lB, lC]
  refine wpPlan_nil (hT.out _ _ ?_)
  intro G vw2 hg hf
  simp only [puts, Act.put, lA, lB, lC, lD, lE, ↓reduceIte, Nat.reduceEqDiff]
  have HG := Lib.hid (((HF.out.fr (HG0.out.trans hg) hf (zs := [(#[.int .u64 0, .string ⟨#[]⟩, .bool false], 38), (#[.int .u64 0, .string ⟨#[]⟩, .bool false], 38), (#[.bool false, .slice none 0 0], 60), (#[.bool false, .slice none 0 0], 60)]) rfl (by decide) (by decide)).ar (RN4.out.gr hg)).ar (RN5.out.gr hg))
  simp only [List.zip_cons_cons, List.zip_nil_right, List.map_cons, List.map_nil, lF, lG] at HG
  clear hT T HF hg hf HG0 RN4 RN5 lx0 lx1 HB
  generalize G 8 = gx6 at *
  generalize G 9 = gx7 at *
  generalize G 10 = gx8 at *
  generalize G 11 = gx9 at *
  have lx6 := HG.out.c 2 rfl; have fx6 := HG.out.f 2 rfl
  have lx7 := HG.out.c 3 rfl; have fx7 := HG.out.f 3 rfl
  have lx8 := HG.out.c 4 rfl; have fx8 := HG.out.f 4 rfl
  have lx9 := HG.out.c 5 rfl; have fx9 := HG.out.f 5 rfl
  have r0 := Gr.refl vw2
  obtain ⟨d6_7, d7_6⟩ := HG.out.ne 2 3 rfl rfl (by decide)
  obtain ⟨d6_8, d8_6⟩ := HG.out.ne 2 4 rfl rfl (by decide)
  obtain ⟨d6_9, d9_6⟩ := HG.out.ne 2 5 rfl rfl (by decide)
  obtain ⟨d7_8, d8_7⟩ := HG.out.ne 3 4 rfl rfl (by decide)
  obtain ⟨d7_9, d9_7⟩ := HG.out.ne 3 5 rfl rfl (by decide)
  obtain ⟨d8_9, d9_8⟩ := HG.out.ne 4 5 rfl rfl (by decide)
  go_wp2
  refine hK.out _ _ ?_; clear hK K
  show Code.wp _ _ _ _ _
  clear r0 lx6 fx6 lx7 fx7 lx8 fx8 lx9 fx9 d6_7 d7_6 d6_8 d8_6 d6_9 d9_6 d7_8 d8_7 d7_9 d9_7 d8_9 d9_8
  refine fH (((((((((HG.out).put2 2 0 rfl).put 2 2 _ rfl).put2 3 0 rfl).put 3 2 _ rfl).put2 4 0 rfl).put2 5 0 rfl).er 1).er 0) fun Wx3 HF => ?_
  clear HG
  obtain ⟨u1, HZ1⟩ : ∃ z, Hid ((egcd (a) (b)).1 = z) := ⟨_, Lib.hid rfl⟩
  have su1 : wl (Int.natAbs (u1)) ≤ 14 := by rw [← HZ1.out]; have := wl_egcd (a := a) (b := b) (M := 10) om om (by decide); omega
  obtain ⟨u2, HZ2⟩ : ∃ z, Hid ((egcd (a) (b)).2.1 = z) := ⟨_, Lib.hid rfl⟩
  have su2 : wl (Int.natAbs (u2)) ≤ 14 := by rw [← HZ2.out]; have := wl_egcd (a := a) (b := b) (M := 10) om om (by decide); omega
  obtain ⟨u3, HZ3⟩ : ∃ z, Hid ((egcd (a) (b)).2.2 = z) := ⟨_, Lib.hid rfl⟩
  have su3 : wl (Int.natAbs (u3)) ≤ 14 := by rw [← HZ3.out]; have := wl_egcd (a := a) (b := b) (M := 10) om om (by decide); omega
  have lx6 := HF.out.c 0 rfl
  have lx7 := HF.out.c 1 rfl
  refine kS fun K hK => ?_
  refine sq 7 [(true, 0), (true, 1), (true, 2), (true, 3), (true, 4), (true, 5), (true, 6)] fun T hT => ?_
  iterate 2 refine tk ?_
  refine ck Tryz.call117 (fun w' hw => zigcd (a) (b) (u1) (u2) (u3) _ HZ1.out HZ2.out HZ3.out om om) ?_
  iterate 4 refine tk ?_
  refine nlS hT HF fun vw3 HG => ?_
  clear hT T HF lx6 lx7
  go_wp2
  refine hK.out _ _ ?_; clear hK K
  show Code.wp _ _ _ _ _
  refine fH ((((HG.out).al (b := vw3.heap.size) (by first | rfl | simp) (by decide)).al (b := vw3.heap.size + 1) (by first | rfl | simp) (by decide)).al (b := vw3.heap.size + 1 + 1) (by first | rfl | simp) (by decide)) fun Wx4 HF => ?_
  clear HG
  generalize vw3.heap.size + 1 + 1 = gx12 at *
  generalize vw3.heap.size + 1 = gx11 at *
  generalize vw3.heap.size = gx10 at *
  have HZ4 : Hid ((egcd (a) (b)).1 = u1) := Lib.hid (by first | exact ok | exact eg0 _ | (rw [egcd_zero]; done) | (rw [egcd_zero]; simp; done) | exact elt _ _ (by assumption) | exact zback _ | exact eg_comb _ _ | exact eg_abs _ _ | exact idv0 _ _ | exact idv1 _ _ _ (by assumption) | exact idv2 _ _ _ | (simp only [← HZ3.out, ← HZ2.out, ← HZ1.out] <;> first | exact ok | exact eg0 _ | (rw [egcd_zero]; done) | (rw [egcd_zero]; simp; done) | exact elt _ _ (by assumption) | exact zback _ | exact eg_comb _ _ | exact eg_abs _ _ | exact idv0 _ _ | exact idv1 _ _ _ (by assumption) | exact idv2 _ _ _))
  have su4 : tw (Int.natAbs (u1)) ≤ 34 := by have e := HZ4.out; first | omega | (rw [← e]; have := tw_egcd' (a := a) (b := b) (M := 30) om om; omega)
  have HZ5 : Hid ((egcd (a) (b)).2.1 = u2) := Lib.hid (by first | exact ok | exact eg0 _ | (rw [egcd_zero]; done) | (rw [egcd_zero]; simp; done) | exact elt _ _ (by assumption) | exact zback _ | exact eg_comb _ _ | exact eg_abs _ _ | exact idv0 _ _ | exact idv1 _ _ _ (by assumption) | exact idv2 _ _ _ | (simp only [← HZ3.out, ← HZ2.out, ← HZ1.out] <;> first | exact ok | exact eg0 _ | (rw [egcd_zero]; done) | (rw [egcd_zero]; simp; done) | exact elt _ _ (by assumption) | exact zback _ | exact eg_comb _ _ | exact eg_abs _ _ | exact idv0 _ _ | exact idv1 _ _ _ (by assumption) | exact idv2 _ _ _))
  have su5 : tw (Int.natAbs (u2)) ≤ 34 := by have e := HZ5.out; first | omega | (rw [← e]; have := tw_egcd' (a := a) (b := b) (M := 30) om om; omega)
  have HZ6 : Hid ((egcd (a) (b)).2.2 = u3) := Lib.hid (by first | exact ok | exact eg0 _ | (rw [egcd_zero]; done) | (rw [egcd_zero]; simp; done) | exact elt _ _ (by assumption) | exact zback _ | exact eg_comb _ _ | exact eg_abs _ _ | exact idv0 _ _ | exact idv1 _ _ _ (by assumption) | exact idv2 _ _ _ | (simp only [← HZ3.out, ← HZ2.out, ← HZ1.out] <;> first | exact ok | exact eg0 _ | (rw [egcd_zero]; done) | (rw [egcd_zero]; simp; done) | exact elt _ _ (by assumption) | exact zback _ | exact eg_comb _ _ | exact eg_abs _ _ | exact idv0 _ _ | exact idv1 _ _ _ (by assumption) | exact idv2 _ _ _))
  have su6 : tw (Int.natAbs (u3)) ≤ 34 := by have e := HZ6.out; first | omega | (rw [← e]; have := tw_egcd' (a := a) (b := b) (M := 30) om om; omega)
  have lx8 := HF.out.c 2 rfl
  have lx9 := HF.out.c 3 rfl
  refine kS fun K hK => ?_
  have HG0 : Hid (Gr Wx4 Wx4) := Lib.hid (Gr.refl _)
  refine sq 7 [(true, 0), (true, 1), (false, 2), (true, 3), (true, 4), (true, 5), (true, 6)] fun T hT => ?_
  iterate 2 refine tk ?_
  refine wpPlan_callE rfl (by rfl) Tryz.call118 (by rfl) (fun w' hw => (zzgcd (a) (b) (u1) (u2) (u3) _ _ _ HZ4.out HZ5.out HZ6.out (by omega) (by omega) (HF.out.r 4 rfl (HG0.out.trans hw)) (HF.out.r 5 rfl (HG0.out.trans hw))).mono ?_)
  rintro e vv13 ⟨⟨rv3, rv4, rv5, rfl, bx13, bx14, bx15⟩, hg0⟩
  obtain ⟨ao3, nn3, cc3, rfl⟩ := Rn.sl bx13
  obtain ⟨ao4, nn4, cc4, rfl⟩ := Rn.sl bx14
  obtain ⟨ao5, nn5, cc5, rfl⟩ := Rn.sl bx15
  refine ⟨_, rfl, hg0, ?_⟩
  replace hg0 := Gr.trans hw hg0; clear hw
  replace HG0 := Lib.hid (HG0.out.trans hg0)
  have HGS := Lib.hid hg0; clear hg0
  clear HGS
  have RN13 := Lib.hid bx13; clear bx13
  have RN14 := Lib.hid bx14; clear bx14
  have RN15 := Lib.hid bx15; clear bx15
  clear lx8; have lx8 := fun w' (h : Gr _ w') => HF.out.c 2 rfl w' (HG0.out.trans h)
  clear lx9; have lx9 := fun w' (h : Gr _ w') => HF.out.c 3 rfl w' (HG0.out.trans h)
  simp only [Act.put, lA, lB, lC]
  iterate 4 refine tk ?_
  refine wpPlan_nil (hT.out _ _ ?_)
  intro vw4 hg
  simp only [puts, Act.put, lA, lB, lC, lD, lE, ↓reduceIte, Nat.reduceEqDiff]
  have HG := Lib.hid ((((HF.out.gr (HG0.out.trans hg)).ar (RN13.out.gr hg)).ar (RN14.out.gr hg)).ar (RN15.out.gr hg))
  simp only [List.zip_cons_cons, List.zip_nil_right, List.map_cons, List.map_nil, lF, lG] at HG
  clear hT T HF hg HG0 RN13 RN14 RN15 lx8 lx9
  go_wp2
  refine hK.out _ _ ?_; clear hK K
  show Code.wp _ _ _ _ _
  refine fH ((((HG.out).al (b := vw4.heap.size) (by first | rfl | simp) (by decide)).al (b := vw4.heap.size + 1) (by first | rfl | simp) (by decide)).al (b := vw4.heap.size + 1 + 1) (by first | rfl | simp) (by decide)) fun Wx5 HF => ?_
  clear HG
  generalize vw4.heap.size + 1 + 1 = gx18 at *
  generalize vw4.heap.size + 1 = gx17 at *
  generalize vw4.heap.size = gx16 at *
  refine wp_seq ?_
  have HB := HPb HF
  have lx10 := HF.out.c 6 rfl
  have lx11 := HF.out.c 7 rfl
  have lx12 := HF.out.c 8 rfl
  have lx16 := HF.out.c 12 rfl
  have lx17 := HF.out.c 13 rfl
  have lx18 := HF.out.c 14 rfl
  refine kS fun K hK => ?_
  refine sq 16 [(true, 0), (true, 1), (true, 2), (true, 3), (true, 4), (true, 5), (true, 6), (true, 7), (true, 8), (true, 9), (true, 10), (true, 11), (true, 12), (true, 13), (true, 14), (true, 15)] fun T hT => ?_
  iterate 2 refine tk ?_
  refine ck Tryz.call107 (fun w' hw => samez_any (u1) (u1) _ _ (rfl) (HF.out.r 9 rfl hw) om om (Lib.hid (HT.out.gr (Gr.trans HB.out hw)))) ?_
  iterate 4 refine tk ?_
  refine ck Tryz.call107 (fun w' hw => samez_any (u2) (u2) _ _ (rfl) (HF.out.r 10 rfl hw) om om (Lib.hid (HT.out.gr (Gr.trans HB.out hw)))) ?_
  iterate 5 refine tk ?_
  refine ck Tryz.call107 (fun w' hw => samez_any (u3) (u3) _ _ (rfl) (HF.out.r 11 rfl hw) om om (Lib.hid (HT.out.gr (Gr.trans HB.out hw)))) ?_
  iterate 2 refine tk ?_
  refine nlS hT HF fun vw5 HG => ?_
  clear hT T HF lx10 lx11 lx12 lx16 lx17 lx18 HB
  go_wp2
  refine hK.out _ _ ?_; clear hK K
  show Code.wp _ _ _ _ _
  refine fH ((((((((((HG.out).er 14).er 13).er 12).er 11).er 10).er 9).er 8).er 7).er 6) fun Wx6 HF => ?_
  clear HG
  refine wp_cond_false (by rfl) ?_
  refine wp_skip ?_
  show Code.wp _ _ _ _ _
  obtain ⟨u7, HZ7⟩ : ∃ z, Hid ((a) / (b) = z) := ⟨_, Lib.hid rfl⟩
  have su7 : wl (Int.natAbs (u7)) ≤ 11 := by rw [← HZ7.out]; have := wl_idiv (a) (b); omega
  obtain ⟨u8, HZ8⟩ : ∃ z, Hid ((a) % (b) = z) := ⟨_, Lib.hid rfl⟩
  have su8 : wl (Int.natAbs (u8)) ≤ 10 := by rw [← HZ8.out]; have := wl_imod (a) (b) (by first | exact ok | exact eg0 _ | (rw [egcd_zero]; done) | (rw [egcd_zero]; simp; done) | exact elt _ _ (by assumption) | exact zback _ | exact eg_comb _ _ | exact eg_abs _ _ | exact idv0 _ _ | exact idv1 _ _ _ (by assumption) | exact idv2 _ _ _ | (simp only [← HZ7.out, ← HZ3.out, ← HZ2.out, ← HZ1.out] <;> first | exact ok | exact eg0 _ | (rw [egcd_zero]; done) | (rw [egcd_zero]; simp; done) | exact elt _ _ (by assumption) | exact zback _ | exact eg_comb _ _ | exact eg_abs _ _ | exact idv0 _ _ | exact idv1 _ _ _ (by assumption) | exact idv2 _ _ _)); omega
  have lx6 := HF.out.c 0 rfl
  have lx7 := HF.out.c 1 rfl
  refine kS fun K hK => ?_
  refine sq 7 [(true, 0), (true, 1), (true, 2), (true, 3), (true, 4), (true, 5), (true, 6)] fun T hT => ?_
  iterate 2 refine tk ?_
  refine ck Tryz.call103 (fun w' hw => zidiv (a) (b) (u7) (u8) _ HZ7.out HZ8.out (by first | exact ok | exact eg0 _ | (rw [egcd_zero]; done) | (rw [egcd_zero]; simp; done) | exact elt _ _ (by assumption) | exact zback _ | exact eg_comb _ _ | exact eg_abs _ _ | exact idv0 _ _ | exact idv1 _ _ _ (by assumption) | exact idv2 _ _ _ | (simp only [← HZ8.out, ← HZ7.out, ← HZ3.out, ← HZ2.out, ← HZ1.out] <;> first | exact ok | exact eg0 _ | (rw [egcd_zero]; done) | (rw [egcd_zero]; simp; done) | exact elt _ _ (by assumption) | exact zback _ | exact eg_comb _ _ | exact eg_abs _ _ | exact idv0 _ _ | exact idv1 _ _ _ (by assumption) | exact idv2 _ _ _)) om om) ?_
  iterate 4 refine tk ?_
  refine nlS hT HF fun vw6 HG => ?_
  clear hT T HF lx6 lx7
  go_wp2
  refine hK.out _ _ ?_; clear hK K
  show Code.wp _ _ _ _ _
  refine fH (((((HG.out).al (b := vw6.heap.size) (by first | rfl | simp) (by decide)).al (b := vw6.heap.size + 1) (by first | rfl | simp) (by decide)).er 1).er 0) fun Wx8 HF => ?_
  clear HG
  generalize vw6.heap.size + 1 = gx20 at *
  generalize vw6.heap.size = gx19 at *
  refine wp_seq ?_
  have hd1 : ((tb) == (0)) = false := by have : ¬ (tb = 0) := (by first | exact ok | exact eg0 _ | (rw [egcd_zero]; done) | (rw [egcd_zero]; simp; done) | exact elt _ _ (by assumption) | exact zback _ | exact eg_comb _ _ | exact eg_abs _ _ | exact idv0 _ _ | exact idv1 _ _ _ (by assumption) | exact idv2 _ _ _ | (simp only [← HZ8.out, ← HZ7.out, ← HZ3.out, ← HZ2.out, ← HZ1.out] <;> first | exact ok | exact eg0 _ | (rw [egcd_zero]; done) | (rw [egcd_zero]; simp; done) | exact elt _ _ (by assumption) | exact zback _ | exact eg_comb _ _ | exact eg_abs _ _ | exact idv0 _ _ | exact idv1 _ _ _ (by assumption) | exact idv2 _ _ _)); simpa using this
  have lx9 := HF.out.c 1 rfl
  refine kS fun K hK => ?_
  refine sq 3 [(true, 0), (true, 1), (true, 2)] fun T hT => ?_
  refine tk ?_
  refine ck Tryz.call115 (fun w' hw => zrsign (b) (tb) _ _ HTB.out (HF.out.r 3 rfl hw)) ?_
  refine tk ?_
  refine nlS hT HF fun vw7 HG => ?_
  clear hT T HF lx9
  go_wp2
  refine hK.out _ _ ?_; clear hK K
  show Code.wp _ _ _ _ _
  have HF := HG; clear HG
  clear hd1
  refine wp_cond_false (by rfl) ?_
  refine wp_skip ?_
  show Code.wp _ _ _ _ _
  have HZ9 : Hid ((a) / (b) = u7) := Lib.hid (by first | exact ok | exact eg0 _ | (rw [egcd_zero]; done) | (rw [egcd_zero]; simp; done) | exact elt _ _ (by assumption) | exact zback _ | exact eg_comb _ _ | exact eg_abs _ _ | exact idv0 _ _ | exact idv1 _ _ _ (by assumption) | exact idv2 _ _ _ | (simp only [← HZ8.out, ← HZ7.out, ← HZ3.out, ← HZ2.out, ← HZ1.out] <;> first | exact ok | exact eg0 _ | (rw [egcd_zero]; done) | (rw [egcd_zero]; simp; done) | exact elt _ _ (by assumption) | exact zback _ | exact eg_comb _ _ | exact eg_abs _ _ | exact idv0 _ _ | exact idv1 _ _ _ (by assumption) | exact idv2 _ _ _))
  have su9 : tw (Int.natAbs (u7)) ≤ 31 := by have e := HZ9.out; first | omega | (rw [← e]; have := tw_idiv (a) (b); omega)
  have HZ10 : Hid ((a) % (b) = u8) := Lib.hid (by first | exact ok | exact eg0 _ | (rw [egcd_zero]; done) | (rw [egcd_zero]; simp; done) | exact elt _ _ (by assumption) | exact zback _ | exact eg_comb _ _ | exact eg_abs _ _ | exact idv0 _ _ | exact idv1 _ _ _ (by assumption) | exact idv2 _ _ _ | (simp only [← HZ8.out, ← HZ7.out, ← HZ3.out, ← HZ2.out, ← HZ1.out] <;> first | exact ok | exact eg0 _ | (rw [egcd_zero]; done) | (rw [egcd_zero]; simp; done) | exact elt _ _ (by assumption) | exact zback _ | exact eg_comb _ _ | exact eg_abs _ _ | exact idv0 _ _ | exact idv1 _ _ _ (by assumption) | exact idv2 _ _ _))
  have su10 : tw (Int.natAbs (u8)) ≤ 30 := by have e := HZ10.out; first | omega | (rw [← e]; have := tw_imod (a) (b) (by first | exact ok | exact eg0 _ | (rw [egcd_zero]; done) | (rw [egcd_zero]; simp; done) | exact elt _ _ (by assumption) | exact zback _ | exact eg_comb _ _ | exact eg_abs _ _ | exact idv0 _ _ | exact idv1 _ _ _ (by assumption) | exact idv2 _ _ _ | (simp only [← HZ8.out, ← HZ7.out, ← HZ3.out, ← HZ2.out, ← HZ1.out] <;> first | exact ok | exact eg0 _ | (rw [egcd_zero]; done) | (rw [egcd_zero]; simp; done) | exact elt _ _ (by assumption) | exact zback _ | exact eg_comb _ _ | exact eg_abs _ _ | exact idv0 _ _ | exact idv1 _ _ _ (by assumption) | exact idv2 _ _ _)); omega)
  have lx8 := HF.out.c 0 rfl
  have lx9 := HF.out.c 1 rfl
  refine kS fun K hK => ?_
  have HG0 : Hid (Gr vw7 vw7) := Lib.hid (Gr.refl _)
  refine sq 6 [(true, 0), (true, 1), (false, 2), (true, 3), (true, 4), (true, 5)] fun T hT => ?_
  iterate 2 refine tk ?_
  refine wpPlan_callE rfl (by rfl) Tryz.call120 (by rfl) (fun w' hw => (zzdiv (a) (b) (u7) (u8) _ _ _ HZ9.out HZ10.out (by first | exact ok | exact eg0 _ | (rw [egcd_zero]; done) | (rw [egcd_zero]; simp; done) | exact elt _ _ (by assumption) | exact zback _ | exact eg_comb _ _ | exact eg_abs _ _ | exact idv0 _ _ | exact idv1 _ _ _ (by assumption) | exact idv2 _ _ _ | (simp only [← HZ8.out, ← HZ7.out, ← HZ3.out, ← HZ2.out, ← HZ1.out] <;> first | exact ok | exact eg0 _ | (rw [egcd_zero]; done) | (rw [egcd_zero]; simp; done) | exact elt _ _ (by assumption) | exact zback _ | exact eg_comb _ _ | exact eg_abs _ _ | exact idv0 _ _ | exact idv1 _ _ _ (by assumption) | exact idv2 _ _ _)) (by omega) (by omega) (HF.out.r 2 rfl (HG0.out.trans hw)) (HF.out.r 3 rfl (HG0.out.trans hw))).mono ?_)
  rintro e vv21 ⟨⟨rv6, rv7, rfl, bx21, bx22⟩, hg0⟩
  obtain ⟨ao6, nn6, cc6, rfl⟩ := Rn.sl bx21
  obtain ⟨ao7, nn7, cc7, rfl⟩ := Rn.sl bx22
  refine ⟨_, rfl, hg0, ?_⟩
  replace hg0 := Gr.trans hw hg0; clear hw
  replace HG0 := Lib.hid (HG0.out.trans hg0)
  have HGS := Lib.hid hg0; clear hg0
  clear HGS
  have RN21 := Lib.hid bx21; clear bx21
  have RN22 := Lib.hid bx22; clear bx22
  clear lx8; have lx8 := fun w' (h : Gr _ w') => HF.out.c 0 rfl w' (HG0.out.trans h)
  clear lx9; have lx9 := fun w' (h : Gr _ w') => HF.out.c 1 rfl w' (HG0.out.trans h)
  simp only [Act.put, lA, lB, lC]
  iterate 3 refine tk ?_
  refine wpPlan_nil (hT.out _ _ ?_)
  intro vw8 hg
  simp only [puts, Act.put, lA, lB, lC, lD, lE, ↓reduceIte, Nat.reduceEqDiff]
  have HG := Lib.hid (((HF.out.gr (HG0.out.trans hg)).ar (RN21.out.gr hg)).ar (RN22.out.gr hg))
  simp only [List.zip_cons_cons, List.zip_nil_right, List.map_cons, List.map_nil, lF, lG] at HG
  clear hT T HF hg HG0 RN21 RN22 lx8 lx9
  go_wp2
  refine hK.out _ _ ?_; clear hK K
  show Code.wp _ _ _ _ _
  refine fH (((((((HG.out).al (b := vw8.heap.size) (by first | rfl | simp) (by decide)).al (b := vw8.heap.size + 1) (by first | rfl | simp) (by decide)).er 3).er 2).er 1).er 0) fun Wx11 HF => ?_
  clear HG
  generalize vw8.heap.size + 1 = gx24 at *
  generalize vw8.heap.size = gx23 at *
  have HB := HPb HF
  have lx19 := HF.out.c 0 rfl
  have lx20 := HF.out.c 1 rfl
  have lx23 := HF.out.c 4 rfl
  have lx24 := HF.out.c 5 rfl
  refine kS fun K hK => ?_
  refine sq 15 [(true, 0), (true, 1), (true, 2), (true, 3), (true, 4), (true, 5), (true, 6), (true, 7), (true, 8), (true, 9), (true, 10), (true, 11), (true, 12), (true, 13), (true, 14)] fun T hT => ?_
  iterate 4 refine tk ?_
  refine ck Tryz.call107 (fun w' hw => samez_any (u7) (u7) _ _ (rfl) (HF.out.r 2 rfl hw) om om (Lib.hid (HT.out.gr (Gr.trans HB.out hw)))) ?_
  iterate 4 refine tk ?_
  refine ck Tryz.call107 (fun w' hw => samez_any (u8) (u8) _ _ (rfl) (HF.out.r 3 rfl hw) om om (Lib.hid (HT.out.gr (Gr.trans HB.out hw)))) ?_
  iterate 2 refine tk ?_
  refine ck Tryz.call23 (fun w' hw => worksz_any _ (Lib.hid (HT.out.gr (Gr.trans HB.out hw)))) ?_
  iterate 2 refine tk ?_
  refine nlS hT HF fun vw9 HG => ?_
  clear hT T HF lx19 lx20 lx23 lx24 HB
  go_wp2
  refine hK.out _ _ ?_; clear hK K
  show Code.wp _ _ _ _ _
  refine fH (((((((HG.out).er 5).er 4).er 3).er 2).er 1).er 0) fun Wx12 HF => ?_
  clear HG
  refine wp_ret ?_
  try simp only [Exit.then, Exit.inBlock]
  exact bodyPost_ret (v := .bool true) (by simp [results, Tryz.results16, go_sem]) rfl ⟨rfl, HF.out.1⟩

set_option maxRecDepth 100000 in
set_option maxHeartbeats 4000000 in
theorem divz_big1 (bbx : Bool) (vx : Value) (kx : Nat) (fx : Nat → Nat) (mx : Nat) (bby : Bool) (vy : Value) (ky : Nat) (fy : Nat → Nat) (my : Nat) (a b : Int)  (w : World) (HWx : Hid (Wa w vx kx fx)) (HFx : Hid (∀ i, i < kx → fx i < 4294967296)) (HVx : Hid (vl fx kx = mx)) (HAx : Hid ((if bbx then -((mx : Nat) : Int) else ((mx : Nat) : Int)) = a)) (HWy : Hid (Wa w vy ky fy)) (HFy : Hid (∀ i, i < ky → fy i < 4294967296)) (HVy : Hid (vl fy ky = my)) (HAy : Hid ((if bby then -((my : Nat) : Int) else ((my : Nat) : Int)) = b))  (hkx : 10 < kx) (HT : Hid (Tab w)) :
    Calls Tryz.prog 16 #[.agg #[.bool bbx, vx], .agg #[.bool bby, vy]] w fun e w' => e = .returned (.bool true) ∧ Below w.heap.size w w' := by
  obtain ⟨ao_x, c_x, rfl⟩ := HWx.out.slice
  obtain ⟨ao_y, c_y, rfl⟩ := HWy.out.slice
  go_enter Tryz.func16, Tryz.ntmps16
  have HF := Lib.hid (hp0 w)
  refine kS fun K hK => ?_
  refine wp_region_lit ?_
  go_wp2
  refine hK.out _ _ ?_; clear hK K
  show Code.wp _ _ _ _ _
  refine fH (((HF.out).al (b := w.heap.size) (by first | rfl | simp) (by decide)).al (b := w.heap.size + 1) (by first | rfl | simp) (by decide)) fun Wx0 HG => ?_
  clear HF; have HF := HG; clear HG
  generalize w.heap.size + 1 = gx1 at *
  refine wp_seq ?_
  have lx0 := HF.out.c 0 rfl
  have lx1 := HF.out.c 1 rfl
  refine kS fun K hK => ?_
  have HG0 : Hid (Gr Wx0 Wx0) := Lib.hid (Gr.refl _)
  refine sq 5 [(true, 0), (true, 1), (false, 2), (true, 3), (true, 4)] fun T hT => ?_
  iterate 2 refine tk ?_
  refine wpPlan_slice (cs := #[.bool (bbx), (.slice ao_x kx c_x), .bool (bby), (.slice ao_y ky c_y)]) (E := 25) (n := 2) rfl (by rfl) (fun w' hw => ?_) (fun gx3 vv3 hg0 yx3 bx3 => ?_)
  · go_simp
  clear yx3
  replace HG0 := Lib.hid (HG0.out.trans hg0)
  have HGS := Lib.hid hg0; clear hg0
  clear HGS
  have BX3 := Lib.hid bx3; clear bx3
  clear lx0; have lx0 := fun w' (h : Gr _ w') => HF.out.c 0 rfl w' (HG0.out.trans h)
  clear lx1; have lx1 := fun w' (h : Gr _ w') => HF.out.c 1 rfl w' (HG0.out.trans h)
  simp only [Act.put, lA, lB, lC]
  refine ck Tryz.call104 (fun w' hw => few2_no0 _ _ _ _ _ _ _ _ 10 gx3 _ (BX3.out.gr hw) (by omega)) ?_
  refine tk ?_
  refine wpPlan_nil (hT.out _ _ ?_)
  intro vw1 hg
  simp only [puts, Act.put, lA, lB, lC, lD, lE, ↓reduceIte, Nat.reduceEqDiff]
  have HG := Lib.hid (HF.out.gr (HG0.out.trans hg))
  clear hT T HF hg HG0 BX3 lx0 lx1
  go_wp2
  refine hK.out _ _ ?_; clear hK K
  show Code.wp _ _ _ _ _
  have HF := HG; clear HG
  refine wp_cond_true (by rfl) ?_
  have HB := HPb HF
  refine kS fun K hK => ?_
  refine sq 2 [(true, 0), (true, 1)] fun T hT => ?_
  refine ck Tryz.call23 (fun w' hw => worksz_any _ (Lib.hid (HT.out.gr (Gr.trans HB.out hw)))) ?_
  refine tk ?_
  refine nlS hT HF fun vw2 HG => ?_
  clear hT T HF HB
  go_wp2
  refine hK.out _ _ ?_; clear hK K
  show Code.wp _ _ _ _ _
  have HF := HG; clear HG
  refine wp_ret ?_
  try simp only [Exit.then, Exit.inBlock]
  exact bodyPost_ret (v := .bool true) (by simp [results, Tryz.results16, go_sem]) rfl ⟨rfl, HF.out.1⟩

set_option maxRecDepth 100000 in
set_option maxHeartbeats 4000000 in
theorem divz_big2 (bbx : Bool) (vx : Value) (kx : Nat) (fx : Nat → Nat) (mx : Nat) (bby : Bool) (vy : Value) (ky : Nat) (fy : Nat → Nat) (my : Nat) (a b : Int)  (w : World) (HWx : Hid (Wa w vx kx fx)) (HFx : Hid (∀ i, i < kx → fx i < 4294967296)) (HVx : Hid (vl fx kx = mx)) (HAx : Hid ((if bbx then -((mx : Nat) : Int) else ((mx : Nat) : Int)) = a)) (HWy : Hid (Wa w vy ky fy)) (HFy : Hid (∀ i, i < ky → fy i < 4294967296)) (HVy : Hid (vl fy ky = my)) (HAy : Hid ((if bby then -((my : Nat) : Int) else ((my : Nat) : Int)) = b)) (hkx : kx ≤ 10) (hky : 10 < ky) (HT : Hid (Tab w)) :
    Calls Tryz.prog 16 #[.agg #[.bool bbx, vx], .agg #[.bool bby, vy]] w fun e w' => e = .returned (.bool true) ∧ Below w.heap.size w w' := by
  obtain ⟨ao_x, c_x, rfl⟩ := HWx.out.slice
  obtain ⟨ao_y, c_y, rfl⟩ := HWy.out.slice
  go_enter Tryz.func16, Tryz.ntmps16
  have HF := Lib.hid (hp0 w)
  refine kS fun K hK => ?_
  refine wp_region_lit ?_
  go_wp2
  refine hK.out _ _ ?_; clear hK K
  show Code.wp _ _ _ _ _
  refine fH (((HF.out).al (b := w.heap.size) (by first | rfl | simp) (by decide)).al (b := w.heap.size + 1) (by first | rfl | simp) (by decide)) fun Wx0 HG => ?_
  clear HF; have HF := HG; clear HG
  generalize w.heap.size + 1 = gx1 at *
  refine wp_seq ?_
  have lx0 := HF.out.c 0 rfl
  have lx1 := HF.out.c 1 rfl
  refine kS fun K hK => ?_
  have HG0 : Hid (Gr Wx0 Wx0) := Lib.hid (Gr.refl _)
  refine sq 5 [(true, 0), (true, 1), (false, 2), (true, 3), (true, 4)] fun T hT => ?_
  iterate 2 refine tk ?_
  refine wpPlan_slice (cs := #[.bool (bbx), (.slice ao_x kx c_x), .bool (bby), (.slice ao_y ky c_y)]) (E := 25) (n := 2) rfl (by rfl) (fun w' hw => ?_) (fun gx3 vv3 hg0 yx3 bx3 => ?_)
  · go_simp
  clear yx3
  replace HG0 := Lib.hid (HG0.out.trans hg0)
  have HGS := Lib.hid hg0; clear hg0
  clear HGS
  have BX3 := Lib.hid bx3; clear bx3
  clear lx0; have lx0 := fun w' (h : Gr _ w') => HF.out.c 0 rfl w' (HG0.out.trans h)
  clear lx1; have lx1 := fun w' (h : Gr _ w') => HF.out.c 1 rfl w' (HG0.out.trans h)
  simp only [Act.put, lA, lB, lC]
  refine ck Tryz.call104 (fun w' hw => few2_no1 _ _ _ _ _ _ _ _ 10 gx3 _ (BX3.out.gr hw) (by omega) (by omega)) ?_
  refine tk ?_
  refine wpPlan_nil (hT.out _ _ ?_)
  intro vw1 hg
  simp only [puts, Act.put, lA, lB, lC, lD, lE, ↓reduceIte, Nat.reduceEqDiff]
  have HG := Lib.hid (HF.out.gr (HG0.out.trans hg))
  clear hT T HF hg HG0 BX3 lx0 lx1
  go_wp2
  refine hK.out _ _ ?_; clear hK K
  show Code.wp _ _ _ _ _
  have HF := HG; clear HG
  refine wp_cond_true (by rfl) ?_
  have HB := HPb HF
  refine kS fun K hK => ?_
  refine sq 2 [(true, 0), (true, 1)] fun T hT => ?_
  refine ck Tryz.call23 (fun w' hw => worksz_any _ (Lib.hid (HT.out.gr (Gr.trans HB.out hw)))) ?_
  refine tk ?_
  refine nlS hT HF fun vw2 HG => ?_
  clear hT T HF HB
  go_wp2
  refine hK.out _ _ ?_; clear hK K
  show Code.wp _ _ _ _ _
  have HF := HG; clear HG
  refine wp_ret ?_
  try simp only [Exit.then, Exit.inBlock]
  exact bodyPost_ret (v := .bool true) (by simp [results, Tryz.results16, go_sem]) rfl ⟨rfl, HF.out.1⟩

theorem divz_law (bbx : Bool) (vx : Value) (kx : Nat) (fx : Nat → Nat) (bby : Bool) (vy : Value) (ky : Nat) (fy : Nat → Nat) (w : World) (HWx : Hid (Wa w vx kx fx)) (HFx : Hid (∀ i, i < kx → fx i < 4294967296)) (HWy : Hid (Wa w vy ky fy)) (HFy : Hid (∀ i, i < ky → fy i < 4294967296)) (HT : Hid (Tab w)) :
    Calls Tryz.prog 16 #[.agg #[.bool bbx, vx], .agg #[.bool bby, vy]] w fun e w' => e = .returned (.bool true) ∧ Below w.heap.size w w' := by
  obtain ⟨a, ha⟩ : ∃ z, Hid ((if bbx then -((vl fx kx : Nat) : Int) else ((vl fx kx : Nat) : Int)) = z) := ⟨_, Lib.hid rfl⟩
  obtain ⟨b, hb⟩ : ∃ z, Hid ((if bby then -((vl fy ky : Nat) : Int) else ((vl fy ky : Nat) : Int)) = z) := ⟨_, Lib.hid rfl⟩
  by_cases hkx : kx ≤ 10
  · skip
    by_cases hky : ky ≤ 10
    · skip
      by_cases h : b = 0
      · subst h
        exact divz_zero bbx vx kx fx _ bby vy ky fy _ a w HWx HFx (Lib.hid rfl) ha HWy HFy (Lib.hid rfl) hb hkx hky HT
      · exact divz_pos bbx vx kx fx _ bby vy ky fy _ a b _ w HWx HFx (Lib.hid rfl) ha HWy HFy (Lib.hid rfl) hb hkx hky h (Lib.hid rfl) (sgI_ne h) HT
    · exact divz_big2 bbx vx kx fx _ bby vy ky fy _ a b w HWx HFx (Lib.hid rfl) ha HWy HFy (Lib.hid rfl) hb hkx (by omega) HT
  · exact divz_big1 bbx vx kx fx _ bby vy ky fy _ a b w HWx HFx (Lib.hid rfl) ha HWy HFy (Lib.hid rfl) hb  (by omega) HT

end Go.Proofs.YtpcfncbcpknobaaGreatDoor
