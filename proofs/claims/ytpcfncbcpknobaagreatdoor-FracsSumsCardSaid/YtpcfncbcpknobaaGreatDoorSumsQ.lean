
/- FracsSums: the law's walk. -/
import Derived.Test.YtpcfncbcpknobaaGreatDoorWorksQ
import Derived.Test.YtpcfncbcpknobaaGreatDoorQFew2
import Derived.Test.YtpcfncbcpknobaaGreatDoorRefV2
namespace Go.Proofs.YtpcfncbcpknobaaGreatDoor
open Go.RowKit
set_option linter.unusedSimpArgs false
set_option linter.unusedVariables false
attribute [local go_sem ↓] Go.wp_at_zero Go.wp_at_succ
attribute [local go_sem ↓] eq_nat eq_nat_zero eq_int eq_frac eq_frac_zero
attribute [local go_sem] Instr.field asAgg
set_option maxRecDepth 100000 in
set_option maxHeartbeats 8000000 in
theorem sumq_ne (bbxn : Bool) (vxn : Value) (kxn : Nat) (fxn : Nat → Nat) (mxn : Nat) (ixn : Int) (vxd : Value) (kxd : Nat) (fxd : Nat → Nat) (mxd : Nat) (bbyn : Bool) (vyn : Value) (kyn : Nat) (fyn : Nat → Nat) (myn : Nat) (iyn : Int) (vyd : Value) (kyd : Nat) (fyd : Nat → Nat) (myd : Nat) (a b : Rat)  (sa : Int) (sb : Int) (c0 : Int) (w : World) (HWxn : Hid (Wa w vxn kxn fxn)) (HFxn : Hid (∀ i, i < kxn → fxn i < 4294967296)) (HVxn : Hid (vl fxn kxn = mxn)) (HAxn : Hid ((if bbxn then -((mxn : Nat) : Int) else ((mxn : Nat) : Int)) = ixn)) (HWxd : Hid (Wa w vxd kxd fxd)) (HFxd : Hid (∀ i, i < kxd → fxd i < 4294967296)) (HVxd : Hid (vl fxd kxd = mxd)) (HQx : Hid (mkRat ixn (mxd + 1) = a)) (HWyn : Hid (Wa w vyn kyn fyn)) (HFyn : Hid (∀ i, i < kyn → fyn i < 4294967296)) (HVyn : Hid (vl fyn kyn = myn)) (HAyn : Hid ((if bbyn then -((myn : Nat) : Int) else ((myn : Nat) : Int)) = iyn)) (HWyd : Hid (Wa w vyd kyd fyd)) (HFyd : Hid (∀ i, i < kyd → fyd i < 4294967296)) (HVyd : Hid (vl fyd kyd = myd)) (HQy : Hid (mkRat iyn (myd + 1) = b)) (hkxn : kxn ≤ 8) (hkxd : kxd ≤ 8) (hkyn : kyn ≤ 8) (hkyd : kyd ≤ 8) (hb0 : b ≠ 0) (hab : a ≠ b) (HSA : Hid (sgQ a = sa)) (HSB : Hid (sgQ b = sb)) (hsb : ¬ sb = 0) (HC0 : Hid (sgQ (a - b) = c0)) (hc0 : ¬ c0 = 0) (HT : Hid (Tab w)) :
    Calls Tryz.prog 9 #[.agg #[.bool bbxn, vxn, vxd], .agg #[.bool bbyn, vyn, vyd]] w fun e w' => e = .returned (.bool true) ∧ Below w.heap.size w w' := by
  obtain ⟨ao_xn, c_xn, rfl⟩ := HWxn.out.slice
  obtain ⟨ao_xd, c_xd, rfl⟩ := HWxd.out.slice
  have hm_xn : wl mxn ≤ 8 := by rw [← HVxn.out]; have := wl_le.2 (vl_lt HFxn.out); omega
  have hm_xd : wl mxd ≤ 8 := by rw [← HVxd.out]; have := wl_le.2 (vl_lt HFxd.out); omega
  have hi_x : wl (Int.natAbs ixn) ≤ 8 := by rw [zsize HAxn.out]; exact hm_xn
  have hs_x : sz a ≤ 9 := by rw [← HQx.out]; exact sz_great hi_x hm_xd
  have hr_x : rz a ≤ 27 := by rw [← HQx.out]; exact rz_great hi_x hm_xd (by decide)
  obtain ⟨ao_yn, c_yn, rfl⟩ := HWyn.out.slice
  obtain ⟨ao_yd, c_yd, rfl⟩ := HWyd.out.slice
  have hm_yn : wl myn ≤ 8 := by rw [← HVyn.out]; have := wl_le.2 (vl_lt HFyn.out); omega
  have hm_yd : wl myd ≤ 8 := by rw [← HVyd.out]; have := wl_le.2 (vl_lt HFyd.out); omega
  have hi_y : wl (Int.natAbs iyn) ≤ 8 := by rw [zsize HAyn.out]; exact hm_yn
  have hs_y : sz b ≤ 9 := by rw [← HQy.out]; exact sz_great hi_y hm_yd
  have hr_y : rz b ≤ 27 := by rw [← HQy.out]; exact rz_great hi_y hm_yd (by decide)
  go_enter Tryz.func9, Tryz.ntmps9
  have HF := Lib.hid (hp0 w)
  refine kS fun K hK => ?_
  refine wp_region_lit ?_
  go_wp2
  refine hK.out _ _ ?_; clear hK K
  show Code.wp _ _ _ _ _
  refine fH (((HF.out).al (b := w.heap.size) (by first | rfl | simp) (by decide)).al (b := w.heap.size + 1) (by first | rfl | simp) (by decide)) fun Wx0 HG => ?_
  clear HF; have HF := HG; clear HG
  generalize w.heap.size + 1 = gx1 at *
  refine wp_seq ?_
  have lx0 := HF.out.c 0 rfl
  have lx1 := HF.out.c 1 rfl
  refine kS fun K hK => ?_
  have HG0 : Hid (Gr Wx0 Wx0) := Lib.hid (Gr.refl _)
  refine sq 5 [(true, 0), (true, 1), (false, 2), (true, 3), (true, 4)] fun T hT => ?_
  iterate 2 refine tk ?_
  refine wpPlan_slice (cs := #[.bool (bbxn), (.slice ao_xn kxn c_xn), (.slice ao_xd kxd c_xd), .bool (bbyn), (.slice ao_yn kyn c_yn), (.slice ao_yd kyd c_yd)]) (E := 88) (n := 2) rfl (by rfl) (fun w' hw => ?_) (fun gx3 vv3 hg0 yx3 bx3 => ?_)
  · go_simp
  clear yx3
  replace HG0 := Lib.hid (HG0.out.trans hg0)
  have HGS := Lib.hid hg0; clear hg0
  clear HGS
  have BX3 := Lib.hid bx3; clear bx3
  clear lx0; have lx0 := fun w' (h : Gr _ w') => HF.out.c 0 rfl w' (HG0.out.trans h)
  clear lx1; have lx1 := fun w' (h : Gr _ w') => HF.out.c 1 rfl w' (HG0.out.trans h)
  simp only [Act.put, lA, lB, lC]
  refine ck Tryz.call53 (fun w' hw => qfew2_ok _ _ _ _ _ _ _ _ _ _ _ _ _ _ 8 gx3 _ (BX3.out.gr hw) (by omega) (by omega) (by omega) (by omega)) ?_
  refine tk ?_
  refine wpPlan_nil (hT.out _ _ ?_)
  intro vw1 hg
  simp only [puts, Act.put, lA, lB, lC, lD, lE, ↓reduceIte, Nat.reduceEqDiff]
  have HG := Lib.hid (HF.out.gr (HG0.out.trans hg))
  clear hT T HF hg HG0 BX3 lx0 lx1
  go_wp2
  refine hK.out _ _ ?_; clear hK K
  show Code.wp _ _ _ _ _
  have HF := HG; clear HG
  refine wp_cond_false (by rfl) ?_
  refine wp_skip ?_
  show Code.wp _ _ _ _ _
  have HB := HPb HF
  have lx0 := HF.out.c 0 rfl
  have lx1 := HF.out.c 1 rfl
  refine kS fun K hK => ?_
  have HG0 : Hid (Gr vw1 vw1) := Lib.hid (Gr.refl _)
  refine wp_region_plan 12 [8, 9, 10, 11] [] (fun i => if i = 8 then 5 else if i = 9 then 6 else if i = 10 then 7 else 8) (fun i => if i = 8 then .cells #[.int .u64 0, .string ⟨#[]⟩, .bool false, .int .u64 0, .string ⟨#[]⟩] 51 else if i = 9 then .cells #[.int .u64 0, .string ⟨#[]⟩, .bool false, .int .u64 0, .string ⟨#[]⟩] 51 else if i = 10 then .cells #[.bool false, .slice none 0 0, .slice none 0 0] 62 else .cells #[.bool false, .slice none 0 0, .slice none 0 0] 62) [(true, 0), (true, 2), (true, 4), (true, 6), (true, 1), (true, 3), (false, 5), (false, 7)] (by kernel_rfl) (by kernel_rfl) (by intro i hi; simp only [List.mem_cons, List.not_mem_nil, or_false] at hi; rcases hi with rfl | rfl | rfl | rfl <;> exact ⟨_, rfl, rfl, rfl, by simp, fun ρ w => by kernel_rfl⟩) (fun i hi => by cases hi) (fun _ _ _ _ _ h => h) (fun T hT => ?_)
  iterate 4 refine tk ?_
  refine ck Tryz.call54 (fun w' hw => gof_any bbxn kxn fxn mxn ixn kxd fxd mxd a ao_xn c_xn ao_xd c_xd w' (Lib.hid (HWxn.out.gr (Gr.trans HB.out hw))) HFxn HVxn HAxn (Lib.hid (HWxd.out.gr (Gr.trans HB.out hw))) HFxd HVxd HQx om om om om) ?_
  refine ck Tryz.call54 (fun w' hw => gof_any bbyn kyn fyn myn iyn kyd fyd myd b ao_yn c_yn ao_yd c_yd w' (Lib.hid (HWyn.out.gr (Gr.trans HB.out hw))) HFyn HVyn HAyn (Lib.hid (HWyd.out.gr (Gr.trans HB.out hw))) HFyd HVyd HQy om om om om) ?_
  refine wpPlan_callE rfl (by rfl) Tryz.call60 (by rfl) (fun w' hw => ((gref_any bbxn kxn fxn mxn ixn kxd fxd mxd a ao_xn c_xn ao_xd c_xd w' (Lib.hid (HWxn.out.gr (Gr.trans HB.out hw))) HFxn HVxn HAxn (Lib.hid (HWxd.out.gr (Gr.trans HB.out hw))) HFxd HVxd HQx om om om om)).mono ?_)
  rintro e vv4 ⟨⟨rv1, rv2, rfl, bx4, bx5⟩, hg0⟩
  obtain ⟨ao1, nn1, cc1, rfl⟩ := Rn.sl bx4
  obtain ⟨ao2, nn2, cc2, rfl⟩ := Rn.sl bx5
  refine ⟨_, rfl, hg0, ?_⟩
  replace hg0 := Gr.trans hw hg0; clear hw
  replace HG0 := Lib.hid (HG0.out.trans hg0)
  have HGS := Lib.hid hg0; clear hg0
  replace HB := Lib.hid (HB.out.trans (HGS.out.mono HB.out.size))
  clear HGS
  have RN4 := Lib.hid bx4; clear bx4
  have RN5 := Lib.hid bx5; clear bx5
  clear lx0; have lx0 := fun w' (h : Gr _ w') => HF.out.c 0 rfl w' (HG0.out.trans h)
  clear lx1; have lx1 := fun w' (h : Gr _ w') => HF.out.c 1 rfl w' (HG0.out.trans h)
  simp only [Act.put, lA, lB, lC]
  refine wpPlan_callE rfl (by rfl) Tryz.call60 (by rfl) (fun w' hw => ((gref_any bbyn kyn fyn myn iyn kyd fyd myd b ao_yn c_yn ao_yd c_yd w' (Lib.hid (HWyn.out.gr (Gr.trans HB.out hw))) HFyn HVyn HAyn (Lib.hid (HWyd.out.gr (Gr.trans HB.out hw))) HFyd HVyd HQy om om om om)).mono ?_)
  rintro e vv6 ⟨⟨rv3, rv4, rfl, bx6, bx7⟩, hg0⟩
  obtain ⟨ao3, nn3, cc3, rfl⟩ := Rn.sl bx6
  obtain ⟨ao4, nn4, cc4, rfl⟩ := Rn.sl bx7
  refine ⟨_, rfl, hg0, ?_⟩
  replace hg0 := Gr.trans hw hg0; clear hw
  replace HG0 := Lib.hid (HG0.out.trans hg0)
  have HGS := Lib.hid hg0; clear hg0
  replace RN4 := Lib.hid (RN4.out.gr HGS.out)
  replace RN5 := Lib.hid (RN5.out.gr HGS.out)
  replace HB := Lib.hid (HB.out.trans (HGS.out.mono HB.out.size))
  clear HGS
  have RN6 := Lib.hid bx6; clear bx6
  have RN7 := Lib.hid bx7; clear bx7
  clear lx0; have lx0 := fun w' (h : Gr _ w') => HF.out.c 0 rfl w' (HG0.out.trans h)
  clear lx1; have lx1 := fun w' (h : Gr _ w') => HF.out.c 1 rfl w' (HG0.out.trans h)
  simp only [Act.put, lA, lB, lC]
  refine wpPlan_nil (hT.out _ _ ?_)
  intro G vw2 hg hf
  simp only [puts, Act.put, lA, lB, lC, lD, lE, ↓reduceIte, Nat.reduceEqDiff]
  have HG := Lib.hid (((((HF.out.fr (HG0.out.trans hg) hf (zs := [(#[.int .u64 0, .string ⟨#[]⟩, .bool false, .int .u64 0, .string ⟨#[]⟩], 51), (#[.int .u64 0, .string ⟨#[]⟩, .bool false, .int .u64 0, .string ⟨#[]⟩], 51), (#[.bool false, .slice none 0 0, .slice none 0 0], 62), (#[.bool false, .slice none 0 0, .slice none 0 0], 62)]) rfl (by decide) (by decide)).ar (RN4.out.gr hg)).ar (RN5.out.gr hg)).ar (RN6.out.gr hg)).ar (RN7.out.gr hg))
  simp only [List.zip_cons_cons, List.zip_nil_right, List.map_cons, List.map_nil, lF, lG] at HG
  clear hT T HF hg hf HG0 RN4 RN5 RN6 RN7 lx0 lx1 HB
  generalize G 8 = gx8 at *
  generalize G 9 = gx9 at *
  generalize G 10 = gx10 at *
  generalize G 11 = gx11 at *
  have lx8 := HG.out.c 2 rfl; have fx8 := HG.out.f 2 rfl
  have lx9 := HG.out.c 3 rfl; have fx9 := HG.out.f 3 rfl
  have lx10 := HG.out.c 4 rfl; have fx10 := HG.out.f 4 rfl
  have lx11 := HG.out.c 5 rfl; have fx11 := HG.out.f 5 rfl
  have r0 := Gr.refl vw2
  obtain ⟨d8_9, d9_8⟩ := HG.out.ne 2 3 rfl rfl (by decide)
  obtain ⟨d8_10, d10_8⟩ := HG.out.ne 2 4 rfl rfl (by decide)
  obtain ⟨d8_11, d11_8⟩ := HG.out.ne 2 5 rfl rfl (by decide)
  obtain ⟨d9_10, d10_9⟩ := HG.out.ne 3 4 rfl rfl (by decide)
  obtain ⟨d9_11, d11_9⟩ := HG.out.ne 3 5 rfl rfl (by decide)
  obtain ⟨d10_11, d11_10⟩ := HG.out.ne 4 5 rfl rfl (by decide)
  go_wp2
  refine hK.out _ _ ?_; clear hK K
  show Code.wp _ _ _ _ _
  clear r0 lx8 fx8 lx9 fx9 lx10 fx10 lx11 fx11 d8_9 d9_8 d8_10 d10_8 d8_11 d11_8 d9_10 d10_9 d9_11 d11_9 d10_11 d11_10
  refine fH (((((((((((((HG.out).put2 2 0 rfl).put2 2 2 rfl).put 2 4 _ rfl).put2 3 0 rfl).put2 3 2 rfl).put 3 4 _ rfl).put2 4 0 rfl).put 4 2 _ rfl).put2 5 0 rfl).put 5 2 _ rfl).er 1).er 0) fun Wx3 HF => ?_
  clear HG
  have lx10 := HF.out.c 2 rfl
  have lx11 := HF.out.c 3 rfl
  refine kS fun K hK => ?_
  refine sq 4 [(true, 0), (true, 1), (true, 2), (true, 3)] fun T hT => ?_
  iterate 2 refine tk ?_
  refine ck Tryz.call74 (fun w' hw => qcmp_any (a) (b) (c0) _ _ _ _ _ HC0.out (by omega) (by omega) (HF.out.r 4 rfl hw) (HF.out.r 5 rfl hw) (HF.out.r 6 rfl hw) (HF.out.r 7 rfl hw)) ?_
  refine tk ?_
  refine nlS hT HF fun vw3 HG => ?_
  clear hT T HF lx10 lx11
  go_wp2
  refine hK.out _ _ ?_; clear hK K
  show Code.wp _ _ _ _ _
  have HF := HG; clear HG
  obtain ⟨u1, HZ1⟩ : ∃ z, Hid ((a) / (b) = z) := ⟨_, Lib.hid rfl⟩
  have su1 : sz (u1) ≤ 18 := by rw [← HZ1.out]; have := sz_div (a) (b); omega
  have lx8 := HF.out.c 0 rfl
  have lx9 := HF.out.c 1 rfl
  refine kS fun K hK => ?_
  refine sq 6 [(true, 0), (true, 1), (true, 2), (true, 3), (true, 4), (true, 5)] fun T hT => ?_
  iterate 2 refine tk ?_
  refine ck Tryz.call75 (fun w' hw => fdiv_any (a) (b) (u1) _ HZ1.out (by first | exact ok | exact Rat.sub_self | exact Rat.add_comm _ _ | exact Rat.mul_comm _ _ | exact Rat.add_assoc _ _ _ | exact Rat.mul_assoc _ _ _ | exact Rat.mul_add _ _ _ | exact Rat.add_sub_cancel | exact Rat.mul_div_cancel (by assumption) | (simp only [← HZ1.out] <;> first | exact ok | exact Rat.sub_self | exact Rat.add_comm _ _ | exact Rat.mul_comm _ _ | exact Rat.add_assoc _ _ _ | exact Rat.mul_assoc _ _ _ | exact Rat.mul_add _ _ _ | exact Rat.add_sub_cancel | exact Rat.mul_div_cancel (by assumption))) om om) ?_
  iterate 3 refine tk ?_
  refine nlS hT HF fun vw4 HG => ?_
  clear hT T HF lx8 lx9
  go_wp2
  refine hK.out _ _ ?_; clear hK K
  show Code.wp _ _ _ _ _
  refine fH ((HG.out).al (b := vw4.heap.size) (by first | rfl | simp) (by decide)) fun Wx5 HF => ?_
  clear HG
  generalize vw4.heap.size = gx12 at *
  have hd1 : ((sb) == (0)) = false := by have : ¬ (sb = 0) := (by first | exact ok | exact Rat.sub_self | exact Rat.add_comm _ _ | exact Rat.mul_comm _ _ | exact Rat.add_assoc _ _ _ | exact Rat.mul_assoc _ _ _ | exact Rat.mul_add _ _ _ | exact Rat.add_sub_cancel | exact Rat.mul_div_cancel (by assumption) | (simp only [← HZ1.out] <;> first | exact ok | exact Rat.sub_self | exact Rat.add_comm _ _ | exact Rat.mul_comm _ _ | exact Rat.add_assoc _ _ _ | exact Rat.mul_assoc _ _ _ | exact Rat.mul_add _ _ _ | exact Rat.add_sub_cancel | exact Rat.mul_div_cancel (by assumption))); simpa using this
  have lx11 := HF.out.c 3 rfl
  refine kS fun K hK => ?_
  refine sq 4 [(true, 0), (true, 1), (true, 2), (true, 3)] fun T hT => ?_
  refine tk ?_
  refine ck Tryz.call76 (fun w' hw => qsign_any (b) (sb) _ _ _ HSB.out (HF.out.r 6 rfl hw) (HF.out.r 7 rfl hw)) ?_
  iterate 2 refine tk ?_
  refine nlS hT HF fun vw5 HG => ?_
  clear hT T HF lx11
  go_wp2
  refine hK.out _ _ ?_; clear hK K
  show Code.wp _ _ _ _ _
  have HF := HG; clear HG
  clear hd1
  refine wp_seq ?_
  have HB := HPb HF
  obtain ⟨u2, HZ2⟩ : ∃ z, Hid ((a) + (b) = z) := ⟨_, Lib.hid rfl⟩
  have su2 : sz (u2) ≤ 19 := by rw [← HZ2.out]; have := sz_add (a) (b); omega
  have HZ3 : Hid ((a) + (b) = u2) := Lib.hid (by first | exact ok | exact Rat.sub_self | exact Rat.add_comm _ _ | exact Rat.mul_comm _ _ | exact Rat.add_assoc _ _ _ | exact Rat.mul_assoc _ _ _ | exact Rat.mul_add _ _ _ | exact Rat.add_sub_cancel | exact Rat.mul_div_cancel (by assumption) | (simp only [← HZ2.out, ← HZ1.out] <;> first | exact ok | exact Rat.sub_self | exact Rat.add_comm _ _ | exact Rat.mul_comm _ _ | exact Rat.add_assoc _ _ _ | exact Rat.mul_assoc _ _ _ | exact Rat.mul_add _ _ _ | exact Rat.add_sub_cancel | exact Rat.mul_div_cancel (by assumption)))
  have su3 : rz (u2) ≤ 55 := by have e := HZ3.out; first | omega | (rw [← e]; have := rz_add (a) (b); omega)
  obtain ⟨u4, HZ4⟩ : ∃ z, Hid ((a) - (b) = z) := ⟨_, Lib.hid rfl⟩
  have su4 : sz (u4) ≤ 19 := by rw [← HZ4.out]; have := sz_sub (a) (b); omega
  have HZ5 : Hid ((a) - (b) = u4) := Lib.hid (by first | exact ok | exact Rat.sub_self | exact Rat.add_comm _ _ | exact Rat.mul_comm _ _ | exact Rat.add_assoc _ _ _ | exact Rat.mul_assoc _ _ _ | exact Rat.mul_add _ _ _ | exact Rat.add_sub_cancel | exact Rat.mul_div_cancel (by assumption) | (simp only [← HZ4.out, ← HZ2.out, ← HZ1.out] <;> first | exact ok | exact Rat.sub_self | exact Rat.add_comm _ _ | exact Rat.mul_comm _ _ | exact Rat.add_assoc _ _ _ | exact Rat.mul_assoc _ _ _ | exact Rat.mul_add _ _ _ | exact Rat.add_sub_cancel | exact Rat.mul_div_cancel (by assumption)))
  have su5 : rz (u4) ≤ 55 := by have e := HZ5.out; first | omega | (rw [← e]; have := rz_sub (a) (b); omega)
  obtain ⟨u6, HZ6⟩ : ∃ z, Hid ((a) * (b) = z) := ⟨_, Lib.hid rfl⟩
  have su6 : sz (u6) ≤ 18 := by rw [← HZ6.out]; have := sz_mul (a) (b); omega
  have HZ7 : Hid ((a) * (b) = u6) := Lib.hid (by first | exact ok | exact Rat.sub_self | exact Rat.add_comm _ _ | exact Rat.mul_comm _ _ | exact Rat.add_assoc _ _ _ | exact Rat.mul_assoc _ _ _ | exact Rat.mul_add _ _ _ | exact Rat.add_sub_cancel | exact Rat.mul_div_cancel (by assumption) | (simp only [← HZ6.out, ← HZ4.out, ← HZ2.out, ← HZ1.out] <;> first | exact ok | exact Rat.sub_self | exact Rat.add_comm _ _ | exact Rat.mul_comm _ _ | exact Rat.add_assoc _ _ _ | exact Rat.mul_assoc _ _ _ | exact Rat.mul_add _ _ _ | exact Rat.add_sub_cancel | exact Rat.mul_div_cancel (by assumption)))
  have su7 : rz (u6) ≤ 54 := by have e := HZ7.out; first | omega | (rw [← e]; have := rz_mul (a) (b); omega)
  have HZ8 : Hid ((a) / (b) = u1) := Lib.hid (by first | exact ok | exact Rat.sub_self | exact Rat.add_comm _ _ | exact Rat.mul_comm _ _ | exact Rat.add_assoc _ _ _ | exact Rat.mul_assoc _ _ _ | exact Rat.mul_add _ _ _ | exact Rat.add_sub_cancel | exact Rat.mul_div_cancel (by assumption) | (simp only [← HZ6.out, ← HZ4.out, ← HZ2.out, ← HZ1.out] <;> first | exact ok | exact Rat.sub_self | exact Rat.add_comm _ _ | exact Rat.mul_comm _ _ | exact Rat.add_assoc _ _ _ | exact Rat.mul_assoc _ _ _ | exact Rat.mul_add _ _ _ | exact Rat.add_sub_cancel | exact Rat.mul_div_cancel (by assumption)))
  have su8 : rz (u1) ≤ 54 := by have e := HZ8.out; first | omega | (rw [← e]; have := rz_div (a) (b); omega)
  have lx8 := HF.out.c 0 rfl
  have lx9 := HF.out.c 1 rfl
  have lx10 := HF.out.c 2 rfl
  have lx11 := HF.out.c 3 rfl
  have lx12 := HF.out.c 8 rfl
  refine kS fun K hK => ?_
  have HG0 : Hid (Gr vw5 vw5) := Lib.hid (Gr.refl _)
  refine pd 53 [(true, 0), (true, 1), (true, 2), (true, 3), (true, 4), (true, 5), (true, 6), (true, 8), (true, 9), (true, 7), (false, 10), (true, 11), (true, 12), (true, 13), (true, 14), (true, 15), (true, 16), (true, 18), (true, 19), (true, 17), (false, 20), (true, 21), (true, 22), (true, 23), (true, 24), (true, 25), (true, 26), (true, 28), (true, 29), (true, 27), (false, 30), (true, 31), (true, 32), (true, 33), (true, 34), (true, 35), (true, 36), (true, 37), (false, 38), (true, 39), (true, 40), (true, 41), (true, 42), (true, 43), (true, 44), (true, 45), (true, 46), (true, 47), (true, 48), (true, 49), (true, 50), (true, 51), (true, 52)] fun T hT => ?_
  iterate 2 refine tk ?_
  refine ck Tryz.call52 (fun w' hw => fsame_any (a) _ _ _ om (by omega) (HF.out.r 4 rfl (HG0.out.trans hw)) (HF.out.r 5 rfl (HG0.out.trans hw)) (Lib.hid (HT.out.gr (Gr.trans HB.out hw)))) ?_
  iterate 6 refine tk ?_
  refine ck Tryz.call65 (fun w' hw => fadd_any (a) (b) (u2) _ HZ2.out om om) ?_
  refine wpPlan_callE rfl (by rfl) Tryz.call77 (by rfl) (fun w' hw => (qadd_any (a) (b) (u2) _ _ _ _ _ HZ3.out (by omega) (by omega) (HF.out.r 4 rfl (HG0.out.trans hw)) (HF.out.r 5 rfl (HG0.out.trans hw)) (HF.out.r 6 rfl (HG0.out.trans hw)) (HF.out.r 7 rfl (HG0.out.trans hw))).mono ?_)
  rintro e vv13 ⟨⟨rv5, rv6, rfl, bx13, bx14⟩, hg0⟩
  obtain ⟨ao5, nn5, cc5, rfl⟩ := Rn.sl bx13
  obtain ⟨ao6, nn6, cc6, rfl⟩ := Rn.sl bx14
  refine ⟨_, rfl, hg0, ?_⟩
  replace hg0 := Gr.trans hw hg0; clear hw
  replace HG0 := Lib.hid (HG0.out.trans hg0)
  have HGS := Lib.hid hg0; clear hg0
  replace HB := Lib.hid (HB.out.trans (HGS.out.mono HB.out.size))
  clear HGS
  have RN13 := Lib.hid bx13; clear bx13
  have RN14 := Lib.hid bx14; clear bx14
  clear lx8; have lx8 := fun w' (h : Gr _ w') => HF.out.c 0 rfl w' (HG0.out.trans h)
  clear lx9; have lx9 := fun w' (h : Gr _ w') => HF.out.c 1 rfl w' (HG0.out.trans h)
  clear lx10; have lx10 := fun w' (h : Gr _ w') => HF.out.c 2 rfl w' (HG0.out.trans h)
  clear lx11; have lx11 := fun w' (h : Gr _ w') => HF.out.c 3 rfl w' (HG0.out.trans h)
  clear lx12; have lx12 := fun w' (h : Gr _ w') => HF.out.c 8 rfl w' (HG0.out.trans h)
  simp only [Act.put, lA, lB, lC]
  refine ck Tryz.call52 (fun w' hw => fsame_any (u2) _ _ _ om (by omega) (RN13.out.gr hw) (RN14.out.gr hw) (Lib.hid (HT.out.gr (Gr.trans HB.out hw)))) ?_
  iterate 7 refine tk ?_
  refine ck Tryz.call67 (fun w' hw => fsub_any (a) (b) (u4) _ HZ4.out om om) ?_
  refine wpPlan_callE rfl (by rfl) Tryz.call78 (by rfl) (fun w' hw => (qsub_any (a) (b) (u4) _ _ _ _ _ HZ5.out (by omega) (by omega) (HF.out.r 4 rfl (HG0.out.trans hw)) (HF.out.r 5 rfl (HG0.out.trans hw)) (HF.out.r 6 rfl (HG0.out.trans hw)) (HF.out.r 7 rfl (HG0.out.trans hw))).mono ?_)
  rintro e vv15 ⟨⟨rv7, rv8, rfl, bx15, bx16⟩, hg0⟩
  obtain ⟨ao7, nn7, cc7, rfl⟩ := Rn.sl bx15
  obtain ⟨ao8, nn8, cc8, rfl⟩ := Rn.sl bx16
  refine ⟨_, rfl, hg0, ?_⟩
  replace hg0 := Gr.trans hw hg0; clear hw
  replace HG0 := Lib.hid (HG0.out.trans hg0)
  have HGS := Lib.hid hg0; clear hg0
  replace RN13 := Lib.hid (RN13.out.gr HGS.out)
  replace RN14 := Lib.hid (RN14.out.gr HGS.out)
  replace HB := Lib.hid (HB.out.trans (HGS.out.mono HB.out.size))
  clear HGS
  have RN15 := Lib.hid bx15; clear bx15
  have RN16 := Lib.hid bx16; clear bx16
  clear lx8; have lx8 := fun w' (h : Gr _ w') => HF.out.c 0 rfl w' (HG0.out.trans h)
  clear lx9; have lx9 := fun w' (h : Gr _ w') => HF.out.c 1 rfl w' (HG0.out.trans h)
  clear lx10; have lx10 := fun w' (h : Gr _ w') => HF.out.c 2 rfl w' (HG0.out.trans h)
  clear lx11; have lx11 := fun w' (h : Gr _ w') => HF.out.c 3 rfl w' (HG0.out.trans h)
  clear lx12; have lx12 := fun w' (h : Gr _ w') => HF.out.c 8 rfl w' (HG0.out.trans h)
  simp only [Act.put, lA, lB, lC]
  refine ck Tryz.call52 (fun w' hw => fsame_any (u4) _ _ _ om (by omega) (RN15.out.gr hw) (RN16.out.gr hw) (Lib.hid (HT.out.gr (Gr.trans HB.out hw)))) ?_
  iterate 7 refine tk ?_
  refine ck Tryz.call79 (fun w' hw => fmul_any (a) (b) (u6) _ HZ6.out om om) ?_
  refine wpPlan_callE rfl (by rfl) Tryz.call80 (by rfl) (fun w' hw => (qmul_any (a) (b) (u6) _ _ _ _ _ HZ7.out (by omega) (by omega) (HF.out.r 4 rfl (HG0.out.trans hw)) (HF.out.r 5 rfl (HG0.out.trans hw)) (HF.out.r 6 rfl (HG0.out.trans hw)) (HF.out.r 7 rfl (HG0.out.trans hw))).mono ?_)
  rintro e vv17 ⟨⟨rv9, rv10, rfl, bx17, bx18⟩, hg0⟩
  obtain ⟨ao9, nn9, cc9, rfl⟩ := Rn.sl bx17
  obtain ⟨ao10, nn10, cc10, rfl⟩ := Rn.sl bx18
  refine ⟨_, rfl, hg0, ?_⟩
  replace hg0 := Gr.trans hw hg0; clear hw
  replace HG0 := Lib.hid (HG0.out.trans hg0)
  have HGS := Lib.hid hg0; clear hg0
  replace RN13 := Lib.hid (RN13.out.gr HGS.out)
  replace RN14 := Lib.hid (RN14.out.gr HGS.out)
  replace RN15 := Lib.hid (RN15.out.gr HGS.out)
  replace RN16 := Lib.hid (RN16.out.gr HGS.out)
  replace HB := Lib.hid (HB.out.trans (HGS.out.mono HB.out.size))
  clear HGS
  have RN17 := Lib.hid bx17; clear bx17
  have RN18 := Lib.hid bx18; clear bx18
  clear lx8; have lx8 := fun w' (h : Gr _ w') => HF.out.c 0 rfl w' (HG0.out.trans h)
  clear lx9; have lx9 := fun w' (h : Gr _ w') => HF.out.c 1 rfl w' (HG0.out.trans h)
  clear lx10; have lx10 := fun w' (h : Gr _ w') => HF.out.c 2 rfl w' (HG0.out.trans h)
  clear lx11; have lx11 := fun w' (h : Gr _ w') => HF.out.c 3 rfl w' (HG0.out.trans h)
  clear lx12; have lx12 := fun w' (h : Gr _ w') => HF.out.c 8 rfl w' (HG0.out.trans h)
  simp only [Act.put, lA, lB, lC]
  refine ck Tryz.call52 (fun w' hw => fsame_any (u6) _ _ _ om (by omega) (RN17.out.gr hw) (RN18.out.gr hw) (Lib.hid (HT.out.gr (Gr.trans HB.out hw)))) ?_
  iterate 6 refine tk ?_
  refine wpPlan_callE rfl (by rfl) Tryz.call81 (by rfl) (fun w' hw => (qdiv_any (a) (b) (u1) _ _ _ _ _ HZ8.out (by omega) (by omega) (HF.out.r 4 rfl (HG0.out.trans hw)) (HF.out.r 5 rfl (HG0.out.trans hw)) (HF.out.r 6 rfl (HG0.out.trans hw)) (HF.out.r 7 rfl (HG0.out.trans hw))).mono ?_)
  rintro e vv19 ⟨⟨rv11, rv12, rfl, bx19, bx20⟩, hg0⟩
  obtain ⟨ao11, nn11, cc11, rfl⟩ := Rn.sl bx19
  obtain ⟨ao12, nn12, cc12, rfl⟩ := Rn.sl bx20
  refine ⟨_, rfl, hg0, ?_⟩
  replace hg0 := Gr.trans hw hg0; clear hw
  replace HG0 := Lib.hid (HG0.out.trans hg0)
  have HGS := Lib.hid hg0; clear hg0
  replace RN13 := Lib.hid (RN13.out.gr HGS.out)
  replace RN14 := Lib.hid (RN14.out.gr HGS.out)
  replace RN15 := Lib.hid (RN15.out.gr HGS.out)
  replace RN16 := Lib.hid (RN16.out.gr HGS.out)
  replace RN17 := Lib.hid (RN17.out.gr HGS.out)
  replace RN18 := Lib.hid (RN18.out.gr HGS.out)
  replace HB := Lib.hid (HB.out.trans (HGS.out.mono HB.out.size))
  clear HGS
  have RN19 := Lib.hid bx19; clear bx19
  have RN20 := Lib.hid bx20; clear bx20
  clear lx8; have lx8 := fun w' (h : Gr _ w') => HF.out.c 0 rfl w' (HG0.out.trans h)
  clear lx9; have lx9 := fun w' (h : Gr _ w') => HF.out.c 1 rfl w' (HG0.out.trans h)
  clear lx10; have lx10 := fun w' (h : Gr _ w') => HF.out.c 2 rfl w' (HG0.out.trans h)
  clear lx11; have lx11 := fun w' (h : Gr _ w') => HF.out.c 3 rfl w' (HG0.out.trans h)
  clear lx12; have lx12 := fun w' (h : Gr _ w') => HF.out.c 8 rfl w' (HG0.out.trans h)
  simp only [Act.put, lA, lB, lC]
  refine ck Tryz.call52 (fun w' hw => fsame_any (u1) _ _ _ om (by omega) (RN19.out.gr hw) (RN20.out.gr hw) (Lib.hid (HT.out.gr (Gr.trans HB.out hw)))) ?_
  iterate 13 refine tk ?_
  refine wpPlan_nil (hT.out _ _ ?_)
  intro G vw6 hg hf
  simp only [puts, Act.put, lA, lB, lC, lD, lE, ↓reduceIte, Nat.reduceEqDiff]
  have HG := Lib.hid (((((((((HF.out.gr (HG0.out.trans hg)).ar (RN13.out.gr hg)).ar (RN14.out.gr hg)).ar (RN15.out.gr hg)).ar (RN16.out.gr hg)).ar (RN17.out.gr hg)).ar (RN18.out.gr hg)).ar (RN19.out.gr hg)).ar (RN20.out.gr hg))
  simp only [List.zip_cons_cons, List.zip_nil_right, List.map_cons, List.map_nil, lF, lG] at HG
  clear hT T HF hg hf HG0 RN13 RN14 RN15 RN16 RN17 RN18 RN19 RN20 lx8 lx9 lx10 lx11 lx12 HB
  go_wp2
  refine hK.out _ _ ?_; clear hK K
  show Code.wp _ _ _ _ _
  refine fH (((((((((((((HG.out).er 16).er 15).er 14).er 13).er 12).er 11).er 10).er 9).er 8).er 7).er 6).er 3) fun Wx7 HF => ?_
  clear HG
  refine wp_cond_false (by rfl) ?_
  refine wp_skip ?_
  show Code.wp _ _ _ _ _
  have HB := HPb HF
  obtain ⟨u9, HZ9⟩ : ∃ z, Hid (-(a) = z) := ⟨_, Lib.hid rfl⟩
  have su9 : sz (u9) ≤ 9 := by rw [← HZ9.out]; rw [sz_neg]; omega
  have HZ10 : Hid (-(a) = u9) := Lib.hid (by first | exact ok | exact Rat.sub_self | exact Rat.add_comm _ _ | exact Rat.mul_comm _ _ | exact Rat.add_assoc _ _ _ | exact Rat.mul_assoc _ _ _ | exact Rat.mul_add _ _ _ | exact Rat.add_sub_cancel | exact Rat.mul_div_cancel (by assumption) | (simp only [← HZ9.out, ← HZ6.out, ← HZ4.out, ← HZ2.out, ← HZ1.out] <;> first | exact ok | exact Rat.sub_self | exact Rat.add_comm _ _ | exact Rat.mul_comm _ _ | exact Rat.add_assoc _ _ _ | exact Rat.mul_assoc _ _ _ | exact Rat.mul_add _ _ _ | exact Rat.add_sub_cancel | exact Rat.mul_div_cancel (by assumption)))
  have su10 : rz (u9) ≤ 27 := by have e := HZ10.out; first | omega | (rw [← e]; rw [rz_neg]; omega)
  obtain ⟨u11, HZ11⟩ : ∃ z, Hid (qabs (a) = z) := ⟨_, Lib.hid rfl⟩
  have su11 : sz (u11) ≤ 9 := by rw [← HZ11.out]; rw [sz_qabs]; omega
  have HZ12 : Hid (qabs (a) = u11) := Lib.hid (by first | exact ok | exact Rat.sub_self | exact Rat.add_comm _ _ | exact Rat.mul_comm _ _ | exact Rat.add_assoc _ _ _ | exact Rat.mul_assoc _ _ _ | exact Rat.mul_add _ _ _ | exact Rat.add_sub_cancel | exact Rat.mul_div_cancel (by assumption) | (simp only [← HZ11.out, ← HZ9.out, ← HZ6.out, ← HZ4.out, ← HZ2.out, ← HZ1.out] <;> first | exact ok | exact Rat.sub_self | exact Rat.add_comm _ _ | exact Rat.mul_comm _ _ | exact Rat.add_assoc _ _ _ | exact Rat.mul_assoc _ _ _ | exact Rat.mul_add _ _ _ | exact Rat.add_sub_cancel | exact Rat.mul_div_cancel (by assumption)))
  have su12 : rz (u11) ≤ 27 := by have e := HZ12.out; first | omega | (rw [← e]; rw [rz_qabs]; omega)
  have hd2 : decide (a = b) = false := decide_eq_false (by first | exact ok | exact Rat.sub_self | exact Rat.add_comm _ _ | exact Rat.mul_comm _ _ | exact Rat.add_assoc _ _ _ | exact Rat.mul_assoc _ _ _ | exact Rat.mul_add _ _ _ | exact Rat.add_sub_cancel | exact Rat.mul_div_cancel (by assumption) | (simp only [← HZ11.out, ← HZ9.out, ← HZ6.out, ← HZ4.out, ← HZ2.out, ← HZ1.out] <;> first | exact ok | exact Rat.sub_self | exact Rat.add_comm _ _ | exact Rat.mul_comm _ _ | exact Rat.add_assoc _ _ _ | exact Rat.mul_assoc _ _ _ | exact Rat.mul_add _ _ _ | exact Rat.add_sub_cancel | exact Rat.mul_div_cancel (by assumption)))
  have hd3 : ((c0) == (0)) = false := by have : ¬ (c0 = 0) := (by first | exact ok | exact Rat.sub_self | exact Rat.add_comm _ _ | exact Rat.mul_comm _ _ | exact Rat.add_assoc _ _ _ | exact Rat.mul_assoc _ _ _ | exact Rat.mul_add _ _ _ | exact Rat.add_sub_cancel | exact Rat.mul_div_cancel (by assumption) | (simp only [← HZ11.out, ← HZ9.out, ← HZ6.out, ← HZ4.out, ← HZ2.out, ← HZ1.out] <;> first | exact ok | exact Rat.sub_self | exact Rat.add_comm _ _ | exact Rat.mul_comm _ _ | exact Rat.add_assoc _ _ _ | exact Rat.mul_assoc _ _ _ | exact Rat.mul_add _ _ _ | exact Rat.add_sub_cancel | exact Rat.mul_div_cancel (by assumption))); simpa using this
  obtain ⟨u13, HZ13⟩ : ∃ z, Hid ((a).floor = z) := ⟨_, Lib.hid rfl⟩
  have su13 : wl (Int.natAbs (u13)) ≤ 10 := by rw [← HZ13.out]; have := wl_floor (a); omega
  have HZ14 : Hid ((a).floor = u13) := Lib.hid (by first | exact ok | exact Rat.sub_self | exact Rat.add_comm _ _ | exact Rat.mul_comm _ _ | exact Rat.add_assoc _ _ _ | exact Rat.mul_assoc _ _ _ | exact Rat.mul_add _ _ _ | exact Rat.add_sub_cancel | exact Rat.mul_div_cancel (by assumption) | (simp only [← HZ13.out, ← HZ11.out, ← HZ9.out, ← HZ6.out, ← HZ4.out, ← HZ2.out, ← HZ1.out] <;> first | exact ok | exact Rat.sub_self | exact Rat.add_comm _ _ | exact Rat.mul_comm _ _ | exact Rat.add_assoc _ _ _ | exact Rat.mul_assoc _ _ _ | exact Rat.mul_add _ _ _ | exact Rat.add_sub_cancel | exact Rat.mul_div_cancel (by assumption)))
  have su14 : tw (Int.natAbs (u13)) ≤ 28 := by have e := HZ14.out; first | omega | (rw [← e]; have := tw_floor (a); omega)
  have hd4 : (((itx (u13))).toList == ((itx (u13))).toList) = true := by simp
  have lx8 := HF.out.c 0 rfl
  have lx9 := HF.out.c 1 rfl
  have lx10 := HF.out.c 2 rfl
  refine kS fun K hK => ?_
  have HG0 : Hid (Gr Wx7 Wx7) := Lib.hid (Gr.refl _)
  refine pd 46 [(true, 0), (true, 2), (true, 1), (false, 3), (true, 4), (true, 5), (true, 6), (true, 8), (true, 7), (false, 9), (true, 10), (true, 11), (true, 12), (true, 13), (true, 15), (true, 14), (true, 16), (true, 17), (true, 18), (true, 19), (true, 20), (true, 21), (true, 23), (true, 22), (true, 24), (true, 25), (true, 26), (true, 27), (true, 28), (true, 29), (true, 30), (true, 31), (true, 32), (true, 33), (true, 34), (true, 35), (true, 38), (true, 36), (true, 37), (false, 39), (true, 40), (true, 41), (true, 42), (true, 43), (true, 44), (true, 45)] fun T hT => ?_
  iterate 2 refine tk ?_
  refine ck Tryz.call82 (fun w' hw => fneg_any (a) (u9) _ HZ9.out) ?_
  refine wpPlan_callE rfl (by rfl) Tryz.call83 (by rfl) (fun w' hw => (qneg_any (a) (u9) _ _ _ HZ10.out (HF.out.r 3 rfl (HG0.out.trans hw)) (HF.out.r 4 rfl (HG0.out.trans hw))).mono ?_)
  rintro e vv21 ⟨⟨rv13, rv14, rfl, bx21, bx22⟩, hg0⟩
  obtain ⟨ao13, nn13, cc13, rfl⟩ := Rn.sl bx21
  obtain ⟨ao14, nn14, cc14, rfl⟩ := Rn.sl bx22
  refine ⟨_, rfl, hg0, ?_⟩
  replace hg0 := Gr.trans hw hg0; clear hw
  replace HG0 := Lib.hid (HG0.out.trans hg0)
  have HGS := Lib.hid hg0; clear hg0
  replace HB := Lib.hid (HB.out.trans (HGS.out.mono HB.out.size))
  clear HGS
  have RN21 := Lib.hid bx21; clear bx21
  have RN22 := Lib.hid bx22; clear bx22
  clear lx8; have lx8 := fun w' (h : Gr _ w') => HF.out.c 0 rfl w' (HG0.out.trans h)
  clear lx9; have lx9 := fun w' (h : Gr _ w') => HF.out.c 1 rfl w' (HG0.out.trans h)
  clear lx10; have lx10 := fun w' (h : Gr _ w') => HF.out.c 2 rfl w' (HG0.out.trans h)
  simp only [Act.put, lA, lB, lC]
  refine ck Tryz.call52 (fun w' hw => fsame_any (u9) _ _ _ om (by omega) (RN21.out.gr hw) (RN22.out.gr hw) (Lib.hid (HT.out.gr (Gr.trans HB.out hw)))) ?_
  iterate 3 refine tk ?_
  refine ck Tryz.call84 (fun w' hw => fabs_any (a) (u11) _ HZ11.out) ?_
  refine wpPlan_callE rfl (by rfl) Tryz.call85 (by rfl) (fun w' hw => (qabs_ref (a) (u11) _ _ _ HZ12.out (HF.out.r 3 rfl (HG0.out.trans hw)) (HF.out.r 4 rfl (HG0.out.trans hw))).mono ?_)
  rintro e vv23 ⟨⟨rv15, rv16, rfl, bx23, bx24⟩, hg0⟩
  obtain ⟨ao15, nn15, cc15, rfl⟩ := Rn.sl bx23
  obtain ⟨ao16, nn16, cc16, rfl⟩ := Rn.sl bx24
  refine ⟨_, rfl, hg0, ?_⟩
  replace hg0 := Gr.trans hw hg0; clear hw
  replace HG0 := Lib.hid (HG0.out.trans hg0)
  have HGS := Lib.hid hg0; clear hg0
  replace RN21 := Lib.hid (RN21.out.gr HGS.out)
  replace RN22 := Lib.hid (RN22.out.gr HGS.out)
  replace HB := Lib.hid (HB.out.trans (HGS.out.mono HB.out.size))
  clear HGS
  have RN23 := Lib.hid bx23; clear bx23
  have RN24 := Lib.hid bx24; clear bx24
  clear lx8; have lx8 := fun w' (h : Gr _ w') => HF.out.c 0 rfl w' (HG0.out.trans h)
  clear lx9; have lx9 := fun w' (h : Gr _ w') => HF.out.c 1 rfl w' (HG0.out.trans h)
  clear lx10; have lx10 := fun w' (h : Gr _ w') => HF.out.c 2 rfl w' (HG0.out.trans h)
  simp only [Act.put, lA, lB, lC]
  refine ck Tryz.call52 (fun w' hw => fsame_any (u11) _ _ _ om (by omega) (RN23.out.gr hw) (RN24.out.gr hw) (Lib.hid (HT.out.gr (Gr.trans HB.out hw)))) ?_
  iterate 4 refine tk ?_
  refine ck Tryz.call86 (fun w' hw => fsign_any (a) (sa) _ HSA.out) ?_
  refine ck Tryz.call76 (fun w' hw => qsign_any (a) (sa) _ _ _ HSA.out (HF.out.r 3 rfl (HG0.out.trans hw)) (HF.out.r 4 rfl (HG0.out.trans hw))) ?_
  iterate 6 refine tk ?_
  refine ck Tryz.call64 (fun w' hw => fcmp_any (a) (b) (c0) _ HC0.out om om) ?_
  iterate 13 refine tk ?_
  refine ck Tryz.call56 (fun w' hw => ffloor_any (a) (u13) _ (Lib.hid HZ13.out) om) ?_
  refine ck Tryz.call72 (fun w' hw => itext_any (u13) _ om (Lib.hid (HT.out.gr (Gr.trans HB.out hw)))) ?_
  refine wpPlan_callE rfl (by rfl) Tryz.call88 (by rfl) (fun w' hw => (qfloor_any (a) (u13) _ _ _ (Lib.hid HZ14.out) (by omega) (HF.out.r 3 rfl (HG0.out.trans hw)) (HF.out.r 4 rfl (HG0.out.trans hw))).mono ?_)
  rintro e vv25 ⟨⟨rv17, rfl, bx25⟩, hg0⟩
  obtain ⟨ao17, nn17, cc17, rfl⟩ := Rn.sl bx25
  refine ⟨_, rfl, hg0, ?_⟩
  replace hg0 := Gr.trans hw hg0; clear hw
  replace HG0 := Lib.hid (HG0.out.trans hg0)
  have HGS := Lib.hid hg0; clear hg0
  replace RN21 := Lib.hid (RN21.out.gr HGS.out)
  replace RN22 := Lib.hid (RN22.out.gr HGS.out)
  replace RN23 := Lib.hid (RN23.out.gr HGS.out)
  replace RN24 := Lib.hid (RN24.out.gr HGS.out)
  replace HB := Lib.hid (HB.out.trans (HGS.out.mono HB.out.size))
  clear HGS
  have RN25 := Lib.hid bx25; clear bx25
  clear lx8; have lx8 := fun w' (h : Gr _ w') => HF.out.c 0 rfl w' (HG0.out.trans h)
  clear lx9; have lx9 := fun w' (h : Gr _ w') => HF.out.c 1 rfl w' (HG0.out.trans h)
  clear lx10; have lx10 := fun w' (h : Gr _ w') => HF.out.c 2 rfl w' (HG0.out.trans h)
  simp only [Act.put, lA, lB, lC]
  refine ck Tryz.call87 (fun w' hw => rtextZ_any (u13) _ _ (RN25.out.gr hw) (by omega)) ?_
  iterate 3 refine tk ?_
  refine ck Tryz.call49 (fun w' hw => worksq_any _ (Lib.hid (HT.out.gr (Gr.trans HB.out hw)))) ?_
  refine tk ?_
  refine wpPlan_nil (hT.out _ _ ?_)
  intro G vw7 hg hf
  simp only [puts, Act.put, lA, lB, lC, lD, lE, ↓reduceIte, Nat.reduceEqDiff]
  have HG := Lib.hid ((((((HF.out.gr (HG0.out.trans hg)).ar (RN21.out.gr hg)).ar (RN22.out.gr hg)).ar (RN23.out.gr hg)).ar (RN24.out.gr hg)).ar (RN25.out.gr hg))
  simp only [List.zip_cons_cons, List.zip_nil_right, List.map_cons, List.map_nil, lF, lG] at HG
  clear hT T HF hg hf HG0 RN21 RN22 RN23 RN24 RN25 lx8 lx9 lx10 HB
  go_wp2
  refine hK.out _ _ ?_; clear hK K
  show Code.wp _ _ _ _ _
  refine fH (((((((((((HG.out).er 9).er 8).er 7).er 6).er 5).er 4).er 3).er 2).er 1).er 0) fun Wx9 HF => ?_
  clear HG
  clear hd2 hd3 hd4
  refine wp_ret ?_
  try simp only [Exit.then, Exit.inBlock]
  exact bodyPost_ret (v := .bool true) (by simp [results, Tryz.results9, go_sem]) rfl ⟨rfl, HF.out.1⟩

set_option maxRecDepth 100000 in
set_option maxHeartbeats 8000000 in
theorem sumq_eq (bbxn : Bool) (vxn : Value) (kxn : Nat) (fxn : Nat → Nat) (mxn : Nat) (ixn : Int) (vxd : Value) (kxd : Nat) (fxd : Nat → Nat) (mxd : Nat) (bbyn : Bool) (vyn : Value) (kyn : Nat) (fyn : Nat → Nat) (myn : Nat) (iyn : Int) (vyd : Value) (kyd : Nat) (fyd : Nat → Nat) (myd : Nat) (a : Rat)  (sa : Int) (w : World) (HWxn : Hid (Wa w vxn kxn fxn)) (HFxn : Hid (∀ i, i < kxn → fxn i < 4294967296)) (HVxn : Hid (vl fxn kxn = mxn)) (HAxn : Hid ((if bbxn then -((mxn : Nat) : Int) else ((mxn : Nat) : Int)) = ixn)) (HWxd : Hid (Wa w vxd kxd fxd)) (HFxd : Hid (∀ i, i < kxd → fxd i < 4294967296)) (HVxd : Hid (vl fxd kxd = mxd)) (HQx : Hid (mkRat ixn (mxd + 1) = a)) (HWyn : Hid (Wa w vyn kyn fyn)) (HFyn : Hid (∀ i, i < kyn → fyn i < 4294967296)) (HVyn : Hid (vl fyn kyn = myn)) (HAyn : Hid ((if bbyn then -((myn : Nat) : Int) else ((myn : Nat) : Int)) = iyn)) (HWyd : Hid (Wa w vyd kyd fyd)) (HFyd : Hid (∀ i, i < kyd → fyd i < 4294967296)) (HVyd : Hid (vl fyd kyd = myd)) (HQy : Hid (mkRat iyn (myd + 1) = a)) (hkxn : kxn ≤ 8) (hkxd : kxd ≤ 8) (hkyn : kyn ≤ 8) (hkyd : kyd ≤ 8) (hb0 : a ≠ 0) (HSA : Hid (sgQ a = sa)) (hsb : ¬ sa = 0) (HT : Hid (Tab w)) :
    Calls Tryz.prog 9 #[.agg #[.bool bbxn, vxn, vxd], .agg #[.bool bbyn, vyn, vyd]] w fun e w' => e = .returned (.bool true) ∧ Below w.heap.size w w' := by
  obtain ⟨ao_xn, c_xn, rfl⟩ := HWxn.out.slice
  obtain ⟨ao_xd, c_xd, rfl⟩ := HWxd.out.slice
  have hm_xn : wl mxn ≤ 8 := by rw [← HVxn.out]; have := wl_le.2 (vl_lt HFxn.out); omega
  have hm_xd : wl mxd ≤ 8 := by rw [← HVxd.out]; have := wl_le.2 (vl_lt HFxd.out); omega
  have hi_x : wl (Int.natAbs ixn) ≤ 8 := by rw [zsize HAxn.out]; exact hm_xn
  have hs_x : sz a ≤ 9 := by rw [← HQx.out]; exact sz_great hi_x hm_xd
  have hr_x : rz a ≤ 27 := by rw [← HQx.out]; exact rz_great hi_x hm_xd (by decide)
  obtain ⟨ao_yn, c_yn, rfl⟩ := HWyn.out.slice
  obtain ⟨ao_yd, c_yd, rfl⟩ := HWyd.out.slice
  have hm_yn : wl myn ≤ 8 := by rw [← HVyn.out]; have := wl_le.2 (vl_lt HFyn.out); omega
  have hm_yd : wl myd ≤ 8 := by rw [← HVyd.out]; have := wl_le.2 (vl_lt HFyd.out); omega
  have hi_y : wl (Int.natAbs iyn) ≤ 8 := by rw [zsize HAyn.out]; exact hm_yn
  have hs_y : sz a ≤ 9 := by rw [← HQy.out]; exact sz_great hi_y hm_yd
  have hr_y : rz a ≤ 27 := by rw [← HQy.out]; exact rz_great hi_y hm_yd (by decide)
  go_enter Tryz.func9, Tryz.ntmps9
  have HF := Lib.hid (hp0 w)
  refine kS fun K hK => ?_
  refine wp_region_lit ?_
  go_wp2
  refine hK.out _ _ ?_; clear hK K
  show Code.wp _ _ _ _ _
  refine fH (((HF.out).al (b := w.heap.size) (by first | rfl | simp) (by decide)).al (b := w.heap.size + 1) (by first | rfl | simp) (by decide)) fun Wx0 HG => ?_
  clear HF; have HF := HG; clear HG
  generalize w.heap.size + 1 = gx1 at *
  refine wp_seq ?_
  have lx0 := HF.out.c 0 rfl
  have lx1 := HF.out.c 1 rfl
  refine kS fun K hK => ?_
  have HG0 : Hid (Gr Wx0 Wx0) := Lib.hid (Gr.refl _)
  refine sq 5 [(true, 0), (true, 1), (false, 2), (true, 3), (true, 4)] fun T hT => ?_
  iterate 2 refine tk ?_
  refine wpPlan_slice (cs := #[.bool (bbxn), (.slice ao_xn kxn c_xn), (.slice ao_xd kxd c_xd), .bool (bbyn), (.slice ao_yn kyn c_yn), (.slice ao_yd kyd c_yd)]) (E := 88) (n := 2) rfl (by rfl) (fun w' hw => ?_) (fun gx3 vv3 hg0 yx3 bx3 => ?_)
  · go_simp
  clear yx3
  replace HG0 := Lib.hid (HG0.out.trans hg0)
  have HGS := Lib.hid hg0; clear hg0
  clear HGS
  have BX3 := Lib.hid bx3; clear bx3
  clear lx0; have lx0 := fun w' (h : Gr _ w') => HF.out.c 0 rfl w' (HG0.out.trans h)
  clear lx1; have lx1 := fun w' (h : Gr _ w') => HF.out.c 1 rfl w' (HG0.out.trans h)
  simp only [Act.put, lA, lB, lC]
  refine ck Tryz.call53 (fun w' hw => qfew2_ok _ _ _ _ _ _ _ _ _ _ _ _ _ _ 8 gx3 _ (BX3.out.gr hw) (by omega) (by omega) (by omega) (by omega)) ?_
  refine tk ?_
  refine wpPlan_nil (hT.out _ _ ?_)
  intro vw1 hg
  simp only [puts, Act.put, lA, lB, lC, lD, lE, ↓reduceIte, Nat.reduceEqDiff]
  have HG := Lib.hid (HF.out.gr (HG0.out.trans hg))
  clear hT T HF hg HG0 BX3 lx0 lx1
  go_wp2
  refine hK.out _ _ ?_; clear hK K
  show Code.wp _ _ _ _ _
  have HF := HG; clear HG
  refine wp_cond_false (by rfl) ?_
  refine wp_skip ?_
  show Code.wp _ _ _ _ _
  have HB := HPb HF
  have lx0 := HF.out.c 0 rfl
  have lx1 := HF.out.c 1 rfl
  refine kS fun K hK => ?_
  have HG0 : Hid (Gr vw1 vw1) := Lib.hid (Gr.refl _)
  refine wp_region_plan 12 [8, 9, 10, 11] [] (fun i => if i = 8 then 5 else if i = 9 then 6 else if i = 10 then 7 else 8) (fun i => if i = 8 then .cells #[.int .u64 0, .string ⟨#[]⟩, .bool false, .int .u64 0, .string ⟨#[]⟩] 51 else if i = 9 then .cells #[.int .u64 0, .string ⟨#[]⟩, .bool false, .int .u64 0, .string ⟨#[]⟩] 51 else if i = 10 then .cells #[.bool false, .slice none 0 0, .slice none 0 0] 62 else .cells #[.bool false, .slice none 0 0, .slice none 0 0] 62) [(true, 0), (true, 2), (true, 4), (true, 6), (true, 1), (true, 3), (false, 5), (false, 7)] (by kernel_rfl) (by kernel_rfl) (by intro i hi; simp only [List.mem_cons, List.not_mem_nil, or_false] at hi; rcases hi with rfl | rfl | rfl | rfl <;> exact ⟨_, rfl, rfl, rfl, by simp, fun ρ w => by kernel_rfl⟩) (fun i hi => by cases hi) (fun _ _ _ _ _ h => h) (fun T hT => ?_)
  iterate 4 refine tk ?_
  refine ck Tryz.call54 (fun w' hw => gof_any bbxn kxn fxn mxn ixn kxd fxd mxd a ao_xn c_xn ao_xd c_xd w' (Lib.hid (HWxn.out.gr (Gr.trans HB.out hw))) HFxn HVxn HAxn (Lib.hid (HWxd.out.gr (Gr.trans HB.out hw))) HFxd HVxd HQx om om om om) ?_
  refine ck Tryz.call54 (fun w' hw => gof_any bbyn kyn fyn myn iyn kyd fyd myd a ao_yn c_yn ao_yd c_yd w' (Lib.hid (HWyn.out.gr (Gr.trans HB.out hw))) HFyn HVyn HAyn (Lib.hid (HWyd.out.gr (Gr.trans HB.out hw))) HFyd HVyd HQy om om om om) ?_
  refine wpPlan_callE rfl (by rfl) Tryz.call60 (by rfl) (fun w' hw => ((gref_any bbxn kxn fxn mxn ixn kxd fxd mxd a ao_xn c_xn ao_xd c_xd w' (Lib.hid (HWxn.out.gr (Gr.trans HB.out hw))) HFxn HVxn HAxn (Lib.hid (HWxd.out.gr (Gr.trans HB.out hw))) HFxd HVxd HQx om om om om)).mono ?_)
  rintro e vv4 ⟨⟨rv1, rv2, rfl, bx4, bx5⟩, hg0⟩
  obtain ⟨ao1, nn1, cc1, rfl⟩ := Rn.sl bx4
  obtain ⟨ao2, nn2, cc2, rfl⟩ := Rn.sl bx5
  refine ⟨_, rfl, hg0, ?_⟩
  replace hg0 := Gr.trans hw hg0; clear hw
  replace HG0 := Lib.hid (HG0.out.trans hg0)
  have HGS := Lib.hid hg0; clear hg0
  replace HB := Lib.hid (HB.out.trans (HGS.out.mono HB.out.size))
  clear HGS
  have RN4 := Lib.hid bx4; clear bx4
  have RN5 := Lib.hid bx5; clear bx5
  clear lx0; have lx0 := fun w' (h : Gr _ w') => HF.out.c 0 rfl w' (HG0.out.trans h)
  clear lx1; have lx1 := fun w' (h : Gr _ w') => HF.out.c 1 rfl w' (HG0.out.trans h)
  simp only [Act.put, lA, lB, lC]
  refine wpPlan_callE rfl (by rfl) Tryz.call60 (by rfl) (fun w' hw => ((gref_any bbyn kyn fyn myn iyn kyd fyd myd a ao_yn c_yn ao_yd c_yd w' (Lib.hid (HWyn.out.gr (Gr.trans HB.out hw))) HFyn HVyn HAyn (Lib.hid (HWyd.out.gr (Gr.trans HB.out hw))) HFyd HVyd HQy om om om om)).mono ?_)
  rintro e vv6 ⟨⟨rv3, rv4, rfl, bx6, bx7⟩, hg0⟩
  obtain ⟨ao3, nn3, cc3, rfl⟩ := Rn.sl bx6
  obtain ⟨ao4, nn4, cc4, rfl⟩ := Rn.sl bx7
  refine ⟨_, rfl, hg0, ?_⟩
  replace hg0 := Gr.trans hw hg0; clear hw
  replace HG0 := Lib.hid (HG0.out.trans hg0)
  have HGS := Lib.hid hg0; clear hg0
  replace RN4 := Lib.hid (RN4.out.gr HGS.out)
  replace RN5 := Lib.hid (RN5.out.gr HGS.out)
  replace HB := Lib.hid (HB.out.trans (HGS.out.mono HB.out.size))
  clear HGS
  have RN6 := Lib.hid bx6; clear bx6
  have RN7 := Lib.hid bx7; clear bx7
  clear lx0; have lx0 := fun w' (h : Gr _ w') => HF.out.c 0 rfl w' (HG0.out.trans h)
  clear lx1; have lx1 := fun w' (h : Gr _ w') => HF.out.c 1 rfl w' (HG0.out.trans h)
  simp only [Act.put, lA, lB, lC]
  refine wpPlan_nil (hT.out _ _ ?_)
  intro G vw2 hg hf
  simp only [puts, Act.put, lA, lB, lC, lD, lE, ↓reduceIte, Nat.reduceEqDiff]
  have HG := Lib.hid (((((HF.out.fr (HG0.out.trans hg) hf (zs := [(#[.int .u64 0, .string ⟨#[]⟩, .bool false, .int .u64 0, .string ⟨#[]⟩], 51), (#[.int .u64 0, .string ⟨#[]⟩, .bool false, .int .u64 0, .string ⟨#[]⟩], 51), (#[.bool false, .slice none 0 0, .slice none 0 0], 62), (#[.bool false, .slice none 0 0, .slice none 0 0], 62)]) rfl (by decide) (by decide)).ar (RN4.out.gr hg)).ar (RN5.out.gr hg)).ar (RN6.out.gr hg)).ar (RN7.out.gr hg))
  simp only [List.zip_cons_cons, List.zip_nil_right, List.map_cons, List.map_nil, lF, lG] at HG
  clear hT T HF hg hf HG0 RN4 RN5 RN6 RN7 lx0 lx1 HB
  generalize G 8 = gx8 at *
  generalize G 9 = gx9 at *
  generalize G 10 = gx10 at *
  generalize G 11 = gx11 at *
  have lx8 := HG.out.c 2 rfl; have fx8 := HG.out.f 2 rfl
  have lx9 := HG.out.c 3 rfl; have fx9 := HG.out.f 3 rfl
  have lx10 := HG.out.c 4 rfl; have fx10 := HG.out.f 4 rfl
  have lx11 := HG.out.c 5 rfl; have fx11 := HG.out.f 5 rfl
  have r0 := Gr.refl vw2
  obtain ⟨d8_9, d9_8⟩ := HG.out.ne 2 3 rfl rfl (by decide)
  obtain ⟨d8_10, d10_8⟩ := HG.out.ne 2 4 rfl rfl (by decide)
  obtain ⟨d8_11, d11_8⟩ := HG.out.ne 2 5 rfl rfl (by decide)
  obtain ⟨d9_10, d10_9⟩ := HG.out.ne 3 4 rfl rfl (by decide)
  obtain ⟨d9_11, d11_9⟩ := HG.out.ne 3 5 rfl rfl (by decide)
  obtain ⟨d10_11, d11_10⟩ := HG.out.ne 4 5 rfl rfl (by decide)
  go_wp2
  refine hK.out _ _ ?_; clear hK K
  show Code.wp _ _ _ _ _
  clear r0 lx8 fx8 lx9 fx9 lx10 fx10 lx11 fx11 d8_9 d9_8 d8_10 d10_8 d8_11 d11_8 d9_10 d10_9 d9_11 d11_9 d10_11 d11_10
  refine fH (((((((((((((HG.out).put2 2 0 rfl).put2 2 2 rfl).put 2 4 _ rfl).put2 3 0 rfl).put2 3 2 rfl).put 3 4 _ rfl).put2 4 0 rfl).put 4 2 _ rfl).put2 5 0 rfl).put 5 2 _ rfl).er 1).er 0) fun Wx3 HF => ?_
  clear HG
  have lx10 := HF.out.c 2 rfl
  have lx11 := HF.out.c 3 rfl
  refine kS fun K hK => ?_
  refine sq 4 [(true, 0), (true, 1), (true, 2), (true, 3)] fun T hT => ?_
  iterate 2 refine tk ?_
  refine ck Tryz.call74 (fun w' hw => qcmp_any (a) (a) (0) _ _ _ _ _ (by have e9 : (a) - (a) = (0 : Rat) := (by first | exact ok | exact Rat.sub_self | exact Rat.add_comm _ _ | exact Rat.mul_comm _ _ | exact Rat.add_assoc _ _ _ | exact Rat.mul_assoc _ _ _ | exact Rat.mul_add _ _ _ | exact Rat.add_sub_cancel | exact Rat.mul_div_cancel (by assumption)); exact sgQ_zero' e9) (by omega) (by omega) (HF.out.r 4 rfl hw) (HF.out.r 5 rfl hw) (HF.out.r 6 rfl hw) (HF.out.r 7 rfl hw)) ?_
  refine tk ?_
  refine nlS hT HF fun vw3 HG => ?_
  clear hT T HF lx10 lx11
  go_wp2
  refine hK.out _ _ ?_; clear hK K
  show Code.wp _ _ _ _ _
  have HF := HG; clear HG
  obtain ⟨u1, HZ1⟩ : ∃ z, Hid ((a) / (a) = z) := ⟨_, Lib.hid rfl⟩
  have su1 : sz (u1) ≤ 18 := by rw [← HZ1.out]; have := sz_div (a) (a); omega
  have lx8 := HF.out.c 0 rfl
  have lx9 := HF.out.c 1 rfl
  refine kS fun K hK => ?_
  refine sq 6 [(true, 0), (true, 1), (true, 2), (true, 3), (true, 4), (true, 5)] fun T hT => ?_
  iterate 2 refine tk ?_
  refine ck Tryz.call75 (fun w' hw => fdiv_any (a) (a) (u1) _ HZ1.out (by first | exact ok | exact Rat.sub_self | exact Rat.add_comm _ _ | exact Rat.mul_comm _ _ | exact Rat.add_assoc _ _ _ | exact Rat.mul_assoc _ _ _ | exact Rat.mul_add _ _ _ | exact Rat.add_sub_cancel | exact Rat.mul_div_cancel (by assumption) | (simp only [← HZ1.out] <;> first | exact ok | exact Rat.sub_self | exact Rat.add_comm _ _ | exact Rat.mul_comm _ _ | exact Rat.add_assoc _ _ _ | exact Rat.mul_assoc _ _ _ | exact Rat.mul_add _ _ _ | exact Rat.add_sub_cancel | exact Rat.mul_div_cancel (by assumption))) om om) ?_
  iterate 3 refine tk ?_
  refine nlS hT HF fun vw4 HG => ?_
  clear hT T HF lx8 lx9
  go_wp2
  refine hK.out _ _ ?_; clear hK K
  show Code.wp _ _ _ _ _
  refine fH ((HG.out).al (b := vw4.heap.size) (by first | rfl | simp) (by decide)) fun Wx5 HF => ?_
  clear HG
  generalize vw4.heap.size = gx12 at *
  have hd1 : ((sa) == (0)) = false := by have : ¬ (sa = 0) := (by first | exact ok | exact Rat.sub_self | exact Rat.add_comm _ _ | exact Rat.mul_comm _ _ | exact Rat.add_assoc _ _ _ | exact Rat.mul_assoc _ _ _ | exact Rat.mul_add _ _ _ | exact Rat.add_sub_cancel | exact Rat.mul_div_cancel (by assumption) | (simp only [← HZ1.out] <;> first | exact ok | exact Rat.sub_self | exact Rat.add_comm _ _ | exact Rat.mul_comm _ _ | exact Rat.add_assoc _ _ _ | exact Rat.mul_assoc _ _ _ | exact Rat.mul_add _ _ _ | exact Rat.add_sub_cancel | exact Rat.mul_div_cancel (by assumption))); simpa using this
  have lx11 := HF.out.c 3 rfl
  refine kS fun K hK => ?_
  refine sq 4 [(true, 0), (true, 1), (true, 2), (true, 3)] fun T hT => ?_
  refine tk ?_
  refine ck Tryz.call76 (fun w' hw => qsign_any (a) (sa) _ _ _ HSA.out (HF.out.r 6 rfl hw) (HF.out.r 7 rfl hw)) ?_
  iterate 2 refine tk ?_
  refine nlS hT HF fun vw5 HG => ?_
  clear hT T HF lx11
  go_wp2
  refine hK.out _ _ ?_; clear hK K
  show Code.wp _ _ _ _ _
  have HF := HG; clear HG
  clear hd1
  refine wp_seq ?_
  have HB := HPb HF
  obtain ⟨u2, HZ2⟩ : ∃ z, Hid ((a) + (a) = z) := ⟨_, Lib.hid rfl⟩
  have su2 : sz (u2) ≤ 19 := by rw [← HZ2.out]; have := sz_add (a) (a); omega
  have HZ3 : Hid ((a) + (a) = u2) := Lib.hid (by first | exact ok | exact Rat.sub_self | exact Rat.add_comm _ _ | exact Rat.mul_comm _ _ | exact Rat.add_assoc _ _ _ | exact Rat.mul_assoc _ _ _ | exact Rat.mul_add _ _ _ | exact Rat.add_sub_cancel | exact Rat.mul_div_cancel (by assumption) | (simp only [← HZ2.out, ← HZ1.out] <;> first | exact ok | exact Rat.sub_self | exact Rat.add_comm _ _ | exact Rat.mul_comm _ _ | exact Rat.add_assoc _ _ _ | exact Rat.mul_assoc _ _ _ | exact Rat.mul_add _ _ _ | exact Rat.add_sub_cancel | exact Rat.mul_div_cancel (by assumption)))
  have su3 : rz (u2) ≤ 55 := by have e := HZ3.out; first | omega | (rw [← e]; have := rz_add (a) (a); omega)
  have HZ4 : Hid ((a) - (a) = (0 : Rat)) := Lib.hid (by first | exact ok | exact Rat.sub_self | exact Rat.add_comm _ _ | exact Rat.mul_comm _ _ | exact Rat.add_assoc _ _ _ | exact Rat.mul_assoc _ _ _ | exact Rat.mul_add _ _ _ | exact Rat.add_sub_cancel | exact Rat.mul_div_cancel (by assumption) | (simp only [← HZ2.out, ← HZ1.out] <;> first | exact ok | exact Rat.sub_self | exact Rat.add_comm _ _ | exact Rat.mul_comm _ _ | exact Rat.add_assoc _ _ _ | exact Rat.mul_assoc _ _ _ | exact Rat.mul_add _ _ _ | exact Rat.add_sub_cancel | exact Rat.mul_div_cancel (by assumption)))
  have su4 : sz ((0 : Rat)) ≤ 19 := by have e := HZ4.out; first | omega | (rw [← e]; have := sz_sub (a) (a); omega)
  have HZ5 : Hid ((a) - (a) = (0 : Rat)) := Lib.hid (by first | exact ok | exact Rat.sub_self | exact Rat.add_comm _ _ | exact Rat.mul_comm _ _ | exact Rat.add_assoc _ _ _ | exact Rat.mul_assoc _ _ _ | exact Rat.mul_add _ _ _ | exact Rat.add_sub_cancel | exact Rat.mul_div_cancel (by assumption) | (simp only [← HZ2.out, ← HZ1.out] <;> first | exact ok | exact Rat.sub_self | exact Rat.add_comm _ _ | exact Rat.mul_comm _ _ | exact Rat.add_assoc _ _ _ | exact Rat.mul_assoc _ _ _ | exact Rat.mul_add _ _ _ | exact Rat.add_sub_cancel | exact Rat.mul_div_cancel (by assumption)))
  have su5 : rz ((0 : Rat)) ≤ 55 := by have e := HZ5.out; first | omega | (rw [← e]; have := rz_sub (a) (a); omega)
  obtain ⟨u6, HZ6⟩ : ∃ z, Hid ((a) * (a) = z) := ⟨_, Lib.hid rfl⟩
  have su6 : sz (u6) ≤ 18 := by rw [← HZ6.out]; have := sz_mul (a) (a); omega
  have HZ7 : Hid ((a) * (a) = u6) := Lib.hid (by first | exact ok | exact Rat.sub_self | exact Rat.add_comm _ _ | exact Rat.mul_comm _ _ | exact Rat.add_assoc _ _ _ | exact Rat.mul_assoc _ _ _ | exact Rat.mul_add _ _ _ | exact Rat.add_sub_cancel | exact Rat.mul_div_cancel (by assumption) | (simp only [← HZ6.out, ← HZ2.out, ← HZ1.out] <;> first | exact ok | exact Rat.sub_self | exact Rat.add_comm _ _ | exact Rat.mul_comm _ _ | exact Rat.add_assoc _ _ _ | exact Rat.mul_assoc _ _ _ | exact Rat.mul_add _ _ _ | exact Rat.add_sub_cancel | exact Rat.mul_div_cancel (by assumption)))
  have su7 : rz (u6) ≤ 54 := by have e := HZ7.out; first | omega | (rw [← e]; have := rz_mul (a) (a); omega)
  have HZ8 : Hid ((a) / (a) = u1) := Lib.hid (by first | exact ok | exact Rat.sub_self | exact Rat.add_comm _ _ | exact Rat.mul_comm _ _ | exact Rat.add_assoc _ _ _ | exact Rat.mul_assoc _ _ _ | exact Rat.mul_add _ _ _ | exact Rat.add_sub_cancel | exact Rat.mul_div_cancel (by assumption) | (simp only [← HZ6.out, ← HZ2.out, ← HZ1.out] <;> first | exact ok | exact Rat.sub_self | exact Rat.add_comm _ _ | exact Rat.mul_comm _ _ | exact Rat.add_assoc _ _ _ | exact Rat.mul_assoc _ _ _ | exact Rat.mul_add _ _ _ | exact Rat.add_sub_cancel | exact Rat.mul_div_cancel (by assumption)))
  have su8 : rz (u1) ≤ 54 := by have e := HZ8.out; first | omega | (rw [← e]; have := rz_div (a) (a); omega)
  have lx8 := HF.out.c 0 rfl
  have lx9 := HF.out.c 1 rfl
  have lx10 := HF.out.c 2 rfl
  have lx11 := HF.out.c 3 rfl
  have lx12 := HF.out.c 8 rfl
  refine kS fun K hK => ?_
  have HG0 : Hid (Gr vw5 vw5) := Lib.hid (Gr.refl _)
  refine pd 53 [(true, 0), (true, 1), (true, 2), (true, 3), (true, 4), (true, 5), (true, 6), (true, 8), (true, 9), (true, 7), (false, 10), (true, 11), (true, 12), (true, 13), (true, 14), (true, 15), (true, 16), (true, 18), (true, 19), (true, 17), (false, 20), (true, 21), (true, 22), (true, 23), (true, 24), (true, 25), (true, 26), (true, 28), (true, 29), (true, 27), (false, 30), (true, 31), (true, 32), (true, 33), (true, 34), (true, 35), (true, 36), (true, 37), (false, 38), (true, 39), (true, 40), (true, 41), (true, 42), (true, 43), (true, 44), (true, 45), (true, 46), (true, 47), (true, 48), (true, 49), (true, 50), (true, 51), (true, 52)] fun T hT => ?_
  iterate 2 refine tk ?_
  refine ck Tryz.call52 (fun w' hw => fsame_any (a) _ _ _ om (by omega) (HF.out.r 4 rfl (HG0.out.trans hw)) (HF.out.r 5 rfl (HG0.out.trans hw)) (Lib.hid (HT.out.gr (Gr.trans HB.out hw)))) ?_
  iterate 6 refine tk ?_
  refine ck Tryz.call65 (fun w' hw => fadd_any (a) (a) (u2) _ HZ2.out om om) ?_
  refine wpPlan_callE rfl (by rfl) Tryz.call77 (by rfl) (fun w' hw => (qadd_any (a) (a) (u2) _ _ _ _ _ HZ3.out (by omega) (by omega) (HF.out.r 4 rfl (HG0.out.trans hw)) (HF.out.r 5 rfl (HG0.out.trans hw)) (HF.out.r 6 rfl (HG0.out.trans hw)) (HF.out.r 7 rfl (HG0.out.trans hw))).mono ?_)
  rintro e vv13 ⟨⟨rv5, rv6, rfl, bx13, bx14⟩, hg0⟩
  obtain ⟨ao5, nn5, cc5, rfl⟩ := Rn.sl bx13
  obtain ⟨ao6, nn6, cc6, rfl⟩ := Rn.sl bx14
  refine ⟨_, rfl, hg0, ?_⟩
  replace hg0 := Gr.trans hw hg0; clear hw
  replace HG0 := Lib.hid (HG0.out.trans hg0)
  have HGS := Lib.hid hg0; clear hg0
  replace HB := Lib.hid (HB.out.trans (HGS.out.mono HB.out.size))
  clear HGS
  have RN13 := Lib.hid bx13; clear bx13
  have RN14 := Lib.hid bx14; clear bx14
  clear lx8; have lx8 := fun w' (h : Gr _ w') => HF.out.c 0 rfl w' (HG0.out.trans h)
  clear lx9; have lx9 := fun w' (h : Gr _ w') => HF.out.c 1 rfl w' (HG0.out.trans h)
  clear lx10; have lx10 := fun w' (h : Gr _ w') => HF.out.c 2 rfl w' (HG0.out.trans h)
  clear lx11; have lx11 := fun w' (h : Gr _ w') => HF.out.c 3 rfl w' (HG0.out.trans h)
  clear lx12; have lx12 := fun w' (h : Gr _ w') => HF.out.c 8 rfl w' (HG0.out.trans h)
  simp only [Act.put, lA, lB, lC]
  refine ck Tryz.call52 (fun w' hw => fsame_any (u2) _ _ _ om (by omega) (RN13.out.gr hw) (RN14.out.gr hw) (Lib.hid (HT.out.gr (Gr.trans HB.out hw)))) ?_
  iterate 7 refine tk ?_
  refine ck Tryz.call67 (fun w' hw => fsub_any (a) (a) (0 : Rat) _ HZ4.out om om) ?_
  refine wpPlan_callE rfl (by rfl) Tryz.call78 (by rfl) (fun w' hw => (qsub_any (a) (a) (0 : Rat) _ _ _ _ _ HZ5.out (by omega) (by omega) (HF.out.r 4 rfl (HG0.out.trans hw)) (HF.out.r 5 rfl (HG0.out.trans hw)) (HF.out.r 6 rfl (HG0.out.trans hw)) (HF.out.r 7 rfl (HG0.out.trans hw))).mono ?_)
  rintro e vv15 ⟨⟨rv7, rv8, rfl, bx15, bx16⟩, hg0⟩
  obtain ⟨ao7, nn7, cc7, rfl⟩ := Rn.sl bx15
  obtain ⟨ao8, nn8, cc8, rfl⟩ := Rn.sl bx16
  refine ⟨_, rfl, hg0, ?_⟩
  replace hg0 := Gr.trans hw hg0; clear hw
  replace HG0 := Lib.hid (HG0.out.trans hg0)
  have HGS := Lib.hid hg0; clear hg0
  replace RN13 := Lib.hid (RN13.out.gr HGS.out)
  replace RN14 := Lib.hid (RN14.out.gr HGS.out)
  replace HB := Lib.hid (HB.out.trans (HGS.out.mono HB.out.size))
  clear HGS
  have RN15 := Lib.hid bx15; clear bx15
  have RN16 := Lib.hid bx16; clear bx16
  clear lx8; have lx8 := fun w' (h : Gr _ w') => HF.out.c 0 rfl w' (HG0.out.trans h)
  clear lx9; have lx9 := fun w' (h : Gr _ w') => HF.out.c 1 rfl w' (HG0.out.trans h)
  clear lx10; have lx10 := fun w' (h : Gr _ w') => HF.out.c 2 rfl w' (HG0.out.trans h)
  clear lx11; have lx11 := fun w' (h : Gr _ w') => HF.out.c 3 rfl w' (HG0.out.trans h)
  clear lx12; have lx12 := fun w' (h : Gr _ w') => HF.out.c 8 rfl w' (HG0.out.trans h)
  simp only [Act.put, lA, lB, lC]
  refine ck Tryz.call52 (fun w' hw => fsame_any (0 : Rat) _ _ _ om (by omega) (RN15.out.gr hw) (RN16.out.gr hw) (Lib.hid (HT.out.gr (Gr.trans HB.out hw)))) ?_
  iterate 7 refine tk ?_
  refine ck Tryz.call79 (fun w' hw => fmul_any (a) (a) (u6) _ HZ6.out om om) ?_
  refine wpPlan_callE rfl (by rfl) Tryz.call80 (by rfl) (fun w' hw => (qmul_any (a) (a) (u6) _ _ _ _ _ HZ7.out (by omega) (by omega) (HF.out.r 4 rfl (HG0.out.trans hw)) (HF.out.r 5 rfl (HG0.out.trans hw)) (HF.out.r 6 rfl (HG0.out.trans hw)) (HF.out.r 7 rfl (HG0.out.trans hw))).mono ?_)
  rintro e vv17 ⟨⟨rv9, rv10, rfl, bx17, bx18⟩, hg0⟩
  obtain ⟨ao9, nn9, cc9, rfl⟩ := Rn.sl bx17
  obtain ⟨ao10, nn10, cc10, rfl⟩ := Rn.sl bx18
  refine ⟨_, rfl, hg0, ?_⟩
  replace hg0 := Gr.trans hw hg0; clear hw
  replace HG0 := Lib.hid (HG0.out.trans hg0)
  have HGS := Lib.hid hg0; clear hg0
  replace RN13 := Lib.hid (RN13.out.gr HGS.out)
  replace RN14 := Lib.hid (RN14.out.gr HGS.out)
  replace RN15 := Lib.hid (RN15.out.gr HGS.out)
  replace RN16 := Lib.hid (RN16.out.gr HGS.out)
  replace HB := Lib.hid (HB.out.trans (HGS.out.mono HB.out.size))
  clear HGS
  have RN17 := Lib.hid bx17; clear bx17
  have RN18 := Lib.hid bx18; clear bx18
  clear lx8; have lx8 := fun w' (h : Gr _ w') => HF.out.c 0 rfl w' (HG0.out.trans h)
  clear lx9; have lx9 := fun w' (h : Gr _ w') => HF.out.c 1 rfl w' (HG0.out.trans h)
  clear lx10; have lx10 := fun w' (h : Gr _ w') => HF.out.c 2 rfl w' (HG0.out.trans h)
  clear lx11; have lx11 := fun w' (h : Gr _ w') => HF.out.c 3 rfl w' (HG0.out.trans h)
  clear lx12; have lx12 := fun w' (h : Gr _ w') => HF.out.c 8 rfl w' (HG0.out.trans h)
  simp only [Act.put, lA, lB, lC]
  refine ck Tryz.call52 (fun w' hw => fsame_any (u6) _ _ _ om (by omega) (RN17.out.gr hw) (RN18.out.gr hw) (Lib.hid (HT.out.gr (Gr.trans HB.out hw)))) ?_
  iterate 6 refine tk ?_
  refine wpPlan_callE rfl (by rfl) Tryz.call81 (by rfl) (fun w' hw => (qdiv_any (a) (a) (u1) _ _ _ _ _ HZ8.out (by omega) (by omega) (HF.out.r 4 rfl (HG0.out.trans hw)) (HF.out.r 5 rfl (HG0.out.trans hw)) (HF.out.r 6 rfl (HG0.out.trans hw)) (HF.out.r 7 rfl (HG0.out.trans hw))).mono ?_)
  rintro e vv19 ⟨⟨rv11, rv12, rfl, bx19, bx20⟩, hg0⟩
  obtain ⟨ao11, nn11, cc11, rfl⟩ := Rn.sl bx19
  obtain ⟨ao12, nn12, cc12, rfl⟩ := Rn.sl bx20
  refine ⟨_, rfl, hg0, ?_⟩
  replace hg0 := Gr.trans hw hg0; clear hw
  replace HG0 := Lib.hid (HG0.out.trans hg0)
  have HGS := Lib.hid hg0; clear hg0
  replace RN13 := Lib.hid (RN13.out.gr HGS.out)
  replace RN14 := Lib.hid (RN14.out.gr HGS.out)
  replace RN15 := Lib.hid (RN15.out.gr HGS.out)
  replace RN16 := Lib.hid (RN16.out.gr HGS.out)
  replace RN17 := Lib.hid (RN17.out.gr HGS.out)
  replace RN18 := Lib.hid (RN18.out.gr HGS.out)
  replace HB := Lib.hid (HB.out.trans (HGS.out.mono HB.out.size))
  clear HGS
  have RN19 := Lib.hid bx19; clear bx19
  have RN20 := Lib.hid bx20; clear bx20
  clear lx8; have lx8 := fun w' (h : Gr _ w') => HF.out.c 0 rfl w' (HG0.out.trans h)
  clear lx9; have lx9 := fun w' (h : Gr _ w') => HF.out.c 1 rfl w' (HG0.out.trans h)
  clear lx10; have lx10 := fun w' (h : Gr _ w') => HF.out.c 2 rfl w' (HG0.out.trans h)
  clear lx11; have lx11 := fun w' (h : Gr _ w') => HF.out.c 3 rfl w' (HG0.out.trans h)
  clear lx12; have lx12 := fun w' (h : Gr _ w') => HF.out.c 8 rfl w' (HG0.out.trans h)
  simp only [Act.put, lA, lB, lC]
  refine ck Tryz.call52 (fun w' hw => fsame_any (u1) _ _ _ om (by omega) (RN19.out.gr hw) (RN20.out.gr hw) (Lib.hid (HT.out.gr (Gr.trans HB.out hw)))) ?_
  iterate 13 refine tk ?_
  refine wpPlan_nil (hT.out _ _ ?_)
  intro G vw6 hg hf
  simp only [puts, Act.put, lA, lB, lC, lD, lE, ↓reduceIte, Nat.reduceEqDiff]
  have HG := Lib.hid (((((((((HF.out.gr (HG0.out.trans hg)).ar (RN13.out.gr hg)).ar (RN14.out.gr hg)).ar (RN15.out.gr hg)).ar (RN16.out.gr hg)).ar (RN17.out.gr hg)).ar (RN18.out.gr hg)).ar (RN19.out.gr hg)).ar (RN20.out.gr hg))
  simp only [List.zip_cons_cons, List.zip_nil_right, List.map_cons, List.map_nil, lF, lG] at HG
  clear hT T HF hg hf HG0 RN13 RN14 RN15 RN16 RN17 RN18 RN19 RN20 lx8 lx9 lx10 lx11 lx12 HB
  go_wp2
  refine hK.out _ _ ?_; clear hK K
  show Code.wp _ _ _ _ _
  refine fH (((((((((((((HG.out).er 16).er 15).er 14).er 13).er 12).er 11).er 10).er 9).er 8).er 7).er 6).er 3) fun Wx7 HF => ?_
  clear HG
  refine wp_cond_false (by rfl) ?_
  refine wp_skip ?_
  show Code.wp _ _ _ _ _
  have HB := HPb HF
  obtain ⟨u9, HZ9⟩ : ∃ z, Hid (-(a) = z) := ⟨_, Lib.hid rfl⟩
  have su9 : sz (u9) ≤ 9 := by rw [← HZ9.out]; rw [sz_neg]; omega
  have HZ10 : Hid (-(a) = u9) := Lib.hid (by first | exact ok | exact Rat.sub_self | exact Rat.add_comm _ _ | exact Rat.mul_comm _ _ | exact Rat.add_assoc _ _ _ | exact Rat.mul_assoc _ _ _ | exact Rat.mul_add _ _ _ | exact Rat.add_sub_cancel | exact Rat.mul_div_cancel (by assumption) | (simp only [← HZ9.out, ← HZ6.out, ← HZ2.out, ← HZ1.out] <;> first | exact ok | exact Rat.sub_self | exact Rat.add_comm _ _ | exact Rat.mul_comm _ _ | exact Rat.add_assoc _ _ _ | exact Rat.mul_assoc _ _ _ | exact Rat.mul_add _ _ _ | exact Rat.add_sub_cancel | exact Rat.mul_div_cancel (by assumption)))
  have su10 : rz (u9) ≤ 27 := by have e := HZ10.out; first | omega | (rw [← e]; rw [rz_neg]; omega)
  obtain ⟨u11, HZ11⟩ : ∃ z, Hid (qabs (a) = z) := ⟨_, Lib.hid rfl⟩
  have su11 : sz (u11) ≤ 9 := by rw [← HZ11.out]; rw [sz_qabs]; omega
  have HZ12 : Hid (qabs (a) = u11) := Lib.hid (by first | exact ok | exact Rat.sub_self | exact Rat.add_comm _ _ | exact Rat.mul_comm _ _ | exact Rat.add_assoc _ _ _ | exact Rat.mul_assoc _ _ _ | exact Rat.mul_add _ _ _ | exact Rat.add_sub_cancel | exact Rat.mul_div_cancel (by assumption) | (simp only [← HZ11.out, ← HZ9.out, ← HZ6.out, ← HZ2.out, ← HZ1.out] <;> first | exact ok | exact Rat.sub_self | exact Rat.add_comm _ _ | exact Rat.mul_comm _ _ | exact Rat.add_assoc _ _ _ | exact Rat.mul_assoc _ _ _ | exact Rat.mul_add _ _ _ | exact Rat.add_sub_cancel | exact Rat.mul_div_cancel (by assumption)))
  have su12 : rz (u11) ≤ 27 := by have e := HZ12.out; first | omega | (rw [← e]; rw [rz_qabs]; omega)
  obtain ⟨u13, HZ13⟩ : ∃ z, Hid ((a).floor = z) := ⟨_, Lib.hid rfl⟩
  have su13 : wl (Int.natAbs (u13)) ≤ 10 := by rw [← HZ13.out]; have := wl_floor (a); omega
  have HZ14 : Hid ((a).floor = u13) := Lib.hid (by first | exact ok | exact Rat.sub_self | exact Rat.add_comm _ _ | exact Rat.mul_comm _ _ | exact Rat.add_assoc _ _ _ | exact Rat.mul_assoc _ _ _ | exact Rat.mul_add _ _ _ | exact Rat.add_sub_cancel | exact Rat.mul_div_cancel (by assumption) | (simp only [← HZ13.out, ← HZ11.out, ← HZ9.out, ← HZ6.out, ← HZ2.out, ← HZ1.out] <;> first | exact ok | exact Rat.sub_self | exact Rat.add_comm _ _ | exact Rat.mul_comm _ _ | exact Rat.add_assoc _ _ _ | exact Rat.mul_assoc _ _ _ | exact Rat.mul_add _ _ _ | exact Rat.add_sub_cancel | exact Rat.mul_div_cancel (by assumption)))
  have su14 : tw (Int.natAbs (u13)) ≤ 28 := by have e := HZ14.out; first | omega | (rw [← e]; have := tw_floor (a); omega)
  have hd2 : (((itx (u13))).toList == ((itx (u13))).toList) = true := by simp
  have lx8 := HF.out.c 0 rfl
  have lx9 := HF.out.c 1 rfl
  have lx10 := HF.out.c 2 rfl
  refine kS fun K hK => ?_
  have HG0 : Hid (Gr Wx7 Wx7) := Lib.hid (Gr.refl _)
  refine pd 46 [(true, 0), (true, 2), (true, 1), (false, 3), (true, 4), (true, 5), (true, 6), (true, 8), (true, 7), (false, 9), (true, 10), (true, 11), (true, 12), (true, 13), (true, 15), (true, 14), (true, 16), (true, 17), (true, 18), (true, 19), (true, 20), (true, 21), (true, 23), (true, 22), (true, 24), (true, 25), (true, 26), (true, 27), (true, 28), (true, 29), (true, 30), (true, 31), (true, 32), (true, 33), (true, 34), (true, 35), (true, 38), (true, 36), (true, 37), (false, 39), (true, 40), (true, 41), (true, 42), (true, 43), (true, 44), (true, 45)] fun T hT => ?_
  iterate 2 refine tk ?_
  refine ck Tryz.call82 (fun w' hw => fneg_any (a) (u9) _ HZ9.out) ?_
  refine wpPlan_callE rfl (by rfl) Tryz.call83 (by rfl) (fun w' hw => (qneg_any (a) (u9) _ _ _ HZ10.out (HF.out.r 3 rfl (HG0.out.trans hw)) (HF.out.r 4 rfl (HG0.out.trans hw))).mono ?_)
  rintro e vv21 ⟨⟨rv13, rv14, rfl, bx21, bx22⟩, hg0⟩
  obtain ⟨ao13, nn13, cc13, rfl⟩ := Rn.sl bx21
  obtain ⟨ao14, nn14, cc14, rfl⟩ := Rn.sl bx22
  refine ⟨_, rfl, hg0, ?_⟩
  replace hg0 := Gr.trans hw hg0; clear hw
  replace HG0 := Lib.hid (HG0.out.trans hg0)
  have HGS := Lib.hid hg0; clear hg0
  replace HB := Lib.hid (HB.out.trans (HGS.out.mono HB.out.size))
  clear HGS
  have RN21 := Lib.hid bx21; clear bx21
  have RN22 := Lib.hid bx22; clear bx22
  clear lx8; have lx8 := fun w' (h : Gr _ w') => HF.out.c 0 rfl w' (HG0.out.trans h)
  clear lx9; have lx9 := fun w' (h : Gr _ w') => HF.out.c 1 rfl w' (HG0.out.trans h)
  clear lx10; have lx10 := fun w' (h : Gr _ w') => HF.out.c 2 rfl w' (HG0.out.trans h)
  simp only [Act.put, lA, lB, lC]
  refine ck Tryz.call52 (fun w' hw => fsame_any (u9) _ _ _ om (by omega) (RN21.out.gr hw) (RN22.out.gr hw) (Lib.hid (HT.out.gr (Gr.trans HB.out hw)))) ?_
  iterate 3 refine tk ?_
  refine ck Tryz.call84 (fun w' hw => fabs_any (a) (u11) _ HZ11.out) ?_
  refine wpPlan_callE rfl (by rfl) Tryz.call85 (by rfl) (fun w' hw => (qabs_ref (a) (u11) _ _ _ HZ12.out (HF.out.r 3 rfl (HG0.out.trans hw)) (HF.out.r 4 rfl (HG0.out.trans hw))).mono ?_)
  rintro e vv23 ⟨⟨rv15, rv16, rfl, bx23, bx24⟩, hg0⟩
  obtain ⟨ao15, nn15, cc15, rfl⟩ := Rn.sl bx23
  obtain ⟨ao16, nn16, cc16, rfl⟩ := Rn.sl bx24
  refine ⟨_, rfl, hg0, ?_⟩
  replace hg0 := Gr.trans hw hg0; clear hw
  replace HG0 := Lib.hid (HG0.out.trans hg0)
  have HGS := Lib.hid hg0; clear hg0
  replace RN21 := Lib.hid (RN21.out.gr HGS.out)
  replace RN22 := Lib.hid (RN22.out.gr HGS.out)
  replace HB := Lib.hid (HB.out.trans (HGS.out.mono HB.out.size))
  clear HGS
  have RN23 := Lib.hid bx23; clear bx23
  have RN24 := Lib.hid bx24; clear bx24
  clear lx8; have lx8 := fun w' (h : Gr _ w') => HF.out.c 0 rfl w' (HG0.out.trans h)
  clear lx9; have lx9 := fun w' (h : Gr _ w') => HF.out.c 1 rfl w' (HG0.out.trans h)
  clear lx10; have lx10 := fun w' (h : Gr _ w') => HF.out.c 2 rfl w' (HG0.out.trans h)
  simp only [Act.put, lA, lB, lC]
  refine ck Tryz.call52 (fun w' hw => fsame_any (u11) _ _ _ om (by omega) (RN23.out.gr hw) (RN24.out.gr hw) (Lib.hid (HT.out.gr (Gr.trans HB.out hw)))) ?_
  iterate 4 refine tk ?_
  refine ck Tryz.call86 (fun w' hw => fsign_any (a) (sa) _ HSA.out) ?_
  refine ck Tryz.call76 (fun w' hw => qsign_any (a) (sa) _ _ _ HSA.out (HF.out.r 3 rfl (HG0.out.trans hw)) (HF.out.r 4 rfl (HG0.out.trans hw))) ?_
  iterate 6 refine tk ?_
  refine ck Tryz.call64 (fun w' hw => fcmp_any (a) (a) (0) _ (by have e9 : (a) - (a) = (0 : Rat) := (by first | exact ok | exact Rat.sub_self | exact Rat.add_comm _ _ | exact Rat.mul_comm _ _ | exact Rat.add_assoc _ _ _ | exact Rat.mul_assoc _ _ _ | exact Rat.mul_add _ _ _ | exact Rat.add_sub_cancel | exact Rat.mul_div_cancel (by assumption) | (simp only [← HZ11.out, ← HZ9.out, ← HZ6.out, ← HZ2.out, ← HZ1.out] <;> first | exact ok | exact Rat.sub_self | exact Rat.add_comm _ _ | exact Rat.mul_comm _ _ | exact Rat.add_assoc _ _ _ | exact Rat.mul_assoc _ _ _ | exact Rat.mul_add _ _ _ | exact Rat.add_sub_cancel | exact Rat.mul_div_cancel (by assumption))); exact sgQ_zero' e9) om om) ?_
  iterate 13 refine tk ?_
  refine ck Tryz.call56 (fun w' hw => ffloor_any (a) (u13) _ (Lib.hid HZ13.out) om) ?_
  refine ck Tryz.call72 (fun w' hw => itext_any (u13) _ om (Lib.hid (HT.out.gr (Gr.trans HB.out hw)))) ?_
  refine wpPlan_callE rfl (by rfl) Tryz.call88 (by rfl) (fun w' hw => (qfloor_any (a) (u13) _ _ _ (Lib.hid HZ14.out) (by omega) (HF.out.r 3 rfl (HG0.out.trans hw)) (HF.out.r 4 rfl (HG0.out.trans hw))).mono ?_)
  rintro e vv25 ⟨⟨rv17, rfl, bx25⟩, hg0⟩
  obtain ⟨ao17, nn17, cc17, rfl⟩ := Rn.sl bx25
  refine ⟨_, rfl, hg0, ?_⟩
  replace hg0 := Gr.trans hw hg0; clear hw
  replace HG0 := Lib.hid (HG0.out.trans hg0)
  have HGS := Lib.hid hg0; clear hg0
  replace RN21 := Lib.hid (RN21.out.gr HGS.out)
  replace RN22 := Lib.hid (RN22.out.gr HGS.out)
  replace RN23 := Lib.hid (RN23.out.gr HGS.out)
  replace RN24 := Lib.hid (RN24.out.gr HGS.out)
  replace HB := Lib.hid (HB.out.trans (HGS.out.mono HB.out.size))
  clear HGS
  have RN25 := Lib.hid bx25; clear bx25
  clear lx8; have lx8 := fun w' (h : Gr _ w') => HF.out.c 0 rfl w' (HG0.out.trans h)
  clear lx9; have lx9 := fun w' (h : Gr _ w') => HF.out.c 1 rfl w' (HG0.out.trans h)
  clear lx10; have lx10 := fun w' (h : Gr _ w') => HF.out.c 2 rfl w' (HG0.out.trans h)
  simp only [Act.put, lA, lB, lC]
  refine ck Tryz.call87 (fun w' hw => rtextZ_any (u13) _ _ (RN25.out.gr hw) (by omega)) ?_
  iterate 3 refine tk ?_
  refine ck Tryz.call49 (fun w' hw => worksq_any _ (Lib.hid (HT.out.gr (Gr.trans HB.out hw)))) ?_
  refine tk ?_
  refine wpPlan_nil (hT.out _ _ ?_)
  intro G vw7 hg hf
  simp only [puts, Act.put, lA, lB, lC, lD, lE, ↓reduceIte, Nat.reduceEqDiff]
  have HG := Lib.hid ((((((HF.out.gr (HG0.out.trans hg)).ar (RN21.out.gr hg)).ar (RN22.out.gr hg)).ar (RN23.out.gr hg)).ar (RN24.out.gr hg)).ar (RN25.out.gr hg))
  simp only [List.zip_cons_cons, List.zip_nil_right, List.map_cons, List.map_nil, lF, lG] at HG
  clear hT T HF hg hf HG0 RN21 RN22 RN23 RN24 RN25 lx8 lx9 lx10 HB
  go_wp2
  refine hK.out _ _ ?_; clear hK K
  show Code.wp _ _ _ _ _
  refine fH (((((((((((HG.out).er 9).er 8).er 7).er 6).er 5).er 4).er 3).er 2).er 1).er 0) fun Wx9 HF => ?_
  clear HG
  clear hd2
  refine wp_ret ?_
  try simp only [Exit.then, Exit.inBlock]
  exact bodyPost_ret (v := .bool true) (by simp [results, Tryz.results9, go_sem]) rfl ⟨rfl, HF.out.1⟩

set_option maxRecDepth 100000 in
set_option maxHeartbeats 8000000 in
theorem sumq_z (bbxn : Bool) (vxn : Value) (kxn : Nat) (fxn : Nat → Nat) (mxn : Nat) (ixn : Int) (vxd : Value) (kxd : Nat) (fxd : Nat → Nat) (mxd : Nat) (bbyn : Bool) (vyn : Value) (kyn : Nat) (fyn : Nat → Nat) (myn : Nat) (iyn : Int) (vyd : Value) (kyd : Nat) (fyd : Nat → Nat) (myd : Nat) (a : Rat)  (sa : Int) (c0 : Int) (w : World) (HWxn : Hid (Wa w vxn kxn fxn)) (HFxn : Hid (∀ i, i < kxn → fxn i < 4294967296)) (HVxn : Hid (vl fxn kxn = mxn)) (HAxn : Hid ((if bbxn then -((mxn : Nat) : Int) else ((mxn : Nat) : Int)) = ixn)) (HWxd : Hid (Wa w vxd kxd fxd)) (HFxd : Hid (∀ i, i < kxd → fxd i < 4294967296)) (HVxd : Hid (vl fxd kxd = mxd)) (HQx : Hid (mkRat ixn (mxd + 1) = a)) (HWyn : Hid (Wa w vyn kyn fyn)) (HFyn : Hid (∀ i, i < kyn → fyn i < 4294967296)) (HVyn : Hid (vl fyn kyn = myn)) (HAyn : Hid ((if bbyn then -((myn : Nat) : Int) else ((myn : Nat) : Int)) = iyn)) (HWyd : Hid (Wa w vyd kyd fyd)) (HFyd : Hid (∀ i, i < kyd → fyd i < 4294967296)) (HVyd : Hid (vl fyd kyd = myd)) (HQy : Hid (mkRat iyn (myd + 1) = (0 : Rat))) (hkxn : kxn ≤ 8) (hkxd : kxd ≤ 8) (hkyn : kyn ≤ 8) (hkyd : kyd ≤ 8) (ha0 : a ≠ 0) (HSA : Hid (sgQ a = sa)) (HC0 : Hid (sgQ (a - (0 : Rat)) = c0)) (hc0 : ¬ c0 = 0) (HT : Hid (Tab w)) :
    Calls Tryz.prog 9 #[.agg #[.bool bbxn, vxn, vxd], .agg #[.bool bbyn, vyn, vyd]] w fun e w' => e = .returned (.bool true) ∧ Below w.heap.size w w' := by
  obtain ⟨ao_xn, c_xn, rfl⟩ := HWxn.out.slice
  obtain ⟨ao_xd, c_xd, rfl⟩ := HWxd.out.slice
  have hm_xn : wl mxn ≤ 8 := by rw [← HVxn.out]; have := wl_le.2 (vl_lt HFxn.out); omega
  have hm_xd : wl mxd ≤ 8 := by rw [← HVxd.out]; have := wl_le.2 (vl_lt HFxd.out); omega
  have hi_x : wl (Int.natAbs ixn) ≤ 8 := by rw [zsize HAxn.out]; exact hm_xn
  have hs_x : sz a ≤ 9 := by rw [← HQx.out]; exact sz_great hi_x hm_xd
  have hr_x : rz a ≤ 27 := by rw [← HQx.out]; exact rz_great hi_x hm_xd (by decide)
  obtain ⟨ao_yn, c_yn, rfl⟩ := HWyn.out.slice
  obtain ⟨ao_yd, c_yd, rfl⟩ := HWyd.out.slice
  have hm_yn : wl myn ≤ 8 := by rw [← HVyn.out]; have := wl_le.2 (vl_lt HFyn.out); omega
  have hm_yd : wl myd ≤ 8 := by rw [← HVyd.out]; have := wl_le.2 (vl_lt HFyd.out); omega
  have hi_y : wl (Int.natAbs iyn) ≤ 8 := by rw [zsize HAyn.out]; exact hm_yn
  have hs_y : sz (0 : Rat) ≤ 9 := by rw [← HQy.out]; exact sz_great hi_y hm_yd
  have hr_y : rz (0 : Rat) ≤ 27 := by rw [← HQy.out]; exact rz_great hi_y hm_yd (by decide)
  go_enter Tryz.func9, Tryz.ntmps9
  have HF := Lib.hid (hp0 w)
  refine kS fun K hK => ?_
  refine wp_region_lit ?_
  go_wp2
  refine hK.out _ _ ?_; clear hK K
  show Code.wp _ _ _ _ _
  refine fH (((HF.out).al (b := w.heap.size) (by first | rfl | simp) (by decide)).al (b := w.heap.size + 1) (by first | rfl | simp) (by decide)) fun Wx0 HG => ?_
  clear HF; have HF := HG; clear HG
  generalize w.heap.size + 1 = gx1 at *
  refine wp_seq ?_
  have lx0 := HF.out.c 0 rfl
  have lx1 := HF.out.c 1 rfl
  refine kS fun K hK => ?_
  have HG0 : Hid (Gr Wx0 Wx0) := Lib.hid (Gr.refl _)
  refine sq 5 [(true, 0), (true, 1), (false, 2), (true, 3), (true, 4)] fun T hT => ?_
  iterate 2 refine tk ?_
  refine wpPlan_slice (cs := #[.bool (bbxn), (.slice ao_xn kxn c_xn), (.slice ao_xd kxd c_xd), .bool (bbyn), (.slice ao_yn kyn c_yn), (.slice ao_yd kyd c_yd)]) (E := 88) (n := 2) rfl (by rfl) (fun w' hw => ?_) (fun gx3 vv3 hg0 yx3 bx3 => ?_)
  · go_simp
  clear yx3
  replace HG0 := Lib.hid (HG0.out.trans hg0)
  have HGS := Lib.hid hg0; clear hg0
  clear HGS
  have BX3 := Lib.hid bx3; clear bx3
  clear lx0; have lx0 := fun w' (h : Gr _ w') => HF.out.c 0 rfl w' (HG0.out.trans h)
  clear lx1; have lx1 := fun w' (h : Gr _ w') => HF.out.c 1 rfl w' (HG0.out.trans h)
  simp only [Act.put, lA, lB, lC]
  refine ck Tryz.call53 (fun w' hw => qfew2_ok _ _ _ _ _ _ _ _ _ _ _ _ _ _ 8 gx3 _ (BX3.out.gr hw) (by omega) (by omega) (by omega) (by omega)) ?_
  refine tk ?_
  refine wpPlan_nil (hT.out _ _ ?_)
  intro vw1 hg
  simp only [puts, Act.put, lA, lB, lC, lD, lE, ↓reduceIte, Nat.reduceEqDiff]
  have HG := Lib.hid (HF.out.gr (HG0.out.trans hg))
  clear hT T HF hg HG0 BX3 lx0 lx1
  go_wp2
  refine hK.out _ _ ?_; clear hK K
  show Code.wp _ _ _ _ _
  have HF := HG; clear HG
  refine wp_cond_false (by rfl) ?_
  refine wp_skip ?_
  show Code.wp _ _ _ _ _
  have HB := HPb HF
  have lx0 := HF.out.c 0 rfl
  have lx1 := HF.out.c 1 rfl
  refine kS fun K hK => ?_
  have HG0 : Hid (Gr vw1 vw1) := Lib.hid (Gr.refl _)
  refine wp_region_plan 12 [8, 9, 10, 11] [] (fun i => if i = 8 then 5 else if i = 9 then 6 else if i = 10 then 7 else 8) (fun i => if i = 8 then .cells #[.int .u64 0, .string ⟨#[]⟩, .bool false, .int .u64 0, .string ⟨#[]⟩] 51 else if i = 9 then .cells #[.int .u64 0, .string ⟨#[]⟩, .bool false, .int .u64 0, .string ⟨#[]⟩] 51 else if i = 10 then .cells #[.bool false, .slice none 0 0, .slice none 0 0] 62 else .cells #[.bool false, .slice none 0 0, .slice none 0 0] 62) [(true, 0), (true, 2), (true, 4), (true, 6), (true, 1), (true, 3), (false, 5), (false, 7)] (by kernel_rfl) (by kernel_rfl) (by intro i hi; simp only [List.mem_cons, List.not_mem_nil, or_false] at hi; rcases hi with rfl | rfl | rfl | rfl <;> exact ⟨_, rfl, rfl, rfl, by simp, fun ρ w => by kernel_rfl⟩) (fun i hi => by cases hi) (fun _ _ _ _ _ h => h) (fun T hT => ?_)
  iterate 4 refine tk ?_
  refine ck Tryz.call54 (fun w' hw => gof_any bbxn kxn fxn mxn ixn kxd fxd mxd a ao_xn c_xn ao_xd c_xd w' (Lib.hid (HWxn.out.gr (Gr.trans HB.out hw))) HFxn HVxn HAxn (Lib.hid (HWxd.out.gr (Gr.trans HB.out hw))) HFxd HVxd HQx om om om om) ?_
  refine ck Tryz.call54 (fun w' hw => gof_any bbyn kyn fyn myn iyn kyd fyd myd (0 : Rat) ao_yn c_yn ao_yd c_yd w' (Lib.hid (HWyn.out.gr (Gr.trans HB.out hw))) HFyn HVyn HAyn (Lib.hid (HWyd.out.gr (Gr.trans HB.out hw))) HFyd HVyd HQy om om om om) ?_
  refine wpPlan_callE rfl (by rfl) Tryz.call60 (by rfl) (fun w' hw => ((gref_any bbxn kxn fxn mxn ixn kxd fxd mxd a ao_xn c_xn ao_xd c_xd w' (Lib.hid (HWxn.out.gr (Gr.trans HB.out hw))) HFxn HVxn HAxn (Lib.hid (HWxd.out.gr (Gr.trans HB.out hw))) HFxd HVxd HQx om om om om)).mono ?_)
  rintro e vv4 ⟨⟨rv1, rv2, rfl, bx4, bx5⟩, hg0⟩
  obtain ⟨ao1, nn1, cc1, rfl⟩ := Rn.sl bx4
  obtain ⟨ao2, nn2, cc2, rfl⟩ := Rn.sl bx5
  refine ⟨_, rfl, hg0, ?_⟩
  replace hg0 := Gr.trans hw hg0; clear hw
  replace HG0 := Lib.hid (HG0.out.trans hg0)
  have HGS := Lib.hid hg0; clear hg0
  replace HB := Lib.hid (HB.out.trans (HGS.out.mono HB.out.size))
  clear HGS
  have RN4 := Lib.hid bx4; clear bx4
  have RN5 := Lib.hid bx5; clear bx5
  clear lx0; have lx0 := fun w' (h : Gr _ w') => HF.out.c 0 rfl w' (HG0.out.trans h)
  clear lx1; have lx1 := fun w' (h : Gr _ w') => HF.out.c 1 rfl w' (HG0.out.trans h)
  simp only [Act.put, lA, lB, lC]
  refine wpPlan_callE rfl (by rfl) Tryz.call60 (by rfl) (fun w' hw => ((gref_any bbyn kyn fyn myn iyn kyd fyd myd (0 : Rat) ao_yn c_yn ao_yd c_yd w' (Lib.hid (HWyn.out.gr (Gr.trans HB.out hw))) HFyn HVyn HAyn (Lib.hid (HWyd.out.gr (Gr.trans HB.out hw))) HFyd HVyd HQy om om om om)).mono ?_)
  rintro e vv6 ⟨⟨rv3, rv4, rfl, bx6, bx7⟩, hg0⟩
  obtain ⟨ao3, nn3, cc3, rfl⟩ := Rn.sl bx6
  obtain ⟨ao4, nn4, cc4, rfl⟩ := Rn.sl bx7
  refine ⟨_, rfl, hg0, ?_⟩
  replace hg0 := Gr.trans hw hg0; clear hw
  replace HG0 := Lib.hid (HG0.out.trans hg0)
  have HGS := Lib.hid hg0; clear hg0
  replace RN4 := Lib.hid (RN4.out.gr HGS.out)
  replace RN5 := Lib.hid (RN5.out.gr HGS.out)
  replace HB := Lib.hid (HB.out.trans (HGS.out.mono HB.out.size))
  clear HGS
  have RN6 := Lib.hid bx6; clear bx6
  have RN7 := Lib.hid bx7; clear bx7
  clear lx0; have lx0 := fun w' (h : Gr _ w') => HF.out.c 0 rfl w' (HG0.out.trans h)
  clear lx1; have lx1 := fun w' (h : Gr _ w') => HF.out.c 1 rfl w' (HG0.out.trans h)
  simp only [Act.put, lA, lB, lC]
  refine wpPlan_nil (hT.out _ _ ?_)
  intro G vw2 hg hf
  simp only [puts, Act.put, lA, lB, lC, lD, lE, ↓reduceIte, Nat.reduceEqDiff]
  have HG := Lib.hid (((((HF.out.fr (HG0.out.trans hg) hf (zs := [(#[.int .u64 0, .string ⟨#[]⟩, .bool false, .int .u64 0, .string ⟨#[]⟩], 51), (#[.int .u64 0, .string ⟨#[]⟩, .bool false, .int .u64 0, .string ⟨#[]⟩], 51), (#[.bool false, .slice none 0 0, .slice none 0 0], 62), (#[.bool false, .slice none 0 0, .slice none 0 0], 62)]) rfl (by decide) (by decide)).ar (RN4.out.gr hg)).ar (RN5.out.gr hg)).ar (RN6.out.gr hg)).ar (RN7.out.gr hg))
  simp only [List.zip_cons_cons, List.zip_nil_right, List.map_cons, List.map_nil, lF, lG] at HG
  clear hT T HF hg hf HG0 RN4 RN5 RN6 RN7 lx0 lx1 HB
  generalize G 8 = gx8 at *
  generalize G 9 = gx9 at *
  generalize G 10 = gx10 at *
  generalize G 11 = gx11 at *
  have lx8 := HG.out.c 2 rfl; have fx8 := HG.out.f 2 rfl
  have lx9 := HG.out.c 3 rfl; have fx9 := HG.out.f 3 rfl
  have lx10 := HG.out.c 4 rfl; have fx10 := HG.out.f 4 rfl
  have lx11 := HG.out.c 5 rfl; have fx11 := HG.out.f 5 rfl
  have r0 := Gr.refl vw2
  obtain ⟨d8_9, d9_8⟩ := HG.out.ne 2 3 rfl rfl (by decide)
  obtain ⟨d8_10, d10_8⟩ := HG.out.ne 2 4 rfl rfl (by decide)
  obtain ⟨d8_11, d11_8⟩ := HG.out.ne 2 5 rfl rfl (by decide)
  obtain ⟨d9_10, d10_9⟩ := HG.out.ne 3 4 rfl rfl (by decide)
  obtain ⟨d9_11, d11_9⟩ := HG.out.ne 3 5 rfl rfl (by decide)
  obtain ⟨d10_11, d11_10⟩ := HG.out.ne 4 5 rfl rfl (by decide)
  go_wp2
  refine hK.out _ _ ?_; clear hK K
  show Code.wp _ _ _ _ _
  clear r0 lx8 fx8 lx9 fx9 lx10 fx10 lx11 fx11 d8_9 d9_8 d8_10 d10_8 d8_11 d11_8 d9_10 d10_9 d9_11 d11_9 d10_11 d11_10
  refine fH (((((((((((((HG.out).put2 2 0 rfl).put2 2 2 rfl).put 2 4 _ rfl).put2 3 0 rfl).put2 3 2 rfl).put 3 4 _ rfl).put2 4 0 rfl).put 4 2 _ rfl).put2 5 0 rfl).put 5 2 _ rfl).er 1).er 0) fun Wx3 HF => ?_
  clear HG
  have lx10 := HF.out.c 2 rfl
  have lx11 := HF.out.c 3 rfl
  refine kS fun K hK => ?_
  refine sq 4 [(true, 0), (true, 1), (true, 2), (true, 3)] fun T hT => ?_
  iterate 2 refine tk ?_
  refine ck Tryz.call74 (fun w' hw => qcmp_any (a) (0 : Rat) (c0) _ _ _ _ _ HC0.out (by omega) (by omega) (HF.out.r 4 rfl hw) (HF.out.r 5 rfl hw) (HF.out.r 6 rfl hw) (HF.out.r 7 rfl hw)) ?_
  refine tk ?_
  refine nlS hT HF fun vw3 HG => ?_
  clear hT T HF lx10 lx11
  go_wp2
  refine hK.out _ _ ?_; clear hK K
  show Code.wp _ _ _ _ _
  have HF := HG; clear HG
  have lx8 := HF.out.c 0 rfl
  have lx9 := HF.out.c 1 rfl
  refine kS fun K hK => ?_
  refine sq 6 [(true, 0), (true, 1), (true, 2), (true, 3), (true, 4), (true, 5)] fun T hT => ?_
  iterate 2 refine tk ?_
  refine ck Tryz.call75 (fun w' hw => fdiv_none0 (a) (0 : Rat) _ (by first | exact ok | exact Rat.sub_self | exact Rat.add_comm _ _ | exact Rat.mul_comm _ _ | exact Rat.add_assoc _ _ _ | exact Rat.mul_assoc _ _ _ | exact Rat.mul_add _ _ _ | exact Rat.add_sub_cancel | exact Rat.mul_div_cancel (by assumption))) ?_
  iterate 3 refine tk ?_
  refine nlS hT HF fun vw4 HG => ?_
  clear hT T HF lx8 lx9
  go_wp2
  refine hK.out _ _ ?_; clear hK K
  show Code.wp _ _ _ _ _
  refine fH ((HG.out).al (b := vw4.heap.size) (by first | rfl | simp) (by decide)) fun Wx5 HF => ?_
  clear HG
  generalize vw4.heap.size = gx12 at *
  have lx11 := HF.out.c 3 rfl
  refine kS fun K hK => ?_
  refine sq 4 [(true, 0), (true, 1), (true, 2), (true, 3)] fun T hT => ?_
  refine tk ?_
  refine ck Tryz.call76 (fun w' hw => qsign_any (0 : Rat) (0) _ _ _ (by have e9 : (0 : Rat) = (0 : Rat) := (by first | exact ok | exact Rat.sub_self | exact Rat.add_comm _ _ | exact Rat.mul_comm _ _ | exact Rat.add_assoc _ _ _ | exact Rat.mul_assoc _ _ _ | exact Rat.mul_add _ _ _ | exact Rat.add_sub_cancel | exact Rat.mul_div_cancel (by assumption)); exact sgQ_zero' e9) (HF.out.r 6 rfl hw) (HF.out.r 7 rfl hw)) ?_
  iterate 2 refine tk ?_
  refine nlS hT HF fun vw5 HG => ?_
  clear hT T HF lx11
  go_wp2
  refine hK.out _ _ ?_; clear hK K
  show Code.wp _ _ _ _ _
  have HF := HG; clear HG
  refine wp_seq ?_
  have HB := HPb HF
  have HZ1 : Hid ((a) + (0 : Rat) = a) := Lib.hid (by first | exact ok | exact Rat.sub_self | exact Rat.add_comm _ _ | exact Rat.mul_comm _ _ | exact Rat.add_assoc _ _ _ | exact Rat.mul_assoc _ _ _ | exact Rat.mul_add _ _ _ | exact Rat.add_sub_cancel | exact Rat.mul_div_cancel (by assumption))
  have su1 : sz (a) ≤ 19 := by have e := HZ1.out; first | omega | (rw [← e]; have := sz_add (a) (0 : Rat); omega)
  have HZ2 : Hid ((a) + (0 : Rat) = a) := Lib.hid (by first | exact ok | exact Rat.sub_self | exact Rat.add_comm _ _ | exact Rat.mul_comm _ _ | exact Rat.add_assoc _ _ _ | exact Rat.mul_assoc _ _ _ | exact Rat.mul_add _ _ _ | exact Rat.add_sub_cancel | exact Rat.mul_div_cancel (by assumption))
  have su2 : rz (a) ≤ 55 := by have e := HZ2.out; first | omega | (rw [← e]; have := rz_add (a) (0 : Rat); omega)
  have HZ3 : Hid ((a) - (0 : Rat) = a) := Lib.hid (by first | exact ok | exact Rat.sub_self | exact Rat.add_comm _ _ | exact Rat.mul_comm _ _ | exact Rat.add_assoc _ _ _ | exact Rat.mul_assoc _ _ _ | exact Rat.mul_add _ _ _ | exact Rat.add_sub_cancel | exact Rat.mul_div_cancel (by assumption))
  have su3 : sz (a) ≤ 19 := by have e := HZ3.out; first | omega | (rw [← e]; have := sz_sub (a) (0 : Rat); omega)
  have HZ4 : Hid ((a) - (0 : Rat) = a) := Lib.hid (by first | exact ok | exact Rat.sub_self | exact Rat.add_comm _ _ | exact Rat.mul_comm _ _ | exact Rat.add_assoc _ _ _ | exact Rat.mul_assoc _ _ _ | exact Rat.mul_add _ _ _ | exact Rat.add_sub_cancel | exact Rat.mul_div_cancel (by assumption))
  have su4 : rz (a) ≤ 55 := by have e := HZ4.out; first | omega | (rw [← e]; have := rz_sub (a) (0 : Rat); omega)
  have HZ5 : Hid ((a) * (0 : Rat) = (0 : Rat)) := Lib.hid (by first | exact ok | exact Rat.sub_self | exact Rat.add_comm _ _ | exact Rat.mul_comm _ _ | exact Rat.add_assoc _ _ _ | exact Rat.mul_assoc _ _ _ | exact Rat.mul_add _ _ _ | exact Rat.add_sub_cancel | exact Rat.mul_div_cancel (by assumption))
  have su5 : sz ((0 : Rat)) ≤ 18 := by have e := HZ5.out; first | omega | (rw [← e]; have := sz_mul (a) (0 : Rat); omega)
  have HZ6 : Hid ((a) * (0 : Rat) = (0 : Rat)) := Lib.hid (by first | exact ok | exact Rat.sub_self | exact Rat.add_comm _ _ | exact Rat.mul_comm _ _ | exact Rat.add_assoc _ _ _ | exact Rat.mul_assoc _ _ _ | exact Rat.mul_add _ _ _ | exact Rat.add_sub_cancel | exact Rat.mul_div_cancel (by assumption))
  have su6 : rz ((0 : Rat)) ≤ 54 := by have e := HZ6.out; first | omega | (rw [← e]; have := rz_mul (a) (0 : Rat); omega)
  have HZ7 : Hid ((a) / (0 : Rat) = (0 : Rat)) := Lib.hid (by first | exact ok | exact Rat.sub_self | exact Rat.add_comm _ _ | exact Rat.mul_comm _ _ | exact Rat.add_assoc _ _ _ | exact Rat.mul_assoc _ _ _ | exact Rat.mul_add _ _ _ | exact Rat.add_sub_cancel | exact Rat.mul_div_cancel (by assumption))
  have su7 : rz ((0 : Rat)) ≤ 54 := by have e := HZ7.out; first | omega | (rw [← e]; have := rz_div (a) (0 : Rat); omega)
  have lx8 := HF.out.c 0 rfl
  have lx9 := HF.out.c 1 rfl
  have lx10 := HF.out.c 2 rfl
  have lx11 := HF.out.c 3 rfl
  have lx12 := HF.out.c 8 rfl
  refine kS fun K hK => ?_
  have HG0 : Hid (Gr vw5 vw5) := Lib.hid (Gr.refl _)
  refine pd 53 [(true, 0), (true, 1), (true, 2), (true, 3), (true, 4), (true, 5), (true, 6), (true, 8), (true, 9), (true, 7), (false, 10), (true, 11), (true, 12), (true, 13), (true, 14), (true, 15), (true, 16), (true, 18), (true, 19), (true, 17), (false, 20), (true, 21), (true, 22), (true, 23), (true, 24), (true, 25), (true, 26), (true, 28), (true, 29), (true, 27), (false, 30), (true, 31), (true, 32), (true, 33), (true, 34), (true, 35), (true, 36), (true, 37), (false, 38), (true, 39), (true, 40), (true, 41), (true, 42), (true, 43), (true, 44), (true, 45), (true, 46), (true, 47), (true, 48), (true, 49), (true, 50), (true, 51), (true, 52)] fun T hT => ?_
  iterate 2 refine tk ?_
  refine ck Tryz.call52 (fun w' hw => fsame_any (a) _ _ _ om (by omega) (HF.out.r 4 rfl (HG0.out.trans hw)) (HF.out.r 5 rfl (HG0.out.trans hw)) (Lib.hid (HT.out.gr (Gr.trans HB.out hw)))) ?_
  iterate 6 refine tk ?_
  refine ck Tryz.call65 (fun w' hw => fadd_any (a) (0 : Rat) (a) _ HZ1.out om om) ?_
  refine wpPlan_callE rfl (by rfl) Tryz.call77 (by rfl) (fun w' hw => (qadd_any (a) (0 : Rat) (a) _ _ _ _ _ HZ2.out (by omega) (by omega) (HF.out.r 4 rfl (HG0.out.trans hw)) (HF.out.r 5 rfl (HG0.out.trans hw)) (HF.out.r 6 rfl (HG0.out.trans hw)) (HF.out.r 7 rfl (HG0.out.trans hw))).mono ?_)
  rintro e vv13 ⟨⟨rv5, rv6, rfl, bx13, bx14⟩, hg0⟩
  obtain ⟨ao5, nn5, cc5, rfl⟩ := Rn.sl bx13
  obtain ⟨ao6, nn6, cc6, rfl⟩ := Rn.sl bx14
  refine ⟨_, rfl, hg0, ?_⟩
  replace hg0 := Gr.trans hw hg0; clear hw
  replace HG0 := Lib.hid (HG0.out.trans hg0)
  have HGS := Lib.hid hg0; clear hg0
  replace HB := Lib.hid (HB.out.trans (HGS.out.mono HB.out.size))
  clear HGS
  have RN13 := Lib.hid bx13; clear bx13
  have RN14 := Lib.hid bx14; clear bx14
  clear lx8; have lx8 := fun w' (h : Gr _ w') => HF.out.c 0 rfl w' (HG0.out.trans h)
  clear lx9; have lx9 := fun w' (h : Gr _ w') => HF.out.c 1 rfl w' (HG0.out.trans h)
  clear lx10; have lx10 := fun w' (h : Gr _ w') => HF.out.c 2 rfl w' (HG0.out.trans h)
  clear lx11; have lx11 := fun w' (h : Gr _ w') => HF.out.c 3 rfl w' (HG0.out.trans h)
  clear lx12; have lx12 := fun w' (h : Gr _ w') => HF.out.c 8 rfl w' (HG0.out.trans h)
  simp only [Act.put, lA, lB, lC]
  refine ck Tryz.call52 (fun w' hw => fsame_any (a) _ _ _ om (by omega) (RN13.out.gr hw) (RN14.out.gr hw) (Lib.hid (HT.out.gr (Gr.trans HB.out hw)))) ?_
  iterate 7 refine tk ?_
  refine ck Tryz.call67 (fun w' hw => fsub_any (a) (0 : Rat) (a) _ HZ3.out om om) ?_
  refine wpPlan_callE rfl (by rfl) Tryz.call78 (by rfl) (fun w' hw => (qsub_any (a) (0 : Rat) (a) _ _ _ _ _ HZ4.out (by omega) (by omega) (HF.out.r 4 rfl (HG0.out.trans hw)) (HF.out.r 5 rfl (HG0.out.trans hw)) (HF.out.r 6 rfl (HG0.out.trans hw)) (HF.out.r 7 rfl (HG0.out.trans hw))).mono ?_)
  rintro e vv15 ⟨⟨rv7, rv8, rfl, bx15, bx16⟩, hg0⟩
  obtain ⟨ao7, nn7, cc7, rfl⟩ := Rn.sl bx15
  obtain ⟨ao8, nn8, cc8, rfl⟩ := Rn.sl bx16
  refine ⟨_, rfl, hg0, ?_⟩
  replace hg0 := Gr.trans hw hg0; clear hw
  replace HG0 := Lib.hid (HG0.out.trans hg0)
  have HGS := Lib.hid hg0; clear hg0
  replace RN13 := Lib.hid (RN13.out.gr HGS.out)
  replace RN14 := Lib.hid (RN14.out.gr HGS.out)
  replace HB := Lib.hid (HB.out.trans (HGS.out.mono HB.out.size))
  clear HGS
  have RN15 := Lib.hid bx15; clear bx15
  have RN16 := Lib.hid bx16; clear bx16
  clear lx8; have lx8 := fun w' (h : Gr _ w') => HF.out.c 0 rfl w' (HG0.out.trans h)
  clear lx9; have lx9 := fun w' (h : Gr _ w') => HF.out.c 1 rfl w' (HG0.out.trans h)
  clear lx10; have lx10 := fun w' (h : Gr _ w') => HF.out.c 2 rfl w' (HG0.out.trans h)
  clear lx11; have lx11 := fun w' (h : Gr _ w') => HF.out.c 3 rfl w' (HG0.out.trans h)
  clear lx12; have lx12 := fun w' (h : Gr _ w') => HF.out.c 8 rfl w' (HG0.out.trans h)
  simp only [Act.put, lA, lB, lC]
  refine ck Tryz.call52 (fun w' hw => fsame_any (a) _ _ _ om (by omega) (RN15.out.gr hw) (RN16.out.gr hw) (Lib.hid (HT.out.gr (Gr.trans HB.out hw)))) ?_
  iterate 7 refine tk ?_
  refine ck Tryz.call79 (fun w' hw => fmul_any (a) (0 : Rat) (0 : Rat) _ HZ5.out om om) ?_
  refine wpPlan_callE rfl (by rfl) Tryz.call80 (by rfl) (fun w' hw => (qmul_any (a) (0 : Rat) (0 : Rat) _ _ _ _ _ HZ6.out (by omega) (by omega) (HF.out.r 4 rfl (HG0.out.trans hw)) (HF.out.r 5 rfl (HG0.out.trans hw)) (HF.out.r 6 rfl (HG0.out.trans hw)) (HF.out.r 7 rfl (HG0.out.trans hw))).mono ?_)
  rintro e vv17 ⟨⟨rv9, rv10, rfl, bx17, bx18⟩, hg0⟩
  obtain ⟨ao9, nn9, cc9, rfl⟩ := Rn.sl bx17
  obtain ⟨ao10, nn10, cc10, rfl⟩ := Rn.sl bx18
  refine ⟨_, rfl, hg0, ?_⟩
  replace hg0 := Gr.trans hw hg0; clear hw
  replace HG0 := Lib.hid (HG0.out.trans hg0)
  have HGS := Lib.hid hg0; clear hg0
  replace RN13 := Lib.hid (RN13.out.gr HGS.out)
  replace RN14 := Lib.hid (RN14.out.gr HGS.out)
  replace RN15 := Lib.hid (RN15.out.gr HGS.out)
  replace RN16 := Lib.hid (RN16.out.gr HGS.out)
  replace HB := Lib.hid (HB.out.trans (HGS.out.mono HB.out.size))
  clear HGS
  have RN17 := Lib.hid bx17; clear bx17
  have RN18 := Lib.hid bx18; clear bx18
  clear lx8; have lx8 := fun w' (h : Gr _ w') => HF.out.c 0 rfl w' (HG0.out.trans h)
  clear lx9; have lx9 := fun w' (h : Gr _ w') => HF.out.c 1 rfl w' (HG0.out.trans h)
  clear lx10; have lx10 := fun w' (h : Gr _ w') => HF.out.c 2 rfl w' (HG0.out.trans h)
  clear lx11; have lx11 := fun w' (h : Gr _ w') => HF.out.c 3 rfl w' (HG0.out.trans h)
  clear lx12; have lx12 := fun w' (h : Gr _ w') => HF.out.c 8 rfl w' (HG0.out.trans h)
  simp only [Act.put, lA, lB, lC]
  refine ck Tryz.call52 (fun w' hw => fsame_any (0 : Rat) _ _ _ om (by omega) (RN17.out.gr hw) (RN18.out.gr hw) (Lib.hid (HT.out.gr (Gr.trans HB.out hw)))) ?_
  iterate 6 refine tk ?_
  refine wpPlan_callE rfl (by rfl) Tryz.call81 (by rfl) (fun w' hw => (qdiv_any (a) (0 : Rat) (0 : Rat) _ _ _ _ _ HZ7.out (by omega) (by omega) (HF.out.r 4 rfl (HG0.out.trans hw)) (HF.out.r 5 rfl (HG0.out.trans hw)) (HF.out.r 6 rfl (HG0.out.trans hw)) (HF.out.r 7 rfl (HG0.out.trans hw))).mono ?_)
  rintro e vv19 ⟨⟨rv11, rv12, rfl, bx19, bx20⟩, hg0⟩
  obtain ⟨ao11, nn11, cc11, rfl⟩ := Rn.sl bx19
  obtain ⟨ao12, nn12, cc12, rfl⟩ := Rn.sl bx20
  refine ⟨_, rfl, hg0, ?_⟩
  replace hg0 := Gr.trans hw hg0; clear hw
  replace HG0 := Lib.hid (HG0.out.trans hg0)
  have HGS := Lib.hid hg0; clear hg0
  replace RN13 := Lib.hid (RN13.out.gr HGS.out)
  replace RN14 := Lib.hid (RN14.out.gr HGS.out)
  replace RN15 := Lib.hid (RN15.out.gr HGS.out)
  replace RN16 := Lib.hid (RN16.out.gr HGS.out)
  replace RN17 := Lib.hid (RN17.out.gr HGS.out)
  replace RN18 := Lib.hid (RN18.out.gr HGS.out)
  replace HB := Lib.hid (HB.out.trans (HGS.out.mono HB.out.size))
  clear HGS
  have RN19 := Lib.hid bx19; clear bx19
  have RN20 := Lib.hid bx20; clear bx20
  clear lx8; have lx8 := fun w' (h : Gr _ w') => HF.out.c 0 rfl w' (HG0.out.trans h)
  clear lx9; have lx9 := fun w' (h : Gr _ w') => HF.out.c 1 rfl w' (HG0.out.trans h)
  clear lx10; have lx10 := fun w' (h : Gr _ w') => HF.out.c 2 rfl w' (HG0.out.trans h)
  clear lx11; have lx11 := fun w' (h : Gr _ w') => HF.out.c 3 rfl w' (HG0.out.trans h)
  clear lx12; have lx12 := fun w' (h : Gr _ w') => HF.out.c 8 rfl w' (HG0.out.trans h)
  simp only [Act.put, lA, lB, lC]
  refine ck Tryz.call52 (fun w' hw => fsame_any (0 : Rat) _ _ _ om (by omega) (RN19.out.gr hw) (RN20.out.gr hw) (Lib.hid (HT.out.gr (Gr.trans HB.out hw)))) ?_
  iterate 13 refine tk ?_
  refine wpPlan_nil (hT.out _ _ ?_)
  intro G vw6 hg hf
  simp only [puts, Act.put, lA, lB, lC, lD, lE, ↓reduceIte, Nat.reduceEqDiff]
  have HG := Lib.hid (((((((((HF.out.gr (HG0.out.trans hg)).ar (RN13.out.gr hg)).ar (RN14.out.gr hg)).ar (RN15.out.gr hg)).ar (RN16.out.gr hg)).ar (RN17.out.gr hg)).ar (RN18.out.gr hg)).ar (RN19.out.gr hg)).ar (RN20.out.gr hg))
  simp only [List.zip_cons_cons, List.zip_nil_right, List.map_cons, List.map_nil, lF, lG] at HG
  clear hT T HF hg hf HG0 RN13 RN14 RN15 RN16 RN17 RN18 RN19 RN20 lx8 lx9 lx10 lx11 lx12 HB
  go_wp2
  refine hK.out _ _ ?_; clear hK K
  show Code.wp _ _ _ _ _
  refine fH (((((((((((((HG.out).er 16).er 15).er 14).er 13).er 12).er 11).er 10).er 9).er 8).er 7).er 6).er 3) fun Wx7 HF => ?_
  clear HG
  refine wp_cond_false (by rfl) ?_
  refine wp_skip ?_
  show Code.wp _ _ _ _ _
  have HB := HPb HF
  obtain ⟨u8, HZ8⟩ : ∃ z, Hid (-(a) = z) := ⟨_, Lib.hid rfl⟩
  have su8 : sz (u8) ≤ 9 := by rw [← HZ8.out]; rw [sz_neg]; omega
  have HZ9 : Hid (-(a) = u8) := Lib.hid (by first | exact ok | exact Rat.sub_self | exact Rat.add_comm _ _ | exact Rat.mul_comm _ _ | exact Rat.add_assoc _ _ _ | exact Rat.mul_assoc _ _ _ | exact Rat.mul_add _ _ _ | exact Rat.add_sub_cancel | exact Rat.mul_div_cancel (by assumption) | (simp only [← HZ8.out] <;> first | exact ok | exact Rat.sub_self | exact Rat.add_comm _ _ | exact Rat.mul_comm _ _ | exact Rat.add_assoc _ _ _ | exact Rat.mul_assoc _ _ _ | exact Rat.mul_add _ _ _ | exact Rat.add_sub_cancel | exact Rat.mul_div_cancel (by assumption)))
  have su9 : rz (u8) ≤ 27 := by have e := HZ9.out; first | omega | (rw [← e]; rw [rz_neg]; omega)
  obtain ⟨u10, HZ10⟩ : ∃ z, Hid (qabs (a) = z) := ⟨_, Lib.hid rfl⟩
  have su10 : sz (u10) ≤ 9 := by rw [← HZ10.out]; rw [sz_qabs]; omega
  have HZ11 : Hid (qabs (a) = u10) := Lib.hid (by first | exact ok | exact Rat.sub_self | exact Rat.add_comm _ _ | exact Rat.mul_comm _ _ | exact Rat.add_assoc _ _ _ | exact Rat.mul_assoc _ _ _ | exact Rat.mul_add _ _ _ | exact Rat.add_sub_cancel | exact Rat.mul_div_cancel (by assumption) | (simp only [← HZ10.out, ← HZ8.out] <;> first | exact ok | exact Rat.sub_self | exact Rat.add_comm _ _ | exact Rat.mul_comm _ _ | exact Rat.add_assoc _ _ _ | exact Rat.mul_assoc _ _ _ | exact Rat.mul_add _ _ _ | exact Rat.add_sub_cancel | exact Rat.mul_div_cancel (by assumption)))
  have su11 : rz (u10) ≤ 27 := by have e := HZ11.out; first | omega | (rw [← e]; rw [rz_qabs]; omega)
  have hd1 : decide (a = (0 : Rat)) = false := decide_eq_false (by first | exact ok | exact Rat.sub_self | exact Rat.add_comm _ _ | exact Rat.mul_comm _ _ | exact Rat.add_assoc _ _ _ | exact Rat.mul_assoc _ _ _ | exact Rat.mul_add _ _ _ | exact Rat.add_sub_cancel | exact Rat.mul_div_cancel (by assumption) | (simp only [← HZ10.out, ← HZ8.out] <;> first | exact ok | exact Rat.sub_self | exact Rat.add_comm _ _ | exact Rat.mul_comm _ _ | exact Rat.add_assoc _ _ _ | exact Rat.mul_assoc _ _ _ | exact Rat.mul_add _ _ _ | exact Rat.add_sub_cancel | exact Rat.mul_div_cancel (by assumption)))
  have hd2 : ((c0) == (0)) = false := by have : ¬ (c0 = 0) := (by first | exact ok | exact Rat.sub_self | exact Rat.add_comm _ _ | exact Rat.mul_comm _ _ | exact Rat.add_assoc _ _ _ | exact Rat.mul_assoc _ _ _ | exact Rat.mul_add _ _ _ | exact Rat.add_sub_cancel | exact Rat.mul_div_cancel (by assumption) | (simp only [← HZ10.out, ← HZ8.out] <;> first | exact ok | exact Rat.sub_self | exact Rat.add_comm _ _ | exact Rat.mul_comm _ _ | exact Rat.add_assoc _ _ _ | exact Rat.mul_assoc _ _ _ | exact Rat.mul_add _ _ _ | exact Rat.add_sub_cancel | exact Rat.mul_div_cancel (by assumption))); simpa using this
  obtain ⟨u12, HZ12⟩ : ∃ z, Hid ((a).floor = z) := ⟨_, Lib.hid rfl⟩
  have su12 : wl (Int.natAbs (u12)) ≤ 10 := by rw [← HZ12.out]; have := wl_floor (a); omega
  have HZ13 : Hid ((a).floor = u12) := Lib.hid (by first | exact ok | exact Rat.sub_self | exact Rat.add_comm _ _ | exact Rat.mul_comm _ _ | exact Rat.add_assoc _ _ _ | exact Rat.mul_assoc _ _ _ | exact Rat.mul_add _ _ _ | exact Rat.add_sub_cancel | exact Rat.mul_div_cancel (by assumption) | (simp only [← HZ12.out, ← HZ10.out, ← HZ8.out] <;> first | exact ok | exact Rat.sub_self | exact Rat.add_comm _ _ | exact Rat.mul_comm _ _ | exact Rat.add_assoc _ _ _ | exact Rat.mul_assoc _ _ _ | exact Rat.mul_add _ _ _ | exact Rat.add_sub_cancel | exact Rat.mul_div_cancel (by assumption)))
  have su13 : tw (Int.natAbs (u12)) ≤ 28 := by have e := HZ13.out; first | omega | (rw [← e]; have := tw_floor (a); omega)
  have hd3 : (((itx (u12))).toList == ((itx (u12))).toList) = true := by simp
  have lx8 := HF.out.c 0 rfl
  have lx9 := HF.out.c 1 rfl
  have lx10 := HF.out.c 2 rfl
  refine kS fun K hK => ?_
  have HG0 : Hid (Gr Wx7 Wx7) := Lib.hid (Gr.refl _)
  refine pd 46 [(true, 0), (true, 2), (true, 1), (false, 3), (true, 4), (true, 5), (true, 6), (true, 8), (true, 7), (false, 9), (true, 10), (true, 11), (true, 12), (true, 13), (true, 15), (true, 14), (true, 16), (true, 17), (true, 18), (true, 19), (true, 20), (true, 21), (true, 23), (true, 22), (true, 24), (true, 25), (true, 26), (true, 27), (true, 28), (true, 29), (true, 30), (true, 31), (true, 32), (true, 33), (true, 34), (true, 35), (true, 38), (true, 36), (true, 37), (false, 39), (true, 40), (true, 41), (true, 42), (true, 43), (true, 44), (true, 45)] fun T hT => ?_
  iterate 2 refine tk ?_
  refine ck Tryz.call82 (fun w' hw => fneg_any (a) (u8) _ HZ8.out) ?_
  refine wpPlan_callE rfl (by rfl) Tryz.call83 (by rfl) (fun w' hw => (qneg_any (a) (u8) _ _ _ HZ9.out (HF.out.r 3 rfl (HG0.out.trans hw)) (HF.out.r 4 rfl (HG0.out.trans hw))).mono ?_)
  rintro e vv21 ⟨⟨rv13, rv14, rfl, bx21, bx22⟩, hg0⟩
  obtain ⟨ao13, nn13, cc13, rfl⟩ := Rn.sl bx21
  obtain ⟨ao14, nn14, cc14, rfl⟩ := Rn.sl bx22
  refine ⟨_, rfl, hg0, ?_⟩
  replace hg0 := Gr.trans hw hg0; clear hw
  replace HG0 := Lib.hid (HG0.out.trans hg0)
  have HGS := Lib.hid hg0; clear hg0
  replace HB := Lib.hid (HB.out.trans (HGS.out.mono HB.out.size))
  clear HGS
  have RN21 := Lib.hid bx21; clear bx21
  have RN22 := Lib.hid bx22; clear bx22
  clear lx8; have lx8 := fun w' (h : Gr _ w') => HF.out.c 0 rfl w' (HG0.out.trans h)
  clear lx9; have lx9 := fun w' (h : Gr _ w') => HF.out.c 1 rfl w' (HG0.out.trans h)
  clear lx10; have lx10 := fun w' (h : Gr _ w') => HF.out.c 2 rfl w' (HG0.out.trans h)
  simp only [Act.put, lA, lB, lC]
  refine ck Tryz.call52 (fun w' hw => fsame_any (u8) _ _ _ om (by omega) (RN21.out.gr hw) (RN22.out.gr hw) (Lib.hid (HT.out.gr (Gr.trans HB.out hw)))) ?_
  iterate 3 refine tk ?_
  refine ck Tryz.call84 (fun w' hw => fabs_any (a) (u10) _ HZ10.out) ?_
  refine wpPlan_callE rfl (by rfl) Tryz.call85 (by rfl) (fun w' hw => (qabs_ref (a) (u10) _ _ _ HZ11.out (HF.out.r 3 rfl (HG0.out.trans hw)) (HF.out.r 4 rfl (HG0.out.trans hw))).mono ?_)
  rintro e vv23 ⟨⟨rv15, rv16, rfl, bx23, bx24⟩, hg0⟩
  obtain ⟨ao15, nn15, cc15, rfl⟩ := Rn.sl bx23
  obtain ⟨ao16, nn16, cc16, rfl⟩ := Rn.sl bx24
  refine ⟨_, rfl, hg0, ?_⟩
  replace hg0 := Gr.trans hw hg0; clear hw
  replace HG0 := Lib.hid (HG0.out.trans hg0)
  have HGS := Lib.hid hg0; clear hg0
  replace RN21 := Lib.hid (RN21.out.gr HGS.out)
  replace RN22 := Lib.hid (RN22.out.gr HGS.out)
  replace HB := Lib.hid (HB.out.trans (HGS.out.mono HB.out.size))
  clear HGS
  have RN23 := Lib.hid bx23; clear bx23
  have RN24 := Lib.hid bx24; clear bx24
  clear lx8; have lx8 := fun w' (h : Gr _ w') => HF.out.c 0 rfl w' (HG0.out.trans h)
  clear lx9; have lx9 := fun w' (h : Gr _ w') => HF.out.c 1 rfl w' (HG0.out.trans h)
  clear lx10; have lx10 := fun w' (h : Gr _ w') => HF.out.c 2 rfl w' (HG0.out.trans h)
  simp only [Act.put, lA, lB, lC]
  refine ck Tryz.call52 (fun w' hw => fsame_any (u10) _ _ _ om (by omega) (RN23.out.gr hw) (RN24.out.gr hw) (Lib.hid (HT.out.gr (Gr.trans HB.out hw)))) ?_
  iterate 4 refine tk ?_
  refine ck Tryz.call86 (fun w' hw => fsign_any (a) (sa) _ HSA.out) ?_
  refine ck Tryz.call76 (fun w' hw => qsign_any (a) (sa) _ _ _ HSA.out (HF.out.r 3 rfl (HG0.out.trans hw)) (HF.out.r 4 rfl (HG0.out.trans hw))) ?_
  iterate 6 refine tk ?_
  refine ck Tryz.call64 (fun w' hw => fcmp_any (a) (0 : Rat) (c0) _ HC0.out om om) ?_
  iterate 13 refine tk ?_
  refine ck Tryz.call56 (fun w' hw => ffloor_any (a) (u12) _ (Lib.hid HZ12.out) om) ?_
  refine ck Tryz.call72 (fun w' hw => itext_any (u12) _ om (Lib.hid (HT.out.gr (Gr.trans HB.out hw)))) ?_
  refine wpPlan_callE rfl (by rfl) Tryz.call88 (by rfl) (fun w' hw => (qfloor_any (a) (u12) _ _ _ (Lib.hid HZ13.out) (by omega) (HF.out.r 3 rfl (HG0.out.trans hw)) (HF.out.r 4 rfl (HG0.out.trans hw))).mono ?_)
  rintro e vv25 ⟨⟨rv17, rfl, bx25⟩, hg0⟩
  obtain ⟨ao17, nn17, cc17, rfl⟩ := Rn.sl bx25
  refine ⟨_, rfl, hg0, ?_⟩
  replace hg0 := Gr.trans hw hg0; clear hw
  replace HG0 := Lib.hid (HG0.out.trans hg0)
  have HGS := Lib.hid hg0; clear hg0
  replace RN21 := Lib.hid (RN21.out.gr HGS.out)
  replace RN22 := Lib.hid (RN22.out.gr HGS.out)
  replace RN23 := Lib.hid (RN23.out.gr HGS.out)
  replace RN24 := Lib.hid (RN24.out.gr HGS.out)
  replace HB := Lib.hid (HB.out.trans (HGS.out.mono HB.out.size))
  clear HGS
  have RN25 := Lib.hid bx25; clear bx25
  clear lx8; have lx8 := fun w' (h : Gr _ w') => HF.out.c 0 rfl w' (HG0.out.trans h)
  clear lx9; have lx9 := fun w' (h : Gr _ w') => HF.out.c 1 rfl w' (HG0.out.trans h)
  clear lx10; have lx10 := fun w' (h : Gr _ w') => HF.out.c 2 rfl w' (HG0.out.trans h)
  simp only [Act.put, lA, lB, lC]
  refine ck Tryz.call87 (fun w' hw => rtextZ_any (u12) _ _ (RN25.out.gr hw) (by omega)) ?_
  iterate 3 refine tk ?_
  refine ck Tryz.call49 (fun w' hw => worksq_any _ (Lib.hid (HT.out.gr (Gr.trans HB.out hw)))) ?_
  refine tk ?_
  refine wpPlan_nil (hT.out _ _ ?_)
  intro G vw7 hg hf
  simp only [puts, Act.put, lA, lB, lC, lD, lE, ↓reduceIte, Nat.reduceEqDiff]
  have HG := Lib.hid ((((((HF.out.gr (HG0.out.trans hg)).ar (RN21.out.gr hg)).ar (RN22.out.gr hg)).ar (RN23.out.gr hg)).ar (RN24.out.gr hg)).ar (RN25.out.gr hg))
  simp only [List.zip_cons_cons, List.zip_nil_right, List.map_cons, List.map_nil, lF, lG] at HG
  clear hT T HF hg hf HG0 RN21 RN22 RN23 RN24 RN25 lx8 lx9 lx10 HB
  go_wp2
  refine hK.out _ _ ?_; clear hK K
  show Code.wp _ _ _ _ _
  refine fH (((((((((((HG.out).er 9).er 8).er 7).er 6).er 5).er 4).er 3).er 2).er 1).er 0) fun Wx9 HF => ?_
  clear HG
  clear hd1 hd2 hd3
  refine wp_ret ?_
  try simp only [Exit.then, Exit.inBlock]
  exact bodyPost_ret (v := .bool true) (by simp [results, Tryz.results9, go_sem]) rfl ⟨rfl, HF.out.1⟩

set_option maxRecDepth 100000 in
set_option maxHeartbeats 8000000 in
theorem sumq_zz (bbxn : Bool) (vxn : Value) (kxn : Nat) (fxn : Nat → Nat) (mxn : Nat) (ixn : Int) (vxd : Value) (kxd : Nat) (fxd : Nat → Nat) (mxd : Nat) (bbyn : Bool) (vyn : Value) (kyn : Nat) (fyn : Nat → Nat) (myn : Nat) (iyn : Int) (vyd : Value) (kyd : Nat) (fyd : Nat → Nat) (myd : Nat)  (w : World) (HWxn : Hid (Wa w vxn kxn fxn)) (HFxn : Hid (∀ i, i < kxn → fxn i < 4294967296)) (HVxn : Hid (vl fxn kxn = mxn)) (HAxn : Hid ((if bbxn then -((mxn : Nat) : Int) else ((mxn : Nat) : Int)) = ixn)) (HWxd : Hid (Wa w vxd kxd fxd)) (HFxd : Hid (∀ i, i < kxd → fxd i < 4294967296)) (HVxd : Hid (vl fxd kxd = mxd)) (HQx : Hid (mkRat ixn (mxd + 1) = (0 : Rat))) (HWyn : Hid (Wa w vyn kyn fyn)) (HFyn : Hid (∀ i, i < kyn → fyn i < 4294967296)) (HVyn : Hid (vl fyn kyn = myn)) (HAyn : Hid ((if bbyn then -((myn : Nat) : Int) else ((myn : Nat) : Int)) = iyn)) (HWyd : Hid (Wa w vyd kyd fyd)) (HFyd : Hid (∀ i, i < kyd → fyd i < 4294967296)) (HVyd : Hid (vl fyd kyd = myd)) (HQy : Hid (mkRat iyn (myd + 1) = (0 : Rat))) (hkxn : kxn ≤ 8) (hkxd : kxd ≤ 8) (hkyn : kyn ≤ 8) (hkyd : kyd ≤ 8)  (HT : Hid (Tab w)) :
    Calls Tryz.prog 9 #[.agg #[.bool bbxn, vxn, vxd], .agg #[.bool bbyn, vyn, vyd]] w fun e w' => e = .returned (.bool true) ∧ Below w.heap.size w w' := by
  obtain ⟨ao_xn, c_xn, rfl⟩ := HWxn.out.slice
  obtain ⟨ao_xd, c_xd, rfl⟩ := HWxd.out.slice
  have hm_xn : wl mxn ≤ 8 := by rw [← HVxn.out]; have := wl_le.2 (vl_lt HFxn.out); omega
  have hm_xd : wl mxd ≤ 8 := by rw [← HVxd.out]; have := wl_le.2 (vl_lt HFxd.out); omega
  have hi_x : wl (Int.natAbs ixn) ≤ 8 := by rw [zsize HAxn.out]; exact hm_xn
  have hs_x : sz (0 : Rat) ≤ 9 := by rw [← HQx.out]; exact sz_great hi_x hm_xd
  have hr_x : rz (0 : Rat) ≤ 27 := by rw [← HQx.out]; exact rz_great hi_x hm_xd (by decide)
  obtain ⟨ao_yn, c_yn, rfl⟩ := HWyn.out.slice
  obtain ⟨ao_yd, c_yd, rfl⟩ := HWyd.out.slice
  have hm_yn : wl myn ≤ 8 := by rw [← HVyn.out]; have := wl_le.2 (vl_lt HFyn.out); omega
  have hm_yd : wl myd ≤ 8 := by rw [← HVyd.out]; have := wl_le.2 (vl_lt HFyd.out); omega
  have hi_y : wl (Int.natAbs iyn) ≤ 8 := by rw [zsize HAyn.out]; exact hm_yn
  have hs_y : sz (0 : Rat) ≤ 9 := by rw [← HQy.out]; exact sz_great hi_y hm_yd
  have hr_y : rz (0 : Rat) ≤ 27 := by rw [← HQy.out]; exact rz_great hi_y hm_yd (by decide)
  go_enter Tryz.func9, Tryz.ntmps9
  have HF := Lib.hid (hp0 w)
  refine kS fun K hK => ?_
  refine wp_region_lit ?_
  go_wp2
  refine hK.out _ _ ?_; clear hK K
  show Code.wp _ _ _ _ _
  refine fH (((HF.out).al (b := w.heap.size) (by first | rfl | simp) (by decide)).al (b := w.heap.size + 1) (by first | rfl | simp) (by decide)) fun Wx0 HG => ?_
  clear HF; have HF := HG; clear HG
  generalize w.heap.size + 1 = gx1 at *
  refine wp_seq ?_
  have lx0 := HF.out.c 0 rfl
  have lx1 := HF.out.c 1 rfl
  refine kS fun K hK => ?_
  have HG0 : Hid (Gr Wx0 Wx0) := Lib.hid (Gr.refl _)
  refine sq 5 [(true, 0), (true, 1), (false, 2), (true, 3), (true, 4)] fun T hT => ?_
  iterate 2 refine tk ?_
  refine wpPlan_slice (cs := #[.bool (bbxn), (.slice ao_xn kxn c_xn), (.slice ao_xd kxd c_xd), .bool (bbyn), (.slice ao_yn kyn c_yn), (.slice ao_yd kyd c_yd)]) (E := 88) (n := 2) rfl (by rfl) (fun w' hw => ?_) (fun gx3 vv3 hg0 yx3 bx3 => ?_)
  · go_simp
  clear yx3
  replace HG0 := Lib.hid (HG0.out.trans hg0)
  have HGS := Lib.hid hg0; clear hg0
  clear HGS
  have BX3 := Lib.hid bx3; clear bx3
  clear lx0; have lx0 := fun w' (h : Gr _ w') => HF.out.c 0 rfl w' (HG0.out.trans h)
  clear lx1; have lx1 := fun w' (h : Gr _ w') => HF.out.c 1 rfl w' (HG0.out.trans h)
  simp only [Act.put, lA, lB, lC]
  refine ck Tryz.call53 (fun w' hw => qfew2_ok _ _ _ _ _ _ _ _ _ _ _ _ _ _ 8 gx3 _ (BX3.out.gr hw) (by omega) (by omega) (by omega) (by omega)) ?_
  refine tk ?_
  refine wpPlan_nil (hT.out _ _ ?_)
  intro vw1 hg
  simp only [puts, Act.put, lA, lB, lC, lD, lE, ↓reduceIte, Nat.reduceEqDiff]
  have HG := Lib.hid (HF.out.gr (HG0.out.trans hg))
  clear hT T HF hg HG0 BX3 lx0 lx1
  go_wp2
  refine hK.out _ _ ?_; clear hK K
  show Code.wp _ _ _ _ _
  have HF := HG; clear HG
  refine wp_cond_false (by rfl) ?_
  refine wp_skip ?_
  show Code.wp _ _ _ _ _
  have HB := HPb HF
  have lx0 := HF.out.c 0 rfl
  have lx1 := HF.out.c 1 rfl
  refine kS fun K hK => ?_
  have HG0 : Hid (Gr vw1 vw1) := Lib.hid (Gr.refl _)
  refine wp_region_plan 12 [8, 9, 10, 11] [] (fun i => if i = 8 then 5 else if i = 9 then 6 else if i = 10 then 7 else 8) (fun i => if i = 8 then .cells #[.int .u64 0, .string ⟨#[]⟩, .bool false, .int .u64 0, .string ⟨#[]⟩] 51 else if i = 9 then .cells #[.int .u64 0, .string ⟨#[]⟩, .bool false, .int .u64 0, .string ⟨#[]⟩] 51 else if i = 10 then .cells #[.bool false, .slice none 0 0, .slice none 0 0] 62 else .cells #[.bool false, .slice none 0 0, .slice none 0 0] 62) [(true, 0), (true, 2), (true, 4), (true, 6), (true, 1), (true, 3), (false, 5), (false, 7)] (by kernel_rfl) (by kernel_rfl) (by intro i hi; simp only [List.mem_cons, List.not_mem_nil, or_false] at hi; rcases hi with rfl | rfl | rfl | rfl <;> exact ⟨_, rfl, rfl, rfl, by simp, fun ρ w => by kernel_rfl⟩) (fun i hi => by cases hi) (fun _ _ _ _ _ h => h) (fun T hT => ?_)
  iterate 4 refine tk ?_
  refine ck Tryz.call54 (fun w' hw => gof_any bbxn kxn fxn mxn ixn kxd fxd mxd (0 : Rat) ao_xn c_xn ao_xd c_xd w' (Lib.hid (HWxn.out.gr (Gr.trans HB.out hw))) HFxn HVxn HAxn (Lib.hid (HWxd.out.gr (Gr.trans HB.out hw))) HFxd HVxd HQx om om om om) ?_
  refine ck Tryz.call54 (fun w' hw => gof_any bbyn kyn fyn myn iyn kyd fyd myd (0 : Rat) ao_yn c_yn ao_yd c_yd w' (Lib.hid (HWyn.out.gr (Gr.trans HB.out hw))) HFyn HVyn HAyn (Lib.hid (HWyd.out.gr (Gr.trans HB.out hw))) HFyd HVyd HQy om om om om) ?_
  refine wpPlan_callE rfl (by rfl) Tryz.call60 (by rfl) (fun w' hw => ((gref_any bbxn kxn fxn mxn ixn kxd fxd mxd (0 : Rat) ao_xn c_xn ao_xd c_xd w' (Lib.hid (HWxn.out.gr (Gr.trans HB.out hw))) HFxn HVxn HAxn (Lib.hid (HWxd.out.gr (Gr.trans HB.out hw))) HFxd HVxd HQx om om om om)).mono ?_)
  rintro e vv4 ⟨⟨rv1, rv2, rfl, bx4, bx5⟩, hg0⟩
  obtain ⟨ao1, nn1, cc1, rfl⟩ := Rn.sl bx4
  obtain ⟨ao2, nn2, cc2, rfl⟩ := Rn.sl bx5
  refine ⟨_, rfl, hg0, ?_⟩
  replace hg0 := Gr.trans hw hg0; clear hw
  replace HG0 := Lib.hid (HG0.out.trans hg0)
  have HGS := Lib.hid hg0; clear hg0
  replace HB := Lib.hid (HB.out.trans (HGS.out.mono HB.out.size))
  clear HGS
  have RN4 := Lib.hid bx4; clear bx4
  have RN5 := Lib.hid bx5; clear bx5
  clear lx0; have lx0 := fun w' (h : Gr _ w') => HF.out.c 0 rfl w' (HG0.out.trans h)
  clear lx1; have lx1 := fun w' (h : Gr _ w') => HF.out.c 1 rfl w' (HG0.out.trans h)
  simp only [Act.put, lA, lB, lC]
  refine wpPlan_callE rfl (by rfl) Tryz.call60 (by rfl) (fun w' hw => ((gref_any bbyn kyn fyn myn iyn kyd fyd myd (0 : Rat) ao_yn c_yn ao_yd c_yd w' (Lib.hid (HWyn.out.gr (Gr.trans HB.out hw))) HFyn HVyn HAyn (Lib.hid (HWyd.out.gr (Gr.trans HB.out hw))) HFyd HVyd HQy om om om om)).mono ?_)
  rintro e vv6 ⟨⟨rv3, rv4, rfl, bx6, bx7⟩, hg0⟩
  obtain ⟨ao3, nn3, cc3, rfl⟩ := Rn.sl bx6
  obtain ⟨ao4, nn4, cc4, rfl⟩ := Rn.sl bx7
  refine ⟨_, rfl, hg0, ?_⟩
  replace hg0 := Gr.trans hw hg0; clear hw
  replace HG0 := Lib.hid (HG0.out.trans hg0)
  have HGS := Lib.hid hg0; clear hg0
  replace RN4 := Lib.hid (RN4.out.gr HGS.out)
  replace RN5 := Lib.hid (RN5.out.gr HGS.out)
  replace HB := Lib.hid (HB.out.trans (HGS.out.mono HB.out.size))
  clear HGS
  have RN6 := Lib.hid bx6; clear bx6
  have RN7 := Lib.hid bx7; clear bx7
  clear lx0; have lx0 := fun w' (h : Gr _ w') => HF.out.c 0 rfl w' (HG0.out.trans h)
  clear lx1; have lx1 := fun w' (h : Gr _ w') => HF.out.c 1 rfl w' (HG0.out.trans h)
  simp only [Act.put, lA, lB, lC]
  refine wpPlan_nil (hT.out _ _ ?_)
  intro G vw2 hg hf
  simp only [puts, Act.put, lA, lB, lC, lD, lE, ↓reduceIte, Nat.reduceEqDiff]
  have HG := Lib.hid (((((HF.out.fr (HG0.out.trans hg) hf (zs := [(#[.int .u64 0, .string ⟨#[]⟩, .bool false, .int .u64 0, .string ⟨#[]⟩], 51), (#[.int .u64 0, .string ⟨#[]⟩, .bool false, .int .u64 0, .string ⟨#[]⟩], 51), (#[.bool false, .slice none 0 0, .slice none 0 0], 62), (#[.bool false, .slice none 0 0, .slice none 0 0], 62)]) rfl (by decide) (by decide)).ar (RN4.out.gr hg)).ar (RN5.out.gr hg)).ar (RN6.out.gr hg)).ar (RN7.out.gr hg))
  simp only [List.zip_cons_cons, List.zip_nil_right, List.map_cons, List.map_nil, lF, lG] at HG
  clear hT T HF hg hf HG0 RN4 RN5 RN6 RN7 lx0 lx1 HB
  generalize G 8 = gx8 at *
  generalize G 9 = gx9 at *
  generalize G 10 = gx10 at *
  generalize G 11 = gx11 at *
  have lx8 := HG.out.c 2 rfl; have fx8 := HG.out.f 2 rfl
  have lx9 := HG.out.c 3 rfl; have fx9 := HG.out.f 3 rfl
  have lx10 := HG.out.c 4 rfl; have fx10 := HG.out.f 4 rfl
  have lx11 := HG.out.c 5 rfl; have fx11 := HG.out.f 5 rfl
  have r0 := Gr.refl vw2
  obtain ⟨d8_9, d9_8⟩ := HG.out.ne 2 3 rfl rfl (by decide)
  obtain ⟨d8_10, d10_8⟩ := HG.out.ne 2 4 rfl rfl (by decide)
  obtain ⟨d8_11, d11_8⟩ := HG.out.ne 2 5 rfl rfl (by decide)
  obtain ⟨d9_10, d10_9⟩ := HG.out.ne 3 4 rfl rfl (by decide)
  obtain ⟨d9_11, d11_9⟩ := HG.out.ne 3 5 rfl rfl (by decide)
  obtain ⟨d10_11, d11_10⟩ := HG.out.ne 4 5 rfl rfl (by decide)
  go_wp2
  refine hK.out _ _ ?_; clear hK K
  show Code.wp _ _ _ _ _
  clear r0 lx8 fx8 lx9 fx9 lx10 fx10 lx11 fx11 d8_9 d9_8 d8_10 d10_8 d8_11 d11_8 d9_10 d10_9 d9_11 d11_9 d10_11 d11_10
  refine fH (((((((((((((HG.out).put2 2 0 rfl).put2 2 2 rfl).put 2 4 _ rfl).put2 3 0 rfl).put2 3 2 rfl).put 3 4 _ rfl).put2 4 0 rfl).put 4 2 _ rfl).put2 5 0 rfl).put 5 2 _ rfl).er 1).er 0) fun Wx3 HF => ?_
  clear HG
  have lx10 := HF.out.c 2 rfl
  have lx11 := HF.out.c 3 rfl
  refine kS fun K hK => ?_
  refine sq 4 [(true, 0), (true, 1), (true, 2), (true, 3)] fun T hT => ?_
  iterate 2 refine tk ?_
  refine ck Tryz.call74 (fun w' hw => qcmp_any (0 : Rat) (0 : Rat) (0) _ _ _ _ _ (by have e9 : (0 : Rat) - (0 : Rat) = (0 : Rat) := (by first | exact ok | exact Rat.sub_self | exact Rat.add_comm _ _ | exact Rat.mul_comm _ _ | exact Rat.add_assoc _ _ _ | exact Rat.mul_assoc _ _ _ | exact Rat.mul_add _ _ _ | exact Rat.add_sub_cancel | exact Rat.mul_div_cancel (by assumption)); exact sgQ_zero' e9) (by omega) (by omega) (HF.out.r 4 rfl hw) (HF.out.r 5 rfl hw) (HF.out.r 6 rfl hw) (HF.out.r 7 rfl hw)) ?_
  refine tk ?_
  refine nlS hT HF fun vw3 HG => ?_
  clear hT T HF lx10 lx11
  go_wp2
  refine hK.out _ _ ?_; clear hK K
  show Code.wp _ _ _ _ _
  have HF := HG; clear HG
  have lx8 := HF.out.c 0 rfl
  have lx9 := HF.out.c 1 rfl
  refine kS fun K hK => ?_
  refine sq 6 [(true, 0), (true, 1), (true, 2), (true, 3), (true, 4), (true, 5)] fun T hT => ?_
  iterate 2 refine tk ?_
  refine ck Tryz.call75 (fun w' hw => fdiv_none0 (0 : Rat) (0 : Rat) _ (by first | exact ok | exact Rat.sub_self | exact Rat.add_comm _ _ | exact Rat.mul_comm _ _ | exact Rat.add_assoc _ _ _ | exact Rat.mul_assoc _ _ _ | exact Rat.mul_add _ _ _ | exact Rat.add_sub_cancel | exact Rat.mul_div_cancel (by assumption))) ?_
  iterate 3 refine tk ?_
  refine nlS hT HF fun vw4 HG => ?_
  clear hT T HF lx8 lx9
  go_wp2
  refine hK.out _ _ ?_; clear hK K
  show Code.wp _ _ _ _ _
  refine fH ((HG.out).al (b := vw4.heap.size) (by first | rfl | simp) (by decide)) fun Wx5 HF => ?_
  clear HG
  generalize vw4.heap.size = gx12 at *
  have lx11 := HF.out.c 3 rfl
  refine kS fun K hK => ?_
  refine sq 4 [(true, 0), (true, 1), (true, 2), (true, 3)] fun T hT => ?_
  refine tk ?_
  refine ck Tryz.call76 (fun w' hw => qsign_any (0 : Rat) (0) _ _ _ (by have e9 : (0 : Rat) = (0 : Rat) := (by first | exact ok | exact Rat.sub_self | exact Rat.add_comm _ _ | exact Rat.mul_comm _ _ | exact Rat.add_assoc _ _ _ | exact Rat.mul_assoc _ _ _ | exact Rat.mul_add _ _ _ | exact Rat.add_sub_cancel | exact Rat.mul_div_cancel (by assumption)); exact sgQ_zero' e9) (HF.out.r 6 rfl hw) (HF.out.r 7 rfl hw)) ?_
  iterate 2 refine tk ?_
  refine nlS hT HF fun vw5 HG => ?_
  clear hT T HF lx11
  go_wp2
  refine hK.out _ _ ?_; clear hK K
  show Code.wp _ _ _ _ _
  have HF := HG; clear HG
  refine wp_seq ?_
  have HB := HPb HF
  have HZ1 : Hid ((0 : Rat) + (0 : Rat) = (0 : Rat)) := Lib.hid (by first | exact ok | exact Rat.sub_self | exact Rat.add_comm _ _ | exact Rat.mul_comm _ _ | exact Rat.add_assoc _ _ _ | exact Rat.mul_assoc _ _ _ | exact Rat.mul_add _ _ _ | exact Rat.add_sub_cancel | exact Rat.mul_div_cancel (by assumption))
  have su1 : sz ((0 : Rat)) ≤ 19 := by have e := HZ1.out; first | omega | (rw [← e]; have := sz_add (0 : Rat) (0 : Rat); omega)
  have HZ2 : Hid ((0 : Rat) + (0 : Rat) = (0 : Rat)) := Lib.hid (by first | exact ok | exact Rat.sub_self | exact Rat.add_comm _ _ | exact Rat.mul_comm _ _ | exact Rat.add_assoc _ _ _ | exact Rat.mul_assoc _ _ _ | exact Rat.mul_add _ _ _ | exact Rat.add_sub_cancel | exact Rat.mul_div_cancel (by assumption))
  have su2 : rz ((0 : Rat)) ≤ 55 := by have e := HZ2.out; first | omega | (rw [← e]; have := rz_add (0 : Rat) (0 : Rat); omega)
  have HZ3 : Hid ((0 : Rat) - (0 : Rat) = (0 : Rat)) := Lib.hid (by first | exact ok | exact Rat.sub_self | exact Rat.add_comm _ _ | exact Rat.mul_comm _ _ | exact Rat.add_assoc _ _ _ | exact Rat.mul_assoc _ _ _ | exact Rat.mul_add _ _ _ | exact Rat.add_sub_cancel | exact Rat.mul_div_cancel (by assumption))
  have su3 : sz ((0 : Rat)) ≤ 19 := by have e := HZ3.out; first | omega | (rw [← e]; have := sz_sub (0 : Rat) (0 : Rat); omega)
  have HZ4 : Hid ((0 : Rat) - (0 : Rat) = (0 : Rat)) := Lib.hid (by first | exact ok | exact Rat.sub_self | exact Rat.add_comm _ _ | exact Rat.mul_comm _ _ | exact Rat.add_assoc _ _ _ | exact Rat.mul_assoc _ _ _ | exact Rat.mul_add _ _ _ | exact Rat.add_sub_cancel | exact Rat.mul_div_cancel (by assumption))
  have su4 : rz ((0 : Rat)) ≤ 55 := by have e := HZ4.out; first | omega | (rw [← e]; have := rz_sub (0 : Rat) (0 : Rat); omega)
  have HZ5 : Hid ((0 : Rat) * (0 : Rat) = (0 : Rat)) := Lib.hid (by first | exact ok | exact Rat.sub_self | exact Rat.add_comm _ _ | exact Rat.mul_comm _ _ | exact Rat.add_assoc _ _ _ | exact Rat.mul_assoc _ _ _ | exact Rat.mul_add _ _ _ | exact Rat.add_sub_cancel | exact Rat.mul_div_cancel (by assumption))
  have su5 : sz ((0 : Rat)) ≤ 18 := by have e := HZ5.out; first | omega | (rw [← e]; have := sz_mul (0 : Rat) (0 : Rat); omega)
  have HZ6 : Hid ((0 : Rat) * (0 : Rat) = (0 : Rat)) := Lib.hid (by first | exact ok | exact Rat.sub_self | exact Rat.add_comm _ _ | exact Rat.mul_comm _ _ | exact Rat.add_assoc _ _ _ | exact Rat.mul_assoc _ _ _ | exact Rat.mul_add _ _ _ | exact Rat.add_sub_cancel | exact Rat.mul_div_cancel (by assumption))
  have su6 : rz ((0 : Rat)) ≤ 54 := by have e := HZ6.out; first | omega | (rw [← e]; have := rz_mul (0 : Rat) (0 : Rat); omega)
  have HZ7 : Hid ((0 : Rat) / (0 : Rat) = (0 : Rat)) := Lib.hid (by first | exact ok | exact Rat.sub_self | exact Rat.add_comm _ _ | exact Rat.mul_comm _ _ | exact Rat.add_assoc _ _ _ | exact Rat.mul_assoc _ _ _ | exact Rat.mul_add _ _ _ | exact Rat.add_sub_cancel | exact Rat.mul_div_cancel (by assumption))
  have su7 : rz ((0 : Rat)) ≤ 54 := by have e := HZ7.out; first | omega | (rw [← e]; have := rz_div (0 : Rat) (0 : Rat); omega)
  have lx8 := HF.out.c 0 rfl
  have lx9 := HF.out.c 1 rfl
  have lx10 := HF.out.c 2 rfl
  have lx11 := HF.out.c 3 rfl
  have lx12 := HF.out.c 8 rfl
  refine kS fun K hK => ?_
  have HG0 : Hid (Gr vw5 vw5) := Lib.hid (Gr.refl _)
  refine pd 53 [(true, 0), (true, 1), (true, 2), (true, 3), (true, 4), (true, 5), (true, 6), (true, 8), (true, 9), (true, 7), (false, 10), (true, 11), (true, 12), (true, 13), (true, 14), (true, 15), (true, 16), (true, 18), (true, 19), (true, 17), (false, 20), (true, 21), (true, 22), (true, 23), (true, 24), (true, 25), (true, 26), (true, 28), (true, 29), (true, 27), (false, 30), (true, 31), (true, 32), (true, 33), (true, 34), (true, 35), (true, 36), (true, 37), (false, 38), (true, 39), (true, 40), (true, 41), (true, 42), (true, 43), (true, 44), (true, 45), (true, 46), (true, 47), (true, 48), (true, 49), (true, 50), (true, 51), (true, 52)] fun T hT => ?_
  iterate 2 refine tk ?_
  refine ck Tryz.call52 (fun w' hw => fsame_any (0 : Rat) _ _ _ om (by omega) (HF.out.r 4 rfl (HG0.out.trans hw)) (HF.out.r 5 rfl (HG0.out.trans hw)) (Lib.hid (HT.out.gr (Gr.trans HB.out hw)))) ?_
  iterate 6 refine tk ?_
  refine ck Tryz.call65 (fun w' hw => fadd_any (0 : Rat) (0 : Rat) (0 : Rat) _ HZ1.out om om) ?_
  refine wpPlan_callE rfl (by rfl) Tryz.call77 (by rfl) (fun w' hw => (qadd_any (0 : Rat) (0 : Rat) (0 : Rat) _ _ _ _ _ HZ2.out (by omega) (by omega) (HF.out.r 4 rfl (HG0.out.trans hw)) (HF.out.r 5 rfl (HG0.out.trans hw)) (HF.out.r 6 rfl (HG0.out.trans hw)) (HF.out.r 7 rfl (HG0.out.trans hw))).mono ?_)
  rintro e vv13 ⟨⟨rv5, rv6, rfl, bx13, bx14⟩, hg0⟩
  obtain ⟨ao5, nn5, cc5, rfl⟩ := Rn.sl bx13
  obtain ⟨ao6, nn6, cc6, rfl⟩ := Rn.sl bx14
  refine ⟨_, rfl, hg0, ?_⟩
  replace hg0 := Gr.trans hw hg0; clear hw
  replace HG0 := Lib.hid (HG0.out.trans hg0)
  have HGS := Lib.hid hg0; clear hg0
  replace HB := Lib.hid (HB.out.trans (HGS.out.mono HB.out.size))
  clear HGS
  have RN13 := Lib.hid bx13; clear bx13
  have RN14 := Lib.hid bx14; clear bx14
  clear lx8; have lx8 := fun w' (h : Gr _ w') => HF.out.c 0 rfl w' (HG0.out.trans h)
  clear lx9; have lx9 := fun w' (h : Gr _ w') => HF.out.c 1 rfl w' (HG0.out.trans h)
  clear lx10; have lx10 := fun w' (h : Gr _ w') => HF.out.c 2 rfl w' (HG0.out.trans h)
  clear lx11; have lx11 := fun w' (h : Gr _ w') => HF.out.c 3 rfl w' (HG0.out.trans h)
  clear lx12; have lx12 := fun w' (h : Gr _ w') => HF.out.c 8 rfl w' (HG0.out.trans h)
  simp only [Act.put, lA, lB, lC]
  refine ck Tryz.call52 (fun w' hw => fsame_any (0 : Rat) _ _ _ om (by omega) (RN13.out.gr hw) (RN14.out.gr hw) (Lib.hid (HT.out.gr (Gr.trans HB.out hw)))) ?_
  iterate 7 refine tk ?_
  refine ck Tryz.call67 (fun w' hw => fsub_any (0 : Rat) (0 : Rat) (0 : Rat) _ HZ3.out om om) ?_
  refine wpPlan_callE rfl (by rfl) Tryz.call78 (by rfl) (fun w' hw => (qsub_any (0 : Rat) (0 : Rat) (0 : Rat) _ _ _ _ _ HZ4.out (by omega) (by omega) (HF.out.r 4 rfl (HG0.out.trans hw)) (HF.out.r 5 rfl (HG0.out.trans hw)) (HF.out.r 6 rfl (HG0.out.trans hw)) (HF.out.r 7 rfl (HG0.out.trans hw))).mono ?_)
  rintro e vv15 ⟨⟨rv7, rv8, rfl, bx15, bx16⟩, hg0⟩
  obtain ⟨ao7, nn7, cc7, rfl⟩ := Rn.sl bx15
  obtain ⟨ao8, nn8, cc8, rfl⟩ := Rn.sl bx16
  refine ⟨_, rfl, hg0, ?_⟩
  replace hg0 := Gr.trans hw hg0; clear hw
  replace HG0 := Lib.hid (HG0.out.trans hg0)
  have HGS := Lib.hid hg0; clear hg0
  replace RN13 := Lib.hid (RN13.out.gr HGS.out)
  replace RN14 := Lib.hid (RN14.out.gr HGS.out)
  replace HB := Lib.hid (HB.out.trans (HGS.out.mono HB.out.size))
  clear HGS
  have RN15 := Lib.hid bx15; clear bx15
  have RN16 := Lib.hid bx16; clear bx16
  clear lx8; have lx8 := fun w' (h : Gr _ w') => HF.out.c 0 rfl w' (HG0.out.trans h)
  clear lx9; have lx9 := fun w' (h : Gr _ w') => HF.out.c 1 rfl w' (HG0.out.trans h)
  clear lx10; have lx10 := fun w' (h : Gr _ w') => HF.out.c 2 rfl w' (HG0.out.trans h)
  clear lx11; have lx11 := fun w' (h : Gr _ w') => HF.out.c 3 rfl w' (HG0.out.trans h)
  clear lx12; have lx12 := fun w' (h : Gr _ w') => HF.out.c 8 rfl w' (HG0.out.trans h)
  simp only [Act.put, lA, lB, lC]
  refine ck Tryz.call52 (fun w' hw => fsame_any (0 : Rat) _ _ _ om (by omega) (RN15.out.gr hw) (RN16.out.gr hw) (Lib.hid (HT.out.gr (Gr.trans HB.out hw)))) ?_
  iterate 7 refine tk ?_
  refine ck Tryz.call79 (fun w' hw => fmul_any (0 : Rat) (0 : Rat) (0 : Rat) _ HZ5.out om om) ?_
  refine wpPlan_callE rfl (by rfl) Tryz.call80 (by rfl) (fun w' hw => (qmul_any (0 : Rat) (0 : Rat) (0 : Rat) _ _ _ _ _ HZ6.out (by omega) (by omega) (HF.out.r 4 rfl (HG0.out.trans hw)) (HF.out.r 5 rfl (HG0.out.trans hw)) (HF.out.r 6 rfl (HG0.out.trans hw)) (HF.out.r 7 rfl (HG0.out.trans hw))).mono ?_)
  rintro e vv17 ⟨⟨rv9, rv10, rfl, bx17, bx18⟩, hg0⟩
  obtain ⟨ao9, nn9, cc9, rfl⟩ := Rn.sl bx17
  obtain ⟨ao10, nn10, cc10, rfl⟩ := Rn.sl bx18
  refine ⟨_, rfl, hg0, ?_⟩
  replace hg0 := Gr.trans hw hg0; clear hw
  replace HG0 := Lib.hid (HG0.out.trans hg0)
  have HGS := Lib.hid hg0; clear hg0
  replace RN13 := Lib.hid (RN13.out.gr HGS.out)
  replace RN14 := Lib.hid (RN14.out.gr HGS.out)
  replace RN15 := Lib.hid (RN15.out.gr HGS.out)
  replace RN16 := Lib.hid (RN16.out.gr HGS.out)
  replace HB := Lib.hid (HB.out.trans (HGS.out.mono HB.out.size))
  clear HGS
  have RN17 := Lib.hid bx17; clear bx17
  have RN18 := Lib.hid bx18; clear bx18
  clear lx8; have lx8 := fun w' (h : Gr _ w') => HF.out.c 0 rfl w' (HG0.out.trans h)
  clear lx9; have lx9 := fun w' (h : Gr _ w') => HF.out.c 1 rfl w' (HG0.out.trans h)
  clear lx10; have lx10 := fun w' (h : Gr _ w') => HF.out.c 2 rfl w' (HG0.out.trans h)
  clear lx11; have lx11 := fun w' (h : Gr _ w') => HF.out.c 3 rfl w' (HG0.out.trans h)
  clear lx12; have lx12 := fun w' (h : Gr _ w') => HF.out.c 8 rfl w' (HG0.out.trans h)
  simp only [Act.put, lA, lB, lC]
  refine ck Tryz.call52 (fun w' hw => fsame_any (0 : Rat) _ _ _ om (by omega) (RN17.out.gr hw) (RN18.out.gr hw) (Lib.hid (HT.out.gr (Gr.trans HB.out hw)))) ?_
  iterate 6 refine tk ?_
  refine wpPlan_callE rfl (by rfl) Tryz.call81 (by rfl) (fun w' hw => (qdiv_any (0 : Rat) (0 : Rat) (0 : Rat) _ _ _ _ _ HZ7.out (by omega) (by omega) (HF.out.r 4 rfl (HG0.out.trans hw)) (HF.out.r 5 rfl (HG0.out.trans hw)) (HF.out.r 6 rfl (HG0.out.trans hw)) (HF.out.r 7 rfl (HG0.out.trans hw))).mono ?_)
  rintro e vv19 ⟨⟨rv11, rv12, rfl, bx19, bx20⟩, hg0⟩
  obtain ⟨ao11, nn11, cc11, rfl⟩ := Rn.sl bx19
  obtain ⟨ao12, nn12, cc12, rfl⟩ := Rn.sl bx20
  refine ⟨_, rfl, hg0, ?_⟩
  replace hg0 := Gr.trans hw hg0; clear hw
  replace HG0 := Lib.hid (HG0.out.trans hg0)
  have HGS := Lib.hid hg0; clear hg0
  replace RN13 := Lib.hid (RN13.out.gr HGS.out)
  replace RN14 := Lib.hid (RN14.out.gr HGS.out)
  replace RN15 := Lib.hid (RN15.out.gr HGS.out)
  replace RN16 := Lib.hid (RN16.out.gr HGS.out)
  replace RN17 := Lib.hid (RN17.out.gr HGS.out)
  replace RN18 := Lib.hid (RN18.out.gr HGS.out)
  replace HB := Lib.hid (HB.out.trans (HGS.out.mono HB.out.size))
  clear HGS
  have RN19 := Lib.hid bx19; clear bx19
  have RN20 := Lib.hid bx20; clear bx20
  clear lx8; have lx8 := fun w' (h : Gr _ w') => HF.out.c 0 rfl w' (HG0.out.trans h)
  clear lx9; have lx9 := fun w' (h : Gr _ w') => HF.out.c 1 rfl w' (HG0.out.trans h)
  clear lx10; have lx10 := fun w' (h : Gr _ w') => HF.out.c 2 rfl w' (HG0.out.trans h)
  clear lx11; have lx11 := fun w' (h : Gr _ w') => HF.out.c 3 rfl w' (HG0.out.trans h)
  clear lx12; have lx12 := fun w' (h : Gr _ w') => HF.out.c 8 rfl w' (HG0.out.trans h)
  simp only [Act.put, lA, lB, lC]
  refine ck Tryz.call52 (fun w' hw => fsame_any (0 : Rat) _ _ _ om (by omega) (RN19.out.gr hw) (RN20.out.gr hw) (Lib.hid (HT.out.gr (Gr.trans HB.out hw)))) ?_
  iterate 13 refine tk ?_
  refine wpPlan_nil (hT.out _ _ ?_)
  intro G vw6 hg hf
  simp only [puts, Act.put, lA, lB, lC, lD, lE, ↓reduceIte, Nat.reduceEqDiff]
  have HG := Lib.hid (((((((((HF.out.gr (HG0.out.trans hg)).ar (RN13.out.gr hg)).ar (RN14.out.gr hg)).ar (RN15.out.gr hg)).ar (RN16.out.gr hg)).ar (RN17.out.gr hg)).ar (RN18.out.gr hg)).ar (RN19.out.gr hg)).ar (RN20.out.gr hg))
  simp only [List.zip_cons_cons, List.zip_nil_right, List.map_cons, List.map_nil, lF, lG] at HG
  clear hT T HF hg hf HG0 RN13 RN14 RN15 RN16 RN17 RN18 RN19 RN20 lx8 lx9 lx10 lx11 lx12 HB
  go_wp2
  refine hK.out _ _ ?_; clear hK K
  show Code.wp _ _ _ _ _
  refine fH (((((((((((((HG.out).er 16).er 15).er 14).er 13).er 12).er 11).er 10).er 9).er 8).er 7).er 6).er 3) fun Wx7 HF => ?_
  clear HG
  refine wp_cond_false (by rfl) ?_
  refine wp_skip ?_
  show Code.wp _ _ _ _ _
  have HB := HPb HF
  have HZ8 : Hid (-(0 : Rat) = (0 : Rat)) := Lib.hid (by first | exact ok | exact Rat.sub_self | exact Rat.add_comm _ _ | exact Rat.mul_comm _ _ | exact Rat.add_assoc _ _ _ | exact Rat.mul_assoc _ _ _ | exact Rat.mul_add _ _ _ | exact Rat.add_sub_cancel | exact Rat.mul_div_cancel (by assumption))
  have su8 : sz ((0 : Rat)) ≤ 9 := by have e := HZ8.out; first | omega | (rw [← e]; rw [sz_neg]; omega)
  have HZ9 : Hid (-(0 : Rat) = (0 : Rat)) := Lib.hid (by first | exact ok | exact Rat.sub_self | exact Rat.add_comm _ _ | exact Rat.mul_comm _ _ | exact Rat.add_assoc _ _ _ | exact Rat.mul_assoc _ _ _ | exact Rat.mul_add _ _ _ | exact Rat.add_sub_cancel | exact Rat.mul_div_cancel (by assumption))
  have su9 : rz ((0 : Rat)) ≤ 27 := by have e := HZ9.out; first | omega | (rw [← e]; rw [rz_neg]; omega)
  have HZ10 : Hid (qabs (0 : Rat) = (0 : Rat)) := Lib.hid (by first | exact ok | exact Rat.sub_self | exact Rat.add_comm _ _ | exact Rat.mul_comm _ _ | exact Rat.add_assoc _ _ _ | exact Rat.mul_assoc _ _ _ | exact Rat.mul_add _ _ _ | exact Rat.add_sub_cancel | exact Rat.mul_div_cancel (by assumption))
  have su10 : sz ((0 : Rat)) ≤ 9 := by have e := HZ10.out; first | omega | (rw [← e]; rw [sz_qabs]; omega)
  have HZ11 : Hid (qabs (0 : Rat) = (0 : Rat)) := Lib.hid (by first | exact ok | exact Rat.sub_self | exact Rat.add_comm _ _ | exact Rat.mul_comm _ _ | exact Rat.add_assoc _ _ _ | exact Rat.mul_assoc _ _ _ | exact Rat.mul_add _ _ _ | exact Rat.add_sub_cancel | exact Rat.mul_div_cancel (by assumption))
  have su11 : rz ((0 : Rat)) ≤ 27 := by have e := HZ11.out; first | omega | (rw [← e]; rw [rz_qabs]; omega)
  have HZ12 : Hid (((0 : Rat)).floor = 0) := Lib.hid (by first | exact ok | exact Rat.sub_self | exact Rat.add_comm _ _ | exact Rat.mul_comm _ _ | exact Rat.add_assoc _ _ _ | exact Rat.mul_assoc _ _ _ | exact Rat.mul_add _ _ _ | exact Rat.add_sub_cancel | exact Rat.mul_div_cancel (by assumption))
  have su12 : wl (Int.natAbs (0)) ≤ 10 := by have e := HZ12.out; first | omega | (rw [← e]; have := wl_floor ((0 : Rat)); omega) | exact wl_le.2 (by decide +kernel)
  have HZ13 : Hid (((0 : Rat)).floor = 0) := Lib.hid (by first | exact ok | exact Rat.sub_self | exact Rat.add_comm _ _ | exact Rat.mul_comm _ _ | exact Rat.add_assoc _ _ _ | exact Rat.mul_assoc _ _ _ | exact Rat.mul_add _ _ _ | exact Rat.add_sub_cancel | exact Rat.mul_div_cancel (by assumption))
  have su13 : tw (Int.natAbs (0)) ≤ 28 := by have e := HZ13.out; first | omega | (rw [← e]; have := tw_floor ((0 : Rat)); omega) | exact tw_le.2 (by decide +kernel)
  have hd1 : (((itx (0))).toList == ((itx (0))).toList) = true := by simp
  have lx8 := HF.out.c 0 rfl
  have lx9 := HF.out.c 1 rfl
  have lx10 := HF.out.c 2 rfl
  refine kS fun K hK => ?_
  have HG0 : Hid (Gr Wx7 Wx7) := Lib.hid (Gr.refl _)
  refine pd 46 [(true, 0), (true, 2), (true, 1), (false, 3), (true, 4), (true, 5), (true, 6), (true, 8), (true, 7), (false, 9), (true, 10), (true, 11), (true, 12), (true, 13), (true, 15), (true, 14), (true, 16), (true, 17), (true, 18), (true, 19), (true, 20), (true, 21), (true, 23), (true, 22), (true, 24), (true, 25), (true, 26), (true, 27), (true, 28), (true, 29), (true, 30), (true, 31), (true, 32), (true, 33), (true, 34), (true, 35), (true, 38), (true, 36), (true, 37), (false, 39), (true, 40), (true, 41), (true, 42), (true, 43), (true, 44), (true, 45)] fun T hT => ?_
  iterate 2 refine tk ?_
  refine ck Tryz.call82 (fun w' hw => fneg_any (0 : Rat) (0 : Rat) _ HZ8.out) ?_
  refine wpPlan_callE rfl (by rfl) Tryz.call83 (by rfl) (fun w' hw => (qneg_any (0 : Rat) (0 : Rat) _ _ _ HZ9.out (HF.out.r 3 rfl (HG0.out.trans hw)) (HF.out.r 4 rfl (HG0.out.trans hw))).mono ?_)
  rintro e vv21 ⟨⟨rv13, rv14, rfl, bx21, bx22⟩, hg0⟩
  obtain ⟨ao13, nn13, cc13, rfl⟩ := Rn.sl bx21
  obtain ⟨ao14, nn14, cc14, rfl⟩ := Rn.sl bx22
  refine ⟨_, rfl, hg0, ?_⟩
  replace hg0 := Gr.trans hw hg0; clear hw
  replace HG0 := Lib.hid (HG0.out.trans hg0)
  have HGS := Lib.hid hg0; clear hg0
  replace HB := Lib.hid (HB.out.trans (HGS.out.mono HB.out.size))
  clear HGS
  have RN21 := Lib.hid bx21; clear bx21
  have RN22 := Lib.hid bx22; clear bx22
  clear lx8; have lx8 := fun w' (h : Gr _ w') => HF.out.c 0 rfl w' (HG0.out.trans h)
  clear lx9; have lx9 := fun w' (h : Gr _ w') => HF.out.c 1 rfl w' (HG0.out.trans h)
  clear lx10; have lx10 := fun w' (h : Gr _ w') => HF.out.c 2 rfl w' (HG0.out.trans h)
  simp only [Act.put, lA, lB, lC]
  refine ck Tryz.call52 (fun w' hw => fsame_any (0 : Rat) _ _ _ om (by omega) (RN21.out.gr hw) (RN22.out.gr hw) (Lib.hid (HT.out.gr (Gr.trans HB.out hw)))) ?_
  iterate 3 refine tk ?_
  refine ck Tryz.call84 (fun w' hw => fabs_any (0 : Rat) (0 : Rat) _ HZ10.out) ?_
  refine wpPlan_callE rfl (by rfl) Tryz.call85 (by rfl) (fun w' hw => (qabs_ref (0 : Rat) (0 : Rat) _ _ _ HZ11.out (HF.out.r 3 rfl (HG0.out.trans hw)) (HF.out.r 4 rfl (HG0.out.trans hw))).mono ?_)
  rintro e vv23 ⟨⟨rv15, rv16, rfl, bx23, bx24⟩, hg0⟩
  obtain ⟨ao15, nn15, cc15, rfl⟩ := Rn.sl bx23
  obtain ⟨ao16, nn16, cc16, rfl⟩ := Rn.sl bx24
  refine ⟨_, rfl, hg0, ?_⟩
  replace hg0 := Gr.trans hw hg0; clear hw
  replace HG0 := Lib.hid (HG0.out.trans hg0)
  have HGS := Lib.hid hg0; clear hg0
  replace RN21 := Lib.hid (RN21.out.gr HGS.out)
  replace RN22 := Lib.hid (RN22.out.gr HGS.out)
  replace HB := Lib.hid (HB.out.trans (HGS.out.mono HB.out.size))
  clear HGS
  have RN23 := Lib.hid bx23; clear bx23
  have RN24 := Lib.hid bx24; clear bx24
  clear lx8; have lx8 := fun w' (h : Gr _ w') => HF.out.c 0 rfl w' (HG0.out.trans h)
  clear lx9; have lx9 := fun w' (h : Gr _ w') => HF.out.c 1 rfl w' (HG0.out.trans h)
  clear lx10; have lx10 := fun w' (h : Gr _ w') => HF.out.c 2 rfl w' (HG0.out.trans h)
  simp only [Act.put, lA, lB, lC]
  refine ck Tryz.call52 (fun w' hw => fsame_any (0 : Rat) _ _ _ om (by omega) (RN23.out.gr hw) (RN24.out.gr hw) (Lib.hid (HT.out.gr (Gr.trans HB.out hw)))) ?_
  iterate 4 refine tk ?_
  refine ck Tryz.call86 (fun w' hw => fsign_any (0 : Rat) (0) _ (by have e9 : (0 : Rat) = (0 : Rat) := (by first | exact ok | exact Rat.sub_self | exact Rat.add_comm _ _ | exact Rat.mul_comm _ _ | exact Rat.add_assoc _ _ _ | exact Rat.mul_assoc _ _ _ | exact Rat.mul_add _ _ _ | exact Rat.add_sub_cancel | exact Rat.mul_div_cancel (by assumption)); exact sgQ_zero' e9)) ?_
  refine ck Tryz.call76 (fun w' hw => qsign_any (0 : Rat) (0) _ _ _ (by have e9 : (0 : Rat) = (0 : Rat) := (by first | exact ok | exact Rat.sub_self | exact Rat.add_comm _ _ | exact Rat.mul_comm _ _ | exact Rat.add_assoc _ _ _ | exact Rat.mul_assoc _ _ _ | exact Rat.mul_add _ _ _ | exact Rat.add_sub_cancel | exact Rat.mul_div_cancel (by assumption)); exact sgQ_zero' e9) (HF.out.r 3 rfl (HG0.out.trans hw)) (HF.out.r 4 rfl (HG0.out.trans hw))) ?_
  iterate 6 refine tk ?_
  refine ck Tryz.call64 (fun w' hw => fcmp_any (0 : Rat) (0 : Rat) (0) _ (by have e9 : (0 : Rat) - (0 : Rat) = (0 : Rat) := (by first | exact ok | exact Rat.sub_self | exact Rat.add_comm _ _ | exact Rat.mul_comm _ _ | exact Rat.add_assoc _ _ _ | exact Rat.mul_assoc _ _ _ | exact Rat.mul_add _ _ _ | exact Rat.add_sub_cancel | exact Rat.mul_div_cancel (by assumption)); exact sgQ_zero' e9) om om) ?_
  iterate 13 refine tk ?_
  refine ck Tryz.call56 (fun w' hw => ffloor_any (0 : Rat) (0) _ (Lib.hid HZ12.out) om) ?_
  refine ck Tryz.call72 (fun w' hw => itext_any (0) _ om (Lib.hid (HT.out.gr (Gr.trans HB.out hw)))) ?_
  refine wpPlan_callE rfl (by rfl) Tryz.call88 (by rfl) (fun w' hw => (qfloor_any (0 : Rat) (0) _ _ _ (Lib.hid HZ13.out) (by omega) (HF.out.r 3 rfl (HG0.out.trans hw)) (HF.out.r 4 rfl (HG0.out.trans hw))).mono ?_)
  rintro e vv25 ⟨⟨rv17, rfl, bx25⟩, hg0⟩
  obtain ⟨ao17, nn17, cc17, rfl⟩ := Rn.sl bx25
  refine ⟨_, rfl, hg0, ?_⟩
  replace hg0 := Gr.trans hw hg0; clear hw
  replace HG0 := Lib.hid (HG0.out.trans hg0)
  have HGS := Lib.hid hg0; clear hg0
  replace RN21 := Lib.hid (RN21.out.gr HGS.out)
  replace RN22 := Lib.hid (RN22.out.gr HGS.out)
  replace RN23 := Lib.hid (RN23.out.gr HGS.out)
  replace RN24 := Lib.hid (RN24.out.gr HGS.out)
  replace HB := Lib.hid (HB.out.trans (HGS.out.mono HB.out.size))
  clear HGS
  have RN25 := Lib.hid bx25; clear bx25
  clear lx8; have lx8 := fun w' (h : Gr _ w') => HF.out.c 0 rfl w' (HG0.out.trans h)
  clear lx9; have lx9 := fun w' (h : Gr _ w') => HF.out.c 1 rfl w' (HG0.out.trans h)
  clear lx10; have lx10 := fun w' (h : Gr _ w') => HF.out.c 2 rfl w' (HG0.out.trans h)
  simp only [Act.put, lA, lB, lC]
  refine ck Tryz.call87 (fun w' hw => rtextZ_any (0) _ _ (RN25.out.gr hw) (by omega)) ?_
  iterate 3 refine tk ?_
  refine ck Tryz.call49 (fun w' hw => worksq_any _ (Lib.hid (HT.out.gr (Gr.trans HB.out hw)))) ?_
  refine tk ?_
  refine wpPlan_nil (hT.out _ _ ?_)
  intro G vw7 hg hf
  simp only [puts, Act.put, lA, lB, lC, lD, lE, ↓reduceIte, Nat.reduceEqDiff]
  have HG := Lib.hid ((((((HF.out.gr (HG0.out.trans hg)).ar (RN21.out.gr hg)).ar (RN22.out.gr hg)).ar (RN23.out.gr hg)).ar (RN24.out.gr hg)).ar (RN25.out.gr hg))
  simp only [List.zip_cons_cons, List.zip_nil_right, List.map_cons, List.map_nil, lF, lG] at HG
  clear hT T HF hg hf HG0 RN21 RN22 RN23 RN24 RN25 lx8 lx9 lx10 HB
  go_wp2
  refine hK.out _ _ ?_; clear hK K
  show Code.wp _ _ _ _ _
  refine fH (((((((((((HG.out).er 9).er 8).er 7).er 6).er 5).er 4).er 3).er 2).er 1).er 0) fun Wx9 HF => ?_
  clear HG
  clear hd1
  refine wp_ret ?_
  try simp only [Exit.then, Exit.inBlock]
  exact bodyPost_ret (v := .bool true) (by simp [results, Tryz.results9, go_sem]) rfl ⟨rfl, HF.out.1⟩

set_option maxRecDepth 100000 in
set_option maxHeartbeats 8000000 in
theorem sumq_big1 (bbxn : Bool) (vxn : Value) (kxn : Nat) (fxn : Nat → Nat) (mxn : Nat) (ixn : Int) (vxd : Value) (kxd : Nat) (fxd : Nat → Nat) (mxd : Nat) (bbyn : Bool) (vyn : Value) (kyn : Nat) (fyn : Nat → Nat) (myn : Nat) (iyn : Int) (vyd : Value) (kyd : Nat) (fyd : Nat → Nat) (myd : Nat) (a b : Rat)  (w : World) (HWxn : Hid (Wa w vxn kxn fxn)) (HFxn : Hid (∀ i, i < kxn → fxn i < 4294967296)) (HVxn : Hid (vl fxn kxn = mxn)) (HAxn : Hid ((if bbxn then -((mxn : Nat) : Int) else ((mxn : Nat) : Int)) = ixn)) (HWxd : Hid (Wa w vxd kxd fxd)) (HFxd : Hid (∀ i, i < kxd → fxd i < 4294967296)) (HVxd : Hid (vl fxd kxd = mxd)) (HQx : Hid (mkRat ixn (mxd + 1) = a)) (HWyn : Hid (Wa w vyn kyn fyn)) (HFyn : Hid (∀ i, i < kyn → fyn i < 4294967296)) (HVyn : Hid (vl fyn kyn = myn)) (HAyn : Hid ((if bbyn then -((myn : Nat) : Int) else ((myn : Nat) : Int)) = iyn)) (HWyd : Hid (Wa w vyd kyd fyd)) (HFyd : Hid (∀ i, i < kyd → fyd i < 4294967296)) (HVyd : Hid (vl fyd kyd = myd)) (HQy : Hid (mkRat iyn (myd + 1) = b))  (hkxn : 8 < kxn) (HT : Hid (Tab w)) :
    Calls Tryz.prog 9 #[.agg #[.bool bbxn, vxn, vxd], .agg #[.bool bbyn, vyn, vyd]] w fun e w' => e = .returned (.bool true) ∧ Below w.heap.size w w' := by
  obtain ⟨ao_xn, c_xn, rfl⟩ := HWxn.out.slice
  obtain ⟨ao_xd, c_xd, rfl⟩ := HWxd.out.slice
  obtain ⟨ao_yn, c_yn, rfl⟩ := HWyn.out.slice
  obtain ⟨ao_yd, c_yd, rfl⟩ := HWyd.out.slice
  go_enter Tryz.func9, Tryz.ntmps9
  have HF := Lib.hid (hp0 w)
  refine kS fun K hK => ?_
  refine wp_region_lit ?_
  go_wp2
  refine hK.out _ _ ?_; clear hK K
  show Code.wp _ _ _ _ _
  refine fH (((HF.out).al (b := w.heap.size) (by first | rfl | simp) (by decide)).al (b := w.heap.size + 1) (by first | rfl | simp) (by decide)) fun Wx0 HG => ?_
  clear HF; have HF := HG; clear HG
  generalize w.heap.size + 1 = gx1 at *
  refine wp_seq ?_
  have lx0 := HF.out.c 0 rfl
  have lx1 := HF.out.c 1 rfl
  refine kS fun K hK => ?_
  have HG0 : Hid (Gr Wx0 Wx0) := Lib.hid (Gr.refl _)
  refine sq 5 [(true, 0), (true, 1), (false, 2), (true, 3), (true, 4)] fun T hT => ?_
  iterate 2 refine tk ?_
  refine wpPlan_slice (cs := #[.bool (bbxn), (.slice ao_xn kxn c_xn), (.slice ao_xd kxd c_xd), .bool (bbyn), (.slice ao_yn kyn c_yn), (.slice ao_yd kyd c_yd)]) (E := 88) (n := 2) rfl (by rfl) (fun w' hw => ?_) (fun gx3 vv3 hg0 yx3 bx3 => ?_)
  · go_simp
  clear yx3
  replace HG0 := Lib.hid (HG0.out.trans hg0)
  have HGS := Lib.hid hg0; clear hg0
  clear HGS
  have BX3 := Lib.hid bx3; clear bx3
  clear lx0; have lx0 := fun w' (h : Gr _ w') => HF.out.c 0 rfl w' (HG0.out.trans h)
  clear lx1; have lx1 := fun w' (h : Gr _ w') => HF.out.c 1 rfl w' (HG0.out.trans h)
  simp only [Act.put, lA, lB, lC]
  refine ck Tryz.call53 (fun w' hw => qfew2_no0 _ _ _ _ _ _ _ _ _ _ _ _ _ _ 8 gx3 _ (BX3.out.gr hw) (by omega)) ?_
  refine tk ?_
  refine wpPlan_nil (hT.out _ _ ?_)
  intro vw1 hg
  simp only [puts, Act.put, lA, lB, lC, lD, lE, ↓reduceIte, Nat.reduceEqDiff]
  have HG := Lib.hid (HF.out.gr (HG0.out.trans hg))
  clear hT T HF hg HG0 BX3 lx0 lx1
  go_wp2
  refine hK.out _ _ ?_; clear hK K
  show Code.wp _ _ _ _ _
  have HF := HG; clear HG
  refine wp_cond_true (by rfl) ?_
  have HB := HPb HF
  refine kS fun K hK => ?_
  refine sq 2 [(true, 0), (true, 1)] fun T hT => ?_
  refine ck Tryz.call49 (fun w' hw => worksq_any _ (Lib.hid (HT.out.gr (Gr.trans HB.out hw)))) ?_
  refine tk ?_
  refine nlS hT HF fun vw2 HG => ?_
  clear hT T HF HB
  go_wp2
  refine hK.out _ _ ?_; clear hK K
  show Code.wp _ _ _ _ _
  have HF := HG; clear HG
  refine wp_ret ?_
  try simp only [Exit.then, Exit.inBlock]
  exact bodyPost_ret (v := .bool true) (by simp [results, Tryz.results9, go_sem]) rfl ⟨rfl, HF.out.1⟩

set_option maxRecDepth 100000 in
set_option maxHeartbeats 8000000 in
theorem sumq_big2 (bbxn : Bool) (vxn : Value) (kxn : Nat) (fxn : Nat → Nat) (mxn : Nat) (ixn : Int) (vxd : Value) (kxd : Nat) (fxd : Nat → Nat) (mxd : Nat) (bbyn : Bool) (vyn : Value) (kyn : Nat) (fyn : Nat → Nat) (myn : Nat) (iyn : Int) (vyd : Value) (kyd : Nat) (fyd : Nat → Nat) (myd : Nat) (a b : Rat)  (w : World) (HWxn : Hid (Wa w vxn kxn fxn)) (HFxn : Hid (∀ i, i < kxn → fxn i < 4294967296)) (HVxn : Hid (vl fxn kxn = mxn)) (HAxn : Hid ((if bbxn then -((mxn : Nat) : Int) else ((mxn : Nat) : Int)) = ixn)) (HWxd : Hid (Wa w vxd kxd fxd)) (HFxd : Hid (∀ i, i < kxd → fxd i < 4294967296)) (HVxd : Hid (vl fxd kxd = mxd)) (HQx : Hid (mkRat ixn (mxd + 1) = a)) (HWyn : Hid (Wa w vyn kyn fyn)) (HFyn : Hid (∀ i, i < kyn → fyn i < 4294967296)) (HVyn : Hid (vl fyn kyn = myn)) (HAyn : Hid ((if bbyn then -((myn : Nat) : Int) else ((myn : Nat) : Int)) = iyn)) (HWyd : Hid (Wa w vyd kyd fyd)) (HFyd : Hid (∀ i, i < kyd → fyd i < 4294967296)) (HVyd : Hid (vl fyd kyd = myd)) (HQy : Hid (mkRat iyn (myd + 1) = b)) (hkxn : kxn ≤ 8) (hkxd : 8 < kxd) (HT : Hid (Tab w)) :
    Calls Tryz.prog 9 #[.agg #[.bool bbxn, vxn, vxd], .agg #[.bool bbyn, vyn, vyd]] w fun e w' => e = .returned (.bool true) ∧ Below w.heap.size w w' := by
  obtain ⟨ao_xn, c_xn, rfl⟩ := HWxn.out.slice
  obtain ⟨ao_xd, c_xd, rfl⟩ := HWxd.out.slice
  obtain ⟨ao_yn, c_yn, rfl⟩ := HWyn.out.slice
  obtain ⟨ao_yd, c_yd, rfl⟩ := HWyd.out.slice
  go_enter Tryz.func9, Tryz.ntmps9
  have HF := Lib.hid (hp0 w)
  refine kS fun K hK => ?_
  refine wp_region_lit ?_
  go_wp2
  refine hK.out _ _ ?_; clear hK K
  show Code.wp _ _ _ _ _
  refine fH (((HF.out).al (b := w.heap.size) (by first | rfl | simp) (by decide)).al (b := w.heap.size + 1) (by first | rfl | simp) (by decide)) fun Wx0 HG => ?_
  clear HF; have HF := HG; clear HG
  generalize w.heap.size + 1 = gx1 at *
  refine wp_seq ?_
  have lx0 := HF.out.c 0 rfl
  have lx1 := HF.out.c 1 rfl
  refine kS fun K hK => ?_
  have HG0 : Hid (Gr Wx0 Wx0) := Lib.hid (Gr.refl _)
  refine sq 5 [(true, 0), (true, 1), (false, 2), (true, 3), (true, 4)] fun T hT => ?_
  iterate 2 refine tk ?_
  refine wpPlan_slice (cs := #[.bool (bbxn), (.slice ao_xn kxn c_xn), (.slice ao_xd kxd c_xd), .bool (bbyn), (.slice ao_yn kyn c_yn), (.slice ao_yd kyd c_yd)]) (E := 88) (n := 2) rfl (by rfl) (fun w' hw => ?_) (fun gx3 vv3 hg0 yx3 bx3 => ?_)
  · go_simp
  clear yx3
  replace HG0 := Lib.hid (HG0.out.trans hg0)
  have HGS := Lib.hid hg0; clear hg0
  clear HGS
  have BX3 := Lib.hid bx3; clear bx3
  clear lx0; have lx0 := fun w' (h : Gr _ w') => HF.out.c 0 rfl w' (HG0.out.trans h)
  clear lx1; have lx1 := fun w' (h : Gr _ w') => HF.out.c 1 rfl w' (HG0.out.trans h)
  simp only [Act.put, lA, lB, lC]
  refine ck Tryz.call53 (fun w' hw => qfew2_no1 _ _ _ _ _ _ _ _ _ _ _ _ _ _ 8 gx3 _ (BX3.out.gr hw) (by omega) (by omega)) ?_
  refine tk ?_
  refine wpPlan_nil (hT.out _ _ ?_)
  intro vw1 hg
  simp only [puts, Act.put, lA, lB, lC, lD, lE, ↓reduceIte, Nat.reduceEqDiff]
  have HG := Lib.hid (HF.out.gr (HG0.out.trans hg))
  clear hT T HF hg HG0 BX3 lx0 lx1
  go_wp2
  refine hK.out _ _ ?_; clear hK K
  show Code.wp _ _ _ _ _
  have HF := HG; clear HG
  refine wp_cond_true (by rfl) ?_
  have HB := HPb HF
  refine kS fun K hK => ?_
  refine sq 2 [(true, 0), (true, 1)] fun T hT => ?_
  refine ck Tryz.call49 (fun w' hw => worksq_any _ (Lib.hid (HT.out.gr (Gr.trans HB.out hw)))) ?_
  refine tk ?_
  refine nlS hT HF fun vw2 HG => ?_
  clear hT T HF HB
  go_wp2
  refine hK.out _ _ ?_; clear hK K
  show Code.wp _ _ _ _ _
  have HF := HG; clear HG
  refine wp_ret ?_
  try simp only [Exit.then, Exit.inBlock]
  exact bodyPost_ret (v := .bool true) (by simp [results, Tryz.results9, go_sem]) rfl ⟨rfl, HF.out.1⟩

set_option maxRecDepth 100000 in
set_option maxHeartbeats 8000000 in
theorem sumq_big3 (bbxn : Bool) (vxn : Value) (kxn : Nat) (fxn : Nat → Nat) (mxn : Nat) (ixn : Int) (vxd : Value) (kxd : Nat) (fxd : Nat → Nat) (mxd : Nat) (bbyn : Bool) (vyn : Value) (kyn : Nat) (fyn : Nat → Nat) (myn : Nat) (iyn : Int) (vyd : Value) (kyd : Nat) (fyd : Nat → Nat) (myd : Nat) (a b : Rat)  (w : World) (HWxn : Hid (Wa w vxn kxn fxn)) (HFxn : Hid (∀ i, i < kxn → fxn i < 4294967296)) (HVxn : Hid (vl fxn kxn = mxn)) (HAxn : Hid ((if bbxn then -((mxn : Nat) : Int) else ((mxn : Nat) : Int)) = ixn)) (HWxd : Hid (Wa w vxd kxd fxd)) (HFxd : Hid (∀ i, i < kxd → fxd i < 4294967296)) (HVxd : Hid (vl fxd kxd = mxd)) (HQx : Hid (mkRat ixn (mxd + 1) = a)) (HWyn : Hid (Wa w vyn kyn fyn)) (HFyn : Hid (∀ i, i < kyn → fyn i < 4294967296)) (HVyn : Hid (vl fyn kyn = myn)) (HAyn : Hid ((if bbyn then -((myn : Nat) : Int) else ((myn : Nat) : Int)) = iyn)) (HWyd : Hid (Wa w vyd kyd fyd)) (HFyd : Hid (∀ i, i < kyd → fyd i < 4294967296)) (HVyd : Hid (vl fyd kyd = myd)) (HQy : Hid (mkRat iyn (myd + 1) = b)) (hkxn : kxn ≤ 8) (hkxd : kxd ≤ 8) (hkyn : 8 < kyn) (HT : Hid (Tab w)) :
    Calls Tryz.prog 9 #[.agg #[.bool bbxn, vxn, vxd], .agg #[.bool bbyn, vyn, vyd]] w fun e w' => e = .returned (.bool true) ∧ Below w.heap.size w w' := by
  obtain ⟨ao_xn, c_xn, rfl⟩ := HWxn.out.slice
  obtain ⟨ao_xd, c_xd, rfl⟩ := HWxd.out.slice
  obtain ⟨ao_yn, c_yn, rfl⟩ := HWyn.out.slice
  obtain ⟨ao_yd, c_yd, rfl⟩ := HWyd.out.slice
  go_enter Tryz.func9, Tryz.ntmps9
  have HF := Lib.hid (hp0 w)
  refine kS fun K hK => ?_
  refine wp_region_lit ?_
  go_wp2
  refine hK.out _ _ ?_; clear hK K
  show Code.wp _ _ _ _ _
  refine fH (((HF.out).al (b := w.heap.size) (by first | rfl | simp) (by decide)).al (b := w.heap.size + 1) (by first | rfl | simp) (by decide)) fun Wx0 HG => ?_
  clear HF; have HF := HG; clear HG
  generalize w.heap.size + 1 = gx1 at *
  refine wp_seq ?_
  have lx0 := HF.out.c 0 rfl
  have lx1 := HF.out.c 1 rfl
  refine kS fun K hK => ?_
  have HG0 : Hid (Gr Wx0 Wx0) := Lib.hid (Gr.refl _)
  refine sq 5 [(true, 0), (true, 1), (false, 2), (true, 3), (true, 4)] fun T hT => ?_
  iterate 2 refine tk ?_
  refine wpPlan_slice (cs := #[.bool (bbxn), (.slice ao_xn kxn c_xn), (.slice ao_xd kxd c_xd), .bool (bbyn), (.slice ao_yn kyn c_yn), (.slice ao_yd kyd c_yd)]) (E := 88) (n := 2) rfl (by rfl) (fun w' hw => ?_) (fun gx3 vv3 hg0 yx3 bx3 => ?_)
  · go_simp
  clear yx3
  replace HG0 := Lib.hid (HG0.out.trans hg0)
  have HGS := Lib.hid hg0; clear hg0
  clear HGS
  have BX3 := Lib.hid bx3; clear bx3
  clear lx0; have lx0 := fun w' (h : Gr _ w') => HF.out.c 0 rfl w' (HG0.out.trans h)
  clear lx1; have lx1 := fun w' (h : Gr _ w') => HF.out.c 1 rfl w' (HG0.out.trans h)
  simp only [Act.put, lA, lB, lC]
  refine ck Tryz.call53 (fun w' hw => qfew2_no2 _ _ _ _ _ _ _ _ _ _ _ _ _ _ 8 gx3 _ (BX3.out.gr hw) (by omega) (by omega) (by omega)) ?_
  refine tk ?_
  refine wpPlan_nil (hT.out _ _ ?_)
  intro vw1 hg
  simp only [puts, Act.put, lA, lB, lC, lD, lE, ↓reduceIte, Nat.reduceEqDiff]
  have HG := Lib.hid (HF.out.gr (HG0.out.trans hg))
  clear hT T HF hg HG0 BX3 lx0 lx1
  go_wp2
  refine hK.out _ _ ?_; clear hK K
  show Code.wp _ _ _ _ _
  have HF := HG; clear HG
  refine wp_cond_true (by rfl) ?_
  have HB := HPb HF
  refine kS fun K hK => ?_
  refine sq 2 [(true, 0), (true, 1)] fun T hT => ?_
  refine ck Tryz.call49 (fun w' hw => worksq_any _ (Lib.hid (HT.out.gr (Gr.trans HB.out hw)))) ?_
  refine tk ?_
  refine nlS hT HF fun vw2 HG => ?_
  clear hT T HF HB
  go_wp2
  refine hK.out _ _ ?_; clear hK K
  show Code.wp _ _ _ _ _
  have HF := HG; clear HG
  refine wp_ret ?_
  try simp only [Exit.then, Exit.inBlock]
  exact bodyPost_ret (v := .bool true) (by simp [results, Tryz.results9, go_sem]) rfl ⟨rfl, HF.out.1⟩

set_option maxRecDepth 100000 in
set_option maxHeartbeats 8000000 in
theorem sumq_big4 (bbxn : Bool) (vxn : Value) (kxn : Nat) (fxn : Nat → Nat) (mxn : Nat) (ixn : Int) (vxd : Value) (kxd : Nat) (fxd : Nat → Nat) (mxd : Nat) (bbyn : Bool) (vyn : Value) (kyn : Nat) (fyn : Nat → Nat) (myn : Nat) (iyn : Int) (vyd : Value) (kyd : Nat) (fyd : Nat → Nat) (myd : Nat) (a b : Rat)  (w : World) (HWxn : Hid (Wa w vxn kxn fxn)) (HFxn : Hid (∀ i, i < kxn → fxn i < 4294967296)) (HVxn : Hid (vl fxn kxn = mxn)) (HAxn : Hid ((if bbxn then -((mxn : Nat) : Int) else ((mxn : Nat) : Int)) = ixn)) (HWxd : Hid (Wa w vxd kxd fxd)) (HFxd : Hid (∀ i, i < kxd → fxd i < 4294967296)) (HVxd : Hid (vl fxd kxd = mxd)) (HQx : Hid (mkRat ixn (mxd + 1) = a)) (HWyn : Hid (Wa w vyn kyn fyn)) (HFyn : Hid (∀ i, i < kyn → fyn i < 4294967296)) (HVyn : Hid (vl fyn kyn = myn)) (HAyn : Hid ((if bbyn then -((myn : Nat) : Int) else ((myn : Nat) : Int)) = iyn)) (HWyd : Hid (Wa w vyd kyd fyd)) (HFyd : Hid (∀ i, i < kyd → fyd i < 4294967296)) (HVyd : Hid (vl fyd kyd = myd)) (HQy : Hid (mkRat iyn (myd + 1) = b)) (hkxn : kxn ≤ 8) (hkxd : kxd ≤ 8) (hkyn : kyn ≤ 8) (hkyd : 8 < kyd) (HT : Hid (Tab w)) :
    Calls Tryz.prog 9 #[.agg #[.bool bbxn, vxn, vxd], .agg #[.bool bbyn, vyn, vyd]] w fun e w' => e = .returned (.bool true) ∧ Below w.heap.size w w' := by
  obtain ⟨ao_xn, c_xn, rfl⟩ := HWxn.out.slice
  obtain ⟨ao_xd, c_xd, rfl⟩ := HWxd.out.slice
  obtain ⟨ao_yn, c_yn, rfl⟩ := HWyn.out.slice
  obtain ⟨ao_yd, c_yd, rfl⟩ := HWyd.out.slice
  go_enter Tryz.func9, Tryz.ntmps9
  have HF := Lib.hid (hp0 w)
  refine kS fun K hK => ?_
  refine wp_region_lit ?_
  go_wp2
  refine hK.out _ _ ?_; clear hK K
  show Code.wp _ _ _ _ _
  refine fH (((HF.out).al (b := w.heap.size) (by first | rfl | simp) (by decide)).al (b := w.heap.size + 1) (by first | rfl | simp) (by decide)) fun Wx0 HG => ?_
  clear HF; have HF := HG; clear HG
  generalize w.heap.size + 1 = gx1 at *
  refine wp_seq ?_
  have lx0 := HF.out.c 0 rfl
  have lx1 := HF.out.c 1 rfl
  refine kS fun K hK => ?_
  have HG0 : Hid (Gr Wx0 Wx0) := Lib.hid (Gr.refl _)
  refine sq 5 [(true, 0), (true, 1), (false, 2), (true, 3), (true, 4)] fun T hT => ?_
  iterate 2 refine tk ?_
  refine wpPlan_slice (cs := #[.bool (bbxn), (.slice ao_xn kxn c_xn), (.slice ao_xd kxd c_xd), .bool (bbyn), (.slice ao_yn kyn c_yn), (.slice ao_yd kyd c_yd)]) (E := 88) (n := 2) rfl (by rfl) (fun w' hw => ?_) (fun gx3 vv3 hg0 yx3 bx3 => ?_)
  · go_simp
  clear yx3
  replace HG0 := Lib.hid (HG0.out.trans hg0)
  have HGS := Lib.hid hg0; clear hg0
  clear HGS
  have BX3 := Lib.hid bx3; clear bx3
  clear lx0; have lx0 := fun w' (h : Gr _ w') => HF.out.c 0 rfl w' (HG0.out.trans h)
  clear lx1; have lx1 := fun w' (h : Gr _ w') => HF.out.c 1 rfl w' (HG0.out.trans h)
  simp only [Act.put, lA, lB, lC]
  refine ck Tryz.call53 (fun w' hw => qfew2_no3 _ _ _ _ _ _ _ _ _ _ _ _ _ _ 8 gx3 _ (BX3.out.gr hw) (by omega) (by omega) (by omega) (by omega)) ?_
  refine tk ?_
  refine wpPlan_nil (hT.out _ _ ?_)
  intro vw1 hg
  simp only [puts, Act.put, lA, lB, lC, lD, lE, ↓reduceIte, Nat.reduceEqDiff]
  have HG := Lib.hid (HF.out.gr (HG0.out.trans hg))
  clear hT T HF hg HG0 BX3 lx0 lx1
  go_wp2
  refine hK.out _ _ ?_; clear hK K
  show Code.wp _ _ _ _ _
  have HF := HG; clear HG
  refine wp_cond_true (by rfl) ?_
  have HB := HPb HF
  refine kS fun K hK => ?_
  refine sq 2 [(true, 0), (true, 1)] fun T hT => ?_
  refine ck Tryz.call49 (fun w' hw => worksq_any _ (Lib.hid (HT.out.gr (Gr.trans HB.out hw)))) ?_
  refine tk ?_
  refine nlS hT HF fun vw2 HG => ?_
  clear hT T HF HB
  go_wp2
  refine hK.out _ _ ?_; clear hK K
  show Code.wp _ _ _ _ _
  have HF := HG; clear HG
  refine wp_ret ?_
  try simp only [Exit.then, Exit.inBlock]
  exact bodyPost_ret (v := .bool true) (by simp [results, Tryz.results9, go_sem]) rfl ⟨rfl, HF.out.1⟩

theorem sumq_law (bbxn : Bool) (vxn : Value) (kxn : Nat) (fxn : Nat → Nat) (vxd : Value) (kxd : Nat) (fxd : Nat → Nat) (bbyn : Bool) (vyn : Value) (kyn : Nat) (fyn : Nat → Nat) (vyd : Value) (kyd : Nat) (fyd : Nat → Nat)  (w : World) (HWxn : Hid (Wa w vxn kxn fxn)) (HFxn : Hid (∀ i, i < kxn → fxn i < 4294967296)) (HWxd : Hid (Wa w vxd kxd fxd)) (HFxd : Hid (∀ i, i < kxd → fxd i < 4294967296)) (HWyn : Hid (Wa w vyn kyn fyn)) (HFyn : Hid (∀ i, i < kyn → fyn i < 4294967296)) (HWyd : Hid (Wa w vyd kyd fyd)) (HFyd : Hid (∀ i, i < kyd → fyd i < 4294967296))  (HT : Hid (Tab w)) :
    Calls Tryz.prog 9 #[.agg #[.bool bbxn, vxn, vxd], .agg #[.bool bbyn, vyn, vyd]] w fun e w' => e = .returned (.bool true) ∧ Below w.heap.size w w' := by
  obtain ⟨ixn, HAxn⟩ : ∃ z, Hid ((if bbxn then -((vl fxn kxn : Nat) : Int) else ((vl fxn kxn : Nat) : Int)) = z) := ⟨_, Lib.hid rfl⟩
  obtain ⟨a, HQx⟩ : ∃ z, Hid (mkRat ixn (vl fxd kxd + 1) = z) := ⟨_, Lib.hid rfl⟩
  obtain ⟨iyn, HAyn⟩ : ∃ z, Hid ((if bbyn then -((vl fyn kyn : Nat) : Int) else ((vl fyn kyn : Nat) : Int)) = z) := ⟨_, Lib.hid rfl⟩
  obtain ⟨b, HQy⟩ : ∃ z, Hid (mkRat iyn (vl fyd kyd + 1) = z) := ⟨_, Lib.hid rfl⟩
  by_cases hkxn : kxn ≤ 8
  · skip
    by_cases hkxd : kxd ≤ 8
    · skip
      by_cases hkyn : kyn ≤ 8
      · skip
        by_cases hkyd : kyd ≤ 8
        · skip
          by_cases hb : b = 0
          · subst hb
            by_cases ha : a = 0
            · subst ha
              exact sumq_zz bbxn vxn kxn fxn _ ixn vxd kxd fxd _ bbyn vyn kyn fyn _ iyn vyd kyd fyd _ w HWxn HFxn (Lib.hid rfl) HAxn HWxd HFxd (Lib.hid rfl) HQx HWyn HFyn (Lib.hid rfl) HAyn HWyd HFyd (Lib.hid rfl) HQy hkxn hkxd hkyn hkyd HT
            · exact sumq_z bbxn vxn kxn fxn _ ixn vxd kxd fxd _ bbyn vyn kyn fyn _ iyn vyd kyd fyd _ a _ _ w HWxn HFxn (Lib.hid rfl) HAxn HWxd HFxd (Lib.hid rfl) HQx HWyn HFyn (Lib.hid rfl) HAyn HWyd HFyd (Lib.hid rfl) HQy hkxn hkxd hkyn hkyd ha (Lib.hid rfl) (Lib.hid rfl) (sgQ_dne ha) HT
          · by_cases hab : a = b
            · subst hab
              exact sumq_eq bbxn vxn kxn fxn _ ixn vxd kxd fxd _ bbyn vyn kyn fyn _ iyn vyd kyd fyd _ a _ w HWxn HFxn (Lib.hid rfl) HAxn HWxd HFxd (Lib.hid rfl) HQx HWyn HFyn (Lib.hid rfl) HAyn HWyd HFyd (Lib.hid rfl) HQy hkxn hkxd hkyn hkyd hb (Lib.hid rfl) (sgQ_ne hb) HT
            · exact sumq_ne bbxn vxn kxn fxn _ ixn vxd kxd fxd _ bbyn vyn kyn fyn _ iyn vyd kyd fyd _ a b _ _ _ w HWxn HFxn (Lib.hid rfl) HAxn HWxd HFxd (Lib.hid rfl) HQx HWyn HFyn (Lib.hid rfl) HAyn HWyd HFyd (Lib.hid rfl) HQy hkxn hkxd hkyn hkyd hb hab (Lib.hid rfl) (Lib.hid rfl) (sgQ_ne hb) (Lib.hid rfl) (sgQ_dne hab) HT
        · exact sumq_big4 bbxn vxn kxn fxn _ ixn vxd kxd fxd _ bbyn vyn kyn fyn _ iyn vyd kyd fyd _ a b  w HWxn HFxn (Lib.hid rfl) HAxn HWxd HFxd (Lib.hid rfl) HQx HWyn HFyn (Lib.hid rfl) HAyn HWyd HFyd (Lib.hid rfl) HQy  hkxn hkxd hkyn (by omega) HT
      · exact sumq_big3 bbxn vxn kxn fxn _ ixn vxd kxd fxd _ bbyn vyn kyn fyn _ iyn vyd kyd fyd _ a b  w HWxn HFxn (Lib.hid rfl) HAxn HWxd HFxd (Lib.hid rfl) HQx HWyn HFyn (Lib.hid rfl) HAyn HWyd HFyd (Lib.hid rfl) HQy  hkxn hkxd (by omega) HT
    · exact sumq_big2 bbxn vxn kxn fxn _ ixn vxd kxd fxd _ bbyn vyn kyn fyn _ iyn vyd kyd fyd _ a b  w HWxn HFxn (Lib.hid rfl) HAxn HWxd HFxd (Lib.hid rfl) HQx HWyn HFyn (Lib.hid rfl) HAyn HWyd HFyd (Lib.hid rfl) HQy  hkxn (by omega) HT
  · exact sumq_big1 bbxn vxn kxn fxn _ ixn vxd kxd fxd _ bbyn vyn kyn fyn _ iyn vyd kyd fyd _ a b  w HWxn HFxn (Lib.hid rfl) HAxn HWxd HFxd (Lib.hid rfl) HQx HWyn HFyn (Lib.hid rfl) HAyn HWyd HFyd (Lib.hid rfl) HQy   (by omega) HT

end Go.Proofs.YtpcfncbcpknobaaGreatDoor
