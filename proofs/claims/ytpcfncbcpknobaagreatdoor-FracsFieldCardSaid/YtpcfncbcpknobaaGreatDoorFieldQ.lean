
/- FracsField: the law's walk. -/
import Derived.Test.YtpcfncbcpknobaaGreatDoorWorksQ
import Derived.Test.YtpcfncbcpknobaaGreatDoorQFew3
import Derived.Test.YtpcfncbcpknobaaGreatDoorFieldP
namespace Go.Proofs.YtpcfncbcpknobaaGreatDoor
open Go.RowKit
set_option linter.unusedSimpArgs false
set_option linter.unusedVariables false
attribute [local go_sem ↓] Go.wp_at_zero Go.wp_at_succ
attribute [local go_sem ↓] eq_nat eq_nat_zero eq_int eq_frac eq_frac_zero
attribute [local go_sem] Instr.field asAgg
set_option maxRecDepth 100000 in
set_option maxHeartbeats 16000000 in
theorem fieldq_ne (bbxn : Bool) (vxn : Value) (kxn : Nat) (fxn : Nat → Nat) (mxn : Nat) (ixn : Int) (vxd : Value) (kxd : Nat) (fxd : Nat → Nat) (mxd : Nat) (bbyn : Bool) (vyn : Value) (kyn : Nat) (fyn : Nat → Nat) (myn : Nat) (iyn : Int) (vyd : Value) (kyd : Nat) (fyd : Nat → Nat) (myd : Nat) (bbzn : Bool) (vzn : Value) (kzn : Nat) (fzn : Nat → Nat) (mzn : Nat) (izn : Int) (vzd : Value) (kzd : Nat) (fzd : Nat → Nat) (mzd : Nat) (a b c : Rat) (sc c0 d0 p : Int) (sb : Int) (w : World) (HWxn : Hid (Wa w vxn kxn fxn)) (HFxn : Hid (∀ i, i < kxn → fxn i < 4294967296)) (HVxn : Hid (vl fxn kxn = mxn)) (HAxn : Hid ((if bbxn then -((mxn : Nat) : Int) else ((mxn : Nat) : Int)) = ixn)) (HWxd : Hid (Wa w vxd kxd fxd)) (HFxd : Hid (∀ i, i < kxd → fxd i < 4294967296)) (HVxd : Hid (vl fxd kxd = mxd)) (HQx : Hid (mkRat ixn (mxd + 1) = a)) (HWyn : Hid (Wa w vyn kyn fyn)) (HFyn : Hid (∀ i, i < kyn → fyn i < 4294967296)) (HVyn : Hid (vl fyn kyn = myn)) (HAyn : Hid ((if bbyn then -((myn : Nat) : Int) else ((myn : Nat) : Int)) = iyn)) (HWyd : Hid (Wa w vyd kyd fyd)) (HFyd : Hid (∀ i, i < kyd → fyd i < 4294967296)) (HVyd : Hid (vl fyd kyd = myd)) (HQy : Hid (mkRat iyn (myd + 1) = b)) (HWzn : Hid (Wa w vzn kzn fzn)) (HFzn : Hid (∀ i, i < kzn → fzn i < 4294967296)) (HVzn : Hid (vl fzn kzn = mzn)) (HAzn : Hid ((if bbzn then -((mzn : Nat) : Int) else ((mzn : Nat) : Int)) = izn)) (HWzd : Hid (Wa w vzd kzd fzd)) (HFzd : Hid (∀ i, i < kzd → fzd i < 4294967296)) (HVzd : Hid (vl fzd kzd = mzd)) (HQz : Hid (mkRat izn (mzd + 1) = c)) (hkxn : kxn ≤ 5) (hkxd : kxd ≤ 5) (hkyn : kyn ≤ 5) (hkyd : kyd ≤ 5) (hkzn : kzn ≤ 5) (hkzd : kzd ≤ 5) (hb0 : b ≠ 0) (HSC : Hid (sgQ c = sc)) (HC0 : Hid (sgQ (a - b) = c0)) (HD0 : Hid (sgQ (b - a) = d0)) (HDC : Hid (d0 = -c0)) (HP : Hid (c0 * sc = p)) (hp1 : -1 ≤ p) (hp2 : p ≤ 1) (hc1 : -1 ≤ c0) (hc2 : c0 ≤ 1) (HSB : Hid (sgQ b = sb)) (hsb : ¬ sb = 0) (HT : Hid (Tab w)) :
    Calls Tryz.prog 10 #[.agg #[.bool bbxn, vxn, vxd], .agg #[.bool bbyn, vyn, vyd], .agg #[.bool bbzn, vzn, vzd]] w fun e w' => e = .returned (.bool true) ∧ Below w.heap.size w w' := by
  obtain ⟨ao_xn, c_xn, rfl⟩ := HWxn.out.slice
  obtain ⟨ao_xd, c_xd, rfl⟩ := HWxd.out.slice
  have hm_xn : wl mxn ≤ 5 := by rw [← HVxn.out]; have := wl_le.2 (vl_lt HFxn.out); omega
  have hm_xd : wl mxd ≤ 5 := by rw [← HVxd.out]; have := wl_le.2 (vl_lt HFxd.out); omega
  have hi_x : wl (Int.natAbs ixn) ≤ 5 := by rw [zsize HAxn.out]; exact hm_xn
  have hs_x : sz a ≤ 6 := by rw [← HQx.out]; exact sz_great hi_x hm_xd
  have hr_x : rz a ≤ 18 := by rw [← HQx.out]; exact rz_great hi_x hm_xd (by decide)
  obtain ⟨ao_yn, c_yn, rfl⟩ := HWyn.out.slice
  obtain ⟨ao_yd, c_yd, rfl⟩ := HWyd.out.slice
  have hm_yn : wl myn ≤ 5 := by rw [← HVyn.out]; have := wl_le.2 (vl_lt HFyn.out); omega
  have hm_yd : wl myd ≤ 5 := by rw [← HVyd.out]; have := wl_le.2 (vl_lt HFyd.out); omega
  have hi_y : wl (Int.natAbs iyn) ≤ 5 := by rw [zsize HAyn.out]; exact hm_yn
  have hs_y : sz b ≤ 6 := by rw [← HQy.out]; exact sz_great hi_y hm_yd
  have hr_y : rz b ≤ 18 := by rw [← HQy.out]; exact rz_great hi_y hm_yd (by decide)
  obtain ⟨ao_zn, c_zn, rfl⟩ := HWzn.out.slice
  obtain ⟨ao_zd, c_zd, rfl⟩ := HWzd.out.slice
  have hm_zn : wl mzn ≤ 5 := by rw [← HVzn.out]; have := wl_le.2 (vl_lt HFzn.out); omega
  have hm_zd : wl mzd ≤ 5 := by rw [← HVzd.out]; have := wl_le.2 (vl_lt HFzd.out); omega
  have hi_z : wl (Int.natAbs izn) ≤ 5 := by rw [zsize HAzn.out]; exact hm_zn
  have hs_z : sz c ≤ 6 := by rw [← HQz.out]; exact sz_great hi_z hm_zd
  have hr_z : rz c ≤ 18 := by rw [← HQz.out]; exact rz_great hi_z hm_zd (by decide)
  go_enter Tryz.func10, Tryz.ntmps10
  have HF := Lib.hid (hp0 w)
  refine kS fun K hK => ?_
  refine wp_region_lit ?_
  go_wp2
  refine hK.out _ _ ?_; clear hK K
  show Code.wp _ _ _ _ _
  refine fH ((((HF.out).al (b := w.heap.size) (by first | rfl | simp) (by decide)).al (b := w.heap.size + 1) (by first | rfl | simp) (by decide)).al (b := w.heap.size + 1 + 1) (by first | rfl | simp) (by decide)) fun Wx0 HG => ?_
  clear HF; have HF := HG; clear HG
  generalize w.heap.size + 1 + 1 = gx2 at *
  generalize w.heap.size + 1 = gx1 at *
  refine wp_seq ?_
  have lx0 := HF.out.c 0 rfl
  have lx1 := HF.out.c 1 rfl
  have lx2 := HF.out.c 2 rfl
  refine kS fun K hK => ?_
  have HG0 : Hid (Gr Wx0 Wx0) := Lib.hid (Gr.refl _)
  refine sq 6 [(true, 0), (true, 1), (true, 2), (false, 3), (true, 4), (true, 5)] fun T hT => ?_
  iterate 3 refine tk ?_
  refine wpPlan_slice (cs := #[.bool (bbxn), (.slice ao_xn kxn c_xn), (.slice ao_xd kxd c_xd), .bool (bbyn), (.slice ao_yn kyn c_yn), (.slice ao_yd kyd c_yd), .bool (bbzn), (.slice ao_zn kzn c_zn), (.slice ao_zd kzd c_zd)]) (E := 88) (n := 3) rfl (by rfl) (fun w' hw => ?_) (fun gx4 vv4 hg0 yx4 bx4 => ?_)
  · go_simp
  clear yx4
  replace HG0 := Lib.hid (HG0.out.trans hg0)
  have HGS := Lib.hid hg0; clear hg0
  clear HGS
  have BX4 := Lib.hid bx4; clear bx4
  clear lx0; have lx0 := fun w' (h : Gr _ w') => HF.out.c 0 rfl w' (HG0.out.trans h)
  clear lx1; have lx1 := fun w' (h : Gr _ w') => HF.out.c 1 rfl w' (HG0.out.trans h)
  clear lx2; have lx2 := fun w' (h : Gr _ w') => HF.out.c 2 rfl w' (HG0.out.trans h)
  simp only [Act.put, lA, lB, lC]
  refine ck Tryz.call53 (fun w' hw => qfew3_ok _ _ _ _ _ _ _ _ _ _ _ _ _ _ _ _ _ _ _ _ _ 5 gx4 _ (BX4.out.gr hw) (by omega) (by omega) (by omega) (by omega) (by omega) (by omega)) ?_
  refine tk ?_
  refine wpPlan_nil (hT.out _ _ ?_)
  intro vw1 hg
  simp only [puts, Act.put, lA, lB, lC, lD, lE, ↓reduceIte, Nat.reduceEqDiff]
  have HG := Lib.hid (HF.out.gr (HG0.out.trans hg))
  clear hT T HF hg HG0 BX4 lx0 lx1 lx2
  go_wp2
  refine hK.out _ _ ?_; clear hK K
  show Code.wp _ _ _ _ _
  have HF := HG; clear HG
  refine wp_cond_false (by rfl) ?_
  refine wp_skip ?_
  show Code.wp _ _ _ _ _
  have HB := HPb HF
  have lx0 := HF.out.c 0 rfl
  have lx1 := HF.out.c 1 rfl
  have lx2 := HF.out.c 2 rfl
  refine kS fun K hK => ?_
  refine wp_region_plan 9 [6, 7, 8] [] (fun i => if i = 6 then 7 else if i = 7 then 8 else 9) (fun i => if i = 6 then .cells #[.int .u64 0, .string ⟨#[]⟩, .bool false, .int .u64 0, .string ⟨#[]⟩] 51 else if i = 7 then .cells #[.int .u64 0, .string ⟨#[]⟩, .bool false, .int .u64 0, .string ⟨#[]⟩] 51 else .cells #[.int .u64 0, .string ⟨#[]⟩, .bool false, .int .u64 0, .string ⟨#[]⟩] 51) [(true, 0), (true, 2), (true, 4), (true, 1), (true, 3), (true, 5)] (by kernel_rfl) (by kernel_rfl) (by intro i hi; simp only [List.mem_cons, List.not_mem_nil, or_false] at hi; rcases hi with rfl | rfl | rfl <;> exact ⟨_, rfl, rfl, rfl, by simp, fun ρ w => by kernel_rfl⟩) (fun i hi => by cases hi) (fun _ _ _ _ _ h => h) (fun T hT => ?_)
  iterate 3 refine tk ?_
  refine ck Tryz.call54 (fun w' hw => gof_any bbxn kxn fxn mxn ixn kxd fxd mxd a ao_xn c_xn ao_xd c_xd w' (Lib.hid (HWxn.out.gr (Gr.trans HB.out hw))) HFxn HVxn HAxn (Lib.hid (HWxd.out.gr (Gr.trans HB.out hw))) HFxd HVxd HQx om om om om) ?_
  refine ck Tryz.call54 (fun w' hw => gof_any bbyn kyn fyn myn iyn kyd fyd myd b ao_yn c_yn ao_yd c_yd w' (Lib.hid (HWyn.out.gr (Gr.trans HB.out hw))) HFyn HVyn HAyn (Lib.hid (HWyd.out.gr (Gr.trans HB.out hw))) HFyd HVyd HQy om om om om) ?_
  refine ck Tryz.call54 (fun w' hw => gof_any bbzn kzn fzn mzn izn kzd fzd mzd c ao_zn c_zn ao_zd c_zd w' (Lib.hid (HWzn.out.gr (Gr.trans HB.out hw))) HFzn HVzn HAzn (Lib.hid (HWzd.out.gr (Gr.trans HB.out hw))) HFzd HVzd HQz om om om om) ?_
  refine wpPlan_nil (hT.out _ _ ?_)
  intro G vw2 hg hf
  simp only [puts, Act.put, lA, lB, lC, lD, lE, ↓reduceIte, Nat.reduceEqDiff]
  have HG := Lib.hid (HF.out.fr hg hf (zs := [(#[.int .u64 0, .string ⟨#[]⟩, .bool false, .int .u64 0, .string ⟨#[]⟩], 51), (#[.int .u64 0, .string ⟨#[]⟩, .bool false, .int .u64 0, .string ⟨#[]⟩], 51), (#[.int .u64 0, .string ⟨#[]⟩, .bool false, .int .u64 0, .string ⟨#[]⟩], 51)]) rfl (by decide) (by decide))
  simp only [List.zip_cons_cons, List.zip_nil_right, List.map_cons, List.map_nil, lF, lG] at HG
  clear hT T HF hg hf lx0 lx1 lx2 HB
  generalize G 6 = gx5 at *
  generalize G 7 = gx6 at *
  generalize G 8 = gx7 at *
  have lx5 := HG.out.c 3 rfl; have fx5 := HG.out.f 3 rfl
  have lx6 := HG.out.c 4 rfl; have fx6 := HG.out.f 4 rfl
  have lx7 := HG.out.c 5 rfl; have fx7 := HG.out.f 5 rfl
  have r0 := Gr.refl vw2
  obtain ⟨d5_6, d6_5⟩ := HG.out.ne 3 4 rfl rfl (by decide)
  obtain ⟨d5_7, d7_5⟩ := HG.out.ne 3 5 rfl rfl (by decide)
  obtain ⟨d6_7, d7_6⟩ := HG.out.ne 4 5 rfl rfl (by decide)
  go_wp2
  refine hK.out _ _ ?_; clear hK K
  show Code.wp _ _ _ _ _
  clear r0 lx5 fx5 lx6 fx6 lx7 fx7 d5_6 d6_5 d5_7 d7_5 d6_7 d7_6
  refine fH (((((((((((((HG.out).put2 3 0 rfl).put2 3 2 rfl).put 3 4 _ rfl).put2 4 0 rfl).put2 4 2 rfl).put 4 4 _ rfl).put2 5 0 rfl).put2 5 2 rfl).put 5 4 _ rfl).er 2).er 1).er 0) fun Wx3 HF => ?_
  clear HG
  refine wp_seq ?_
  obtain ⟨u1, HZ1⟩ : ∃ z, Hid ((a) + (b) = z) := ⟨_, Lib.hid rfl⟩
  have su1 : sz (u1) ≤ 13 := by rw [← HZ1.out]; have := sz_add (a) (b); omega
  have HZ2 : Hid ((b) + (a) = u1) := Lib.hid (by first | exact ok | exact Rat.sub_self | exact Rat.add_comm _ _ | exact Rat.mul_comm _ _ | exact Rat.add_assoc _ _ _ | exact Rat.mul_assoc _ _ _ | exact Rat.mul_add _ _ _ | exact Rat.add_sub_cancel | exact Rat.mul_div_cancel (by assumption) | (simp only [← HZ1.out] <;> first | exact ok | exact Rat.sub_self | exact Rat.add_comm _ _ | exact Rat.mul_comm _ _ | exact Rat.add_assoc _ _ _ | exact Rat.mul_assoc _ _ _ | exact Rat.mul_add _ _ _ | exact Rat.add_sub_cancel | exact Rat.mul_div_cancel (by assumption)))
  have su2 : sz (u1) ≤ 13 := by have e := HZ2.out; first | omega | (rw [← e]; have := sz_add (b) (a); omega)
  obtain ⟨u3, HZ3⟩ : ∃ z, Hid ((a) * (b) = z) := ⟨_, Lib.hid rfl⟩
  have su3 : sz (u3) ≤ 12 := by rw [← HZ3.out]; have := sz_mul (a) (b); omega
  have HZ4 : Hid ((b) * (a) = u3) := Lib.hid (by first | exact ok | exact Rat.sub_self | exact Rat.add_comm _ _ | exact Rat.mul_comm _ _ | exact Rat.add_assoc _ _ _ | exact Rat.mul_assoc _ _ _ | exact Rat.mul_add _ _ _ | exact Rat.add_sub_cancel | exact Rat.mul_div_cancel (by assumption) | (simp only [← HZ3.out, ← HZ1.out] <;> first | exact ok | exact Rat.sub_self | exact Rat.add_comm _ _ | exact Rat.mul_comm _ _ | exact Rat.add_assoc _ _ _ | exact Rat.mul_assoc _ _ _ | exact Rat.mul_add _ _ _ | exact Rat.add_sub_cancel | exact Rat.mul_div_cancel (by assumption)))
  have su4 : sz (u3) ≤ 12 := by have e := HZ4.out; first | omega | (rw [← e]; have := sz_mul (b) (a); omega)
  have HZ5 : Hid ((a) + (b) = u1) := Lib.hid (by first | exact ok | exact Rat.sub_self | exact Rat.add_comm _ _ | exact Rat.mul_comm _ _ | exact Rat.add_assoc _ _ _ | exact Rat.mul_assoc _ _ _ | exact Rat.mul_add _ _ _ | exact Rat.add_sub_cancel | exact Rat.mul_div_cancel (by assumption) | (simp only [← HZ3.out, ← HZ1.out] <;> first | exact ok | exact Rat.sub_self | exact Rat.add_comm _ _ | exact Rat.mul_comm _ _ | exact Rat.add_assoc _ _ _ | exact Rat.mul_assoc _ _ _ | exact Rat.mul_add _ _ _ | exact Rat.add_sub_cancel | exact Rat.mul_div_cancel (by assumption)))
  have su5 : sz (u1) ≤ 13 := by have e := HZ5.out; first | omega | (rw [← e]; have := sz_add (a) (b); omega)
  obtain ⟨u6, HZ6⟩ : ∃ z, Hid ((u1) + (c) = z) := ⟨_, Lib.hid rfl⟩
  have su6 : sz (u6) ≤ 20 := by rw [← HZ6.out]; have := sz_add (u1) (c); omega
  obtain ⟨u7, HZ7⟩ : ∃ z, Hid ((b) + (c) = z) := ⟨_, Lib.hid rfl⟩
  have su7 : sz (u7) ≤ 13 := by rw [← HZ7.out]; have := sz_add (b) (c); omega
  have HZ8 : Hid ((a) + (u7) = u6) := Lib.hid (by first | exact ok | exact Rat.sub_self | exact Rat.add_comm _ _ | exact Rat.mul_comm _ _ | exact Rat.add_assoc _ _ _ | exact Rat.mul_assoc _ _ _ | exact Rat.mul_add _ _ _ | exact Rat.add_sub_cancel | exact Rat.mul_div_cancel (by assumption) | (simp only [← HZ7.out, ← HZ6.out, ← HZ3.out, ← HZ1.out] <;> first | exact ok | exact Rat.sub_self | exact Rat.add_comm _ _ | exact Rat.mul_comm _ _ | exact Rat.add_assoc _ _ _ | exact Rat.mul_assoc _ _ _ | exact Rat.mul_add _ _ _ | exact Rat.add_sub_cancel | exact Rat.mul_div_cancel (by assumption)))
  have su8 : sz (u6) ≤ 20 := by have e := HZ8.out; first | omega | (rw [← e]; have := sz_add (a) (u7); omega)
  have HZ9 : Hid ((a) * (b) = u3) := Lib.hid (by first | exact ok | exact Rat.sub_self | exact Rat.add_comm _ _ | exact Rat.mul_comm _ _ | exact Rat.add_assoc _ _ _ | exact Rat.mul_assoc _ _ _ | exact Rat.mul_add _ _ _ | exact Rat.add_sub_cancel | exact Rat.mul_div_cancel (by assumption) | (simp only [← HZ7.out, ← HZ6.out, ← HZ3.out, ← HZ1.out] <;> first | exact ok | exact Rat.sub_self | exact Rat.add_comm _ _ | exact Rat.mul_comm _ _ | exact Rat.add_assoc _ _ _ | exact Rat.mul_assoc _ _ _ | exact Rat.mul_add _ _ _ | exact Rat.add_sub_cancel | exact Rat.mul_div_cancel (by assumption)))
  have su9 : sz (u3) ≤ 12 := by have e := HZ9.out; first | omega | (rw [← e]; have := sz_mul (a) (b); omega)
  obtain ⟨u10, HZ10⟩ : ∃ z, Hid ((u3) * (c) = z) := ⟨_, Lib.hid rfl⟩
  have su10 : sz (u10) ≤ 18 := by rw [← HZ10.out]; have := sz_mul (u3) (c); omega
  obtain ⟨u11, HZ11⟩ : ∃ z, Hid ((b) * (c) = z) := ⟨_, Lib.hid rfl⟩
  have su11 : sz (u11) ≤ 12 := by rw [← HZ11.out]; have := sz_mul (b) (c); omega
  have HZ12 : Hid ((a) * (u11) = u10) := Lib.hid (by first | exact ok | exact Rat.sub_self | exact Rat.add_comm _ _ | exact Rat.mul_comm _ _ | exact Rat.add_assoc _ _ _ | exact Rat.mul_assoc _ _ _ | exact Rat.mul_add _ _ _ | exact Rat.add_sub_cancel | exact Rat.mul_div_cancel (by assumption) | (simp only [← HZ11.out, ← HZ10.out, ← HZ7.out, ← HZ6.out, ← HZ3.out, ← HZ1.out] <;> first | exact ok | exact Rat.sub_self | exact Rat.add_comm _ _ | exact Rat.mul_comm _ _ | exact Rat.add_assoc _ _ _ | exact Rat.mul_assoc _ _ _ | exact Rat.mul_add _ _ _ | exact Rat.add_sub_cancel | exact Rat.mul_div_cancel (by assumption)))
  have su12 : sz (u10) ≤ 18 := by have e := HZ12.out; first | omega | (rw [← e]; have := sz_mul (a) (u11); omega)
  have HZ13 : Hid ((b) + (c) = u7) := Lib.hid (by first | exact ok | exact Rat.sub_self | exact Rat.add_comm _ _ | exact Rat.mul_comm _ _ | exact Rat.add_assoc _ _ _ | exact Rat.mul_assoc _ _ _ | exact Rat.mul_add _ _ _ | exact Rat.add_sub_cancel | exact Rat.mul_div_cancel (by assumption) | (simp only [← HZ11.out, ← HZ10.out, ← HZ7.out, ← HZ6.out, ← HZ3.out, ← HZ1.out] <;> first | exact ok | exact Rat.sub_self | exact Rat.add_comm _ _ | exact Rat.mul_comm _ _ | exact Rat.add_assoc _ _ _ | exact Rat.mul_assoc _ _ _ | exact Rat.mul_add _ _ _ | exact Rat.add_sub_cancel | exact Rat.mul_div_cancel (by assumption)))
  have su13 : sz (u7) ≤ 13 := by have e := HZ13.out; first | omega | (rw [← e]; have := sz_add (b) (c); omega)
  obtain ⟨u14, HZ14⟩ : ∃ z, Hid ((a) * (u7) = z) := ⟨_, Lib.hid rfl⟩
  have su14 : sz (u14) ≤ 19 := by rw [← HZ14.out]; have := sz_mul (a) (u7); omega
  have HZ15 : Hid ((a) * (b) = u3) := Lib.hid (by first | exact ok | exact Rat.sub_self | exact Rat.add_comm _ _ | exact Rat.mul_comm _ _ | exact Rat.add_assoc _ _ _ | exact Rat.mul_assoc _ _ _ | exact Rat.mul_add _ _ _ | exact Rat.add_sub_cancel | exact Rat.mul_div_cancel (by assumption) | (simp only [← HZ14.out, ← HZ11.out, ← HZ10.out, ← HZ7.out, ← HZ6.out, ← HZ3.out, ← HZ1.out] <;> first | exact ok | exact Rat.sub_self | exact Rat.add_comm _ _ | exact Rat.mul_comm _ _ | exact Rat.add_assoc _ _ _ | exact Rat.mul_assoc _ _ _ | exact Rat.mul_add _ _ _ | exact Rat.add_sub_cancel | exact Rat.mul_div_cancel (by assumption)))
  have su15 : sz (u3) ≤ 12 := by have e := HZ15.out; first | omega | (rw [← e]; have := sz_mul (a) (b); omega)
  obtain ⟨u16, HZ16⟩ : ∃ z, Hid ((a) * (c) = z) := ⟨_, Lib.hid rfl⟩
  have su16 : sz (u16) ≤ 12 := by rw [← HZ16.out]; have := sz_mul (a) (c); omega
  have HZ17 : Hid ((u3) + (u16) = u14) := Lib.hid (by first | exact ok | exact Rat.sub_self | exact Rat.add_comm _ _ | exact Rat.mul_comm _ _ | exact Rat.add_assoc _ _ _ | exact Rat.mul_assoc _ _ _ | exact Rat.mul_add _ _ _ | exact Rat.add_sub_cancel | exact Rat.mul_div_cancel (by assumption) | (simp only [← HZ16.out, ← HZ14.out, ← HZ11.out, ← HZ10.out, ← HZ7.out, ← HZ6.out, ← HZ3.out, ← HZ1.out] <;> first | exact ok | exact Rat.sub_self | exact Rat.add_comm _ _ | exact Rat.mul_comm _ _ | exact Rat.add_assoc _ _ _ | exact Rat.mul_assoc _ _ _ | exact Rat.mul_add _ _ _ | exact Rat.add_sub_cancel | exact Rat.mul_div_cancel (by assumption)))
  have su17 : sz (u14) ≤ 25 := by have e := HZ17.out; first | omega | (rw [← e]; have := sz_add (u3) (u16); omega)
  have HZ18 : Hid ((a) + (b) = u1) := Lib.hid (by first | exact ok | exact Rat.sub_self | exact Rat.add_comm _ _ | exact Rat.mul_comm _ _ | exact Rat.add_assoc _ _ _ | exact Rat.mul_assoc _ _ _ | exact Rat.mul_add _ _ _ | exact Rat.add_sub_cancel | exact Rat.mul_div_cancel (by assumption) | (simp only [← HZ16.out, ← HZ14.out, ← HZ11.out, ← HZ10.out, ← HZ7.out, ← HZ6.out, ← HZ3.out, ← HZ1.out] <;> first | exact ok | exact Rat.sub_self | exact Rat.add_comm _ _ | exact Rat.mul_comm _ _ | exact Rat.add_assoc _ _ _ | exact Rat.mul_assoc _ _ _ | exact Rat.mul_add _ _ _ | exact Rat.add_sub_cancel | exact Rat.mul_div_cancel (by assumption)))
  have su18 : sz (u1) ≤ 13 := by have e := HZ18.out; first | omega | (rw [← e]; have := sz_add (a) (b); omega)
  have HZ19 : Hid ((u1) - (b) = a) := Lib.hid (by first | exact ok | exact Rat.sub_self | exact Rat.add_comm _ _ | exact Rat.mul_comm _ _ | exact Rat.add_assoc _ _ _ | exact Rat.mul_assoc _ _ _ | exact Rat.mul_add _ _ _ | exact Rat.add_sub_cancel | exact Rat.mul_div_cancel (by assumption) | (simp only [← HZ16.out, ← HZ14.out, ← HZ11.out, ← HZ10.out, ← HZ7.out, ← HZ6.out, ← HZ3.out, ← HZ1.out] <;> first | exact ok | exact Rat.sub_self | exact Rat.add_comm _ _ | exact Rat.mul_comm _ _ | exact Rat.add_assoc _ _ _ | exact Rat.mul_assoc _ _ _ | exact Rat.mul_add _ _ _ | exact Rat.add_sub_cancel | exact Rat.mul_div_cancel (by assumption)))
  have su19 : sz (a) ≤ 20 := by have e := HZ19.out; first | omega | (rw [← e]; have := sz_sub (u1) (b); omega)
  have lx5 := HF.out.c 0 rfl
  have lx6 := HF.out.c 1 rfl
  have lx7 := HF.out.c 2 rfl
  refine kS fun K hK => ?_
  refine pd 65 [(true, 0), (true, 1), (true, 3), (true, 4), (true, 2), (true, 5), (true, 6), (true, 7), (true, 8), (true, 9), (true, 11), (true, 12), (true, 10), (true, 13), (true, 14), (true, 15), (true, 16), (true, 17), (true, 18), (true, 20), (true, 22), (true, 23), (true, 24), (true, 19), (true, 21), (true, 25), (true, 26), (true, 27), (true, 28), (true, 29), (true, 30), (true, 31), (true, 33), (true, 35), (true, 36), (true, 37), (true, 32), (true, 34), (true, 38), (true, 39), (true, 40), (true, 41), (true, 42), (true, 43), (true, 44), (true, 45), (true, 48), (true, 49), (true, 51), (true, 52), (true, 46), (true, 47), (true, 50), (true, 53), (true, 54), (true, 55), (true, 56), (true, 57), (true, 58), (true, 59), (true, 61), (true, 63), (true, 60), (true, 62), (true, 64)] fun T hT => ?_
  iterate 4 refine tk ?_
  refine ck Tryz.call65 (fun w' hw => fadd_any (a) (b) (u1) _ HZ1.out om om) ?_
  refine ck Tryz.call65 (fun w' hw => fadd_any (b) (a) (u1) _ HZ2.out om om) ?_
  iterate 6 refine tk ?_
  refine ck Tryz.call79 (fun w' hw => fmul_any (a) (b) (u3) _ HZ3.out om om) ?_
  refine ck Tryz.call79 (fun w' hw => fmul_any (b) (a) (u3) _ HZ4.out om om) ?_
  iterate 9 refine tk ?_
  refine ck Tryz.call65 (fun w' hw => fadd_any (a) (b) (u1) _ HZ5.out om om) ?_
  refine ck Tryz.call65 (fun w' hw => fadd_any (u1) (c) (u6) _ HZ6.out om om) ?_
  refine ck Tryz.call65 (fun w' hw => fadd_any (b) (c) (u7) _ HZ7.out om om) ?_
  refine ck Tryz.call65 (fun w' hw => fadd_any (a) (u7) (u6) _ HZ8.out om om) ?_
  iterate 9 refine tk ?_
  refine ck Tryz.call79 (fun w' hw => fmul_any (a) (b) (u3) _ HZ9.out om om) ?_
  refine ck Tryz.call79 (fun w' hw => fmul_any (u3) (c) (u10) _ HZ10.out om om) ?_
  refine ck Tryz.call79 (fun w' hw => fmul_any (b) (c) (u11) _ HZ11.out om om) ?_
  refine ck Tryz.call79 (fun w' hw => fmul_any (a) (u11) (u10) _ HZ12.out om om) ?_
  iterate 10 refine tk ?_
  refine ck Tryz.call65 (fun w' hw => fadd_any (b) (c) (u7) _ HZ13.out om om) ?_
  refine ck Tryz.call79 (fun w' hw => fmul_any (a) (u7) (u14) _ HZ14.out om om) ?_
  refine ck Tryz.call79 (fun w' hw => fmul_any (a) (b) (u3) _ HZ15.out om om) ?_
  refine ck Tryz.call79 (fun w' hw => fmul_any (a) (c) (u16) _ HZ16.out om om) ?_
  refine ck Tryz.call65 (fun w' hw => fadd_any (u3) (u16) (u14) _ HZ17.out om om) ?_
  iterate 7 refine tk ?_
  refine ck Tryz.call65 (fun w' hw => fadd_any (a) (b) (u1) _ HZ18.out om om) ?_
  refine ck Tryz.call67 (fun w' hw => fsub_any (u1) (b) (a) _ HZ19.out om om) ?_
  refine tk ?_
  refine wpPlan_nil (hT.out _ _ ?_)
  intro G vw3 hg hf
  simp only [puts, Act.put, lA, lB, lC, lD, lE, ↓reduceIte, Nat.reduceEqDiff, List.append_eq, List.cons_append, List.nil_append]
  have HG := Lib.hid (HF.out.gr hg)
  clear hT T HF hg hf lx5 lx6 lx7
  go_wp2
  refine hK.out _ _ ?_; clear hK K
  show Code.wp _ _ _ _ _
  have HF := HG; clear HG
  refine wp_cond_false (by rfl) ?_
  refine wp_skip ?_
  show Code.wp _ _ _ _ _
  have HZ20 : Hid ((a) * (b) = u3) := Lib.hid (by first | exact ok | exact Rat.sub_self | exact Rat.add_comm _ _ | exact Rat.mul_comm _ _ | exact Rat.add_assoc _ _ _ | exact Rat.mul_assoc _ _ _ | exact Rat.mul_add _ _ _ | exact Rat.add_sub_cancel | exact Rat.mul_div_cancel (by assumption) | (simp only [← HZ16.out, ← HZ14.out, ← HZ11.out, ← HZ10.out, ← HZ7.out, ← HZ6.out, ← HZ3.out, ← HZ1.out] <;> first | exact ok | exact Rat.sub_self | exact Rat.add_comm _ _ | exact Rat.mul_comm _ _ | exact Rat.add_assoc _ _ _ | exact Rat.mul_assoc _ _ _ | exact Rat.mul_add _ _ _ | exact Rat.add_sub_cancel | exact Rat.mul_div_cancel (by assumption)))
  have su20 : sz (u3) ≤ 12 := by have e := HZ20.out; first | omega | (rw [← e]; have := sz_mul (a) (b); omega)
  have HZ21 : Hid ((u3) / (b) = a) := Lib.hid (by first | exact ok | exact Rat.sub_self | exact Rat.add_comm _ _ | exact Rat.mul_comm _ _ | exact Rat.add_assoc _ _ _ | exact Rat.mul_assoc _ _ _ | exact Rat.mul_add _ _ _ | exact Rat.add_sub_cancel | exact Rat.mul_div_cancel (by assumption) | (simp only [← HZ16.out, ← HZ14.out, ← HZ11.out, ← HZ10.out, ← HZ7.out, ← HZ6.out, ← HZ3.out, ← HZ1.out] <;> first | exact ok | exact Rat.sub_self | exact Rat.add_comm _ _ | exact Rat.mul_comm _ _ | exact Rat.add_assoc _ _ _ | exact Rat.mul_assoc _ _ _ | exact Rat.mul_add _ _ _ | exact Rat.add_sub_cancel | exact Rat.mul_div_cancel (by assumption)))
  have su21 : sz (a) ≤ 18 := by have e := HZ21.out; first | omega | (rw [← e]; have := sz_div (u3) (b); omega)
  have lx5 := HF.out.c 0 rfl
  have lx6 := HF.out.c 1 rfl
  refine kS fun K hK => ?_
  refine wp_region_plan 9 [8] [7] (fun _ => 10) (fun _ => .cells #[.int .u64 0, .string ⟨#[]⟩, .bool false, .int .u64 0, .string ⟨#[]⟩] 51) [(true, 0), (true, 1), (true, 3), (true, 2), (true, 4), (true, 5), (true, 6), (true, 7)] (by kernel_rfl) (by kernel_rfl) (by intro i hi; simp only [List.mem_cons, List.not_mem_nil, or_false] at hi; rcases hi with rfl <;> exact ⟨_, rfl, rfl, rfl, by simp, fun ρ w => by kernel_rfl⟩) (by intro i hi; simp only [List.mem_cons, List.not_mem_nil, or_false] at hi; rcases hi with rfl <;> exact ⟨_, rfl, pure_extract⟩) (fun _ _ _ _ _ h => h) (fun T hT => ?_)
  iterate 3 refine tk ?_
  refine ck Tryz.call79 (fun w' hw => fmul_any (a) (b) (u3) _ HZ20.out om om) ?_
  refine ck Tryz.call75 (fun w' hw => fdiv_any (u3) (b) (a) _ HZ21.out (by first | exact ok | exact Rat.sub_self | exact Rat.add_comm _ _ | exact Rat.mul_comm _ _ | exact Rat.add_assoc _ _ _ | exact Rat.mul_assoc _ _ _ | exact Rat.mul_add _ _ _ | exact Rat.add_sub_cancel | exact Rat.mul_div_cancel (by assumption) | (simp only [← HZ16.out, ← HZ14.out, ← HZ11.out, ← HZ10.out, ← HZ7.out, ← HZ6.out, ← HZ3.out, ← HZ1.out] <;> first | exact ok | exact Rat.sub_self | exact Rat.add_comm _ _ | exact Rat.mul_comm _ _ | exact Rat.add_assoc _ _ _ | exact Rat.mul_assoc _ _ _ | exact Rat.mul_add _ _ _ | exact Rat.add_sub_cancel | exact Rat.mul_div_cancel (by assumption))) om om) ?_
  iterate 3 refine tk ?_
  refine wpPlan_nil (hT.out _ _ ?_)
  intro G vw4 hg hf
  simp only [puts, Act.put, lA, lB, lC, lD, lE, ↓reduceIte, Nat.reduceEqDiff]
  have HG := Lib.hid (HF.out.fr hg hf (zs := [(#[.int .u64 0, .string ⟨#[]⟩, .bool false, .int .u64 0, .string ⟨#[]⟩], 51)]) rfl (by decide) (by decide))
  simp only [List.zip_cons_cons, List.zip_nil_right, List.map_cons, List.map_nil, lF, lG] at HG
  clear hT T HF hg hf lx5 lx6
  generalize G 8 = gx8 at *
  have lx8 := HG.out.c 3 rfl; have fx8 := HG.out.f 3 rfl
  have r0 := Gr.refl vw4
  go_wp2
  refine hK.out _ _ ?_; clear hK K
  show Code.wp _ _ _ _ _
  clear r0 lx8 fx8
  refine fH ((((HG.out).put2 3 0 rfl).put2 3 2 rfl).put 3 4 _ rfl) fun Wx6 HF => ?_
  clear HG
  refine wp_seq ?_
  have hd1 : ((sb) == (0)) = false := by have : ¬ (sb = 0) := (by first | exact ok | exact Rat.sub_self | exact Rat.add_comm _ _ | exact Rat.mul_comm _ _ | exact Rat.add_assoc _ _ _ | exact Rat.mul_assoc _ _ _ | exact Rat.mul_add _ _ _ | exact Rat.add_sub_cancel | exact Rat.mul_div_cancel (by assumption) | (simp only [← HZ16.out, ← HZ14.out, ← HZ11.out, ← HZ10.out, ← HZ7.out, ← HZ6.out, ← HZ3.out, ← HZ1.out] <;> first | exact ok | exact Rat.sub_self | exact Rat.add_comm _ _ | exact Rat.mul_comm _ _ | exact Rat.add_assoc _ _ _ | exact Rat.mul_assoc _ _ _ | exact Rat.mul_add _ _ _ | exact Rat.add_sub_cancel | exact Rat.mul_div_cancel (by assumption))); simpa using this
  have hd2 : ((sb) == (0)) = false := by have : ¬ (sb = 0) := (by first | exact ok | exact Rat.sub_self | exact Rat.add_comm _ _ | exact Rat.mul_comm _ _ | exact Rat.add_assoc _ _ _ | exact Rat.mul_assoc _ _ _ | exact Rat.mul_add _ _ _ | exact Rat.add_sub_cancel | exact Rat.mul_div_cancel (by assumption) | (simp only [← HZ16.out, ← HZ14.out, ← HZ11.out, ← HZ10.out, ← HZ7.out, ← HZ6.out, ← HZ3.out, ← HZ1.out] <;> first | exact ok | exact Rat.sub_self | exact Rat.add_comm _ _ | exact Rat.mul_comm _ _ | exact Rat.add_assoc _ _ _ | exact Rat.mul_assoc _ _ _ | exact Rat.mul_add _ _ _ | exact Rat.add_sub_cancel | exact Rat.mul_div_cancel (by assumption))); simpa using this
  have hd3 : ((sb) != (0)) = true := by have : ¬ (sb = 0) := (by first | exact ok | exact Rat.sub_self | exact Rat.add_comm _ _ | exact Rat.mul_comm _ _ | exact Rat.add_assoc _ _ _ | exact Rat.mul_assoc _ _ _ | exact Rat.mul_add _ _ _ | exact Rat.add_sub_cancel | exact Rat.mul_div_cancel (by assumption) | (simp only [← HZ16.out, ← HZ14.out, ← HZ11.out, ← HZ10.out, ← HZ7.out, ← HZ6.out, ← HZ3.out, ← HZ1.out] <;> first | exact ok | exact Rat.sub_self | exact Rat.add_comm _ _ | exact Rat.mul_comm _ _ | exact Rat.add_assoc _ _ _ | exact Rat.mul_assoc _ _ _ | exact Rat.mul_add _ _ _ | exact Rat.add_sub_cancel | exact Rat.mul_div_cancel (by assumption))); simpa using this
  obtain ⟨u22, HZ22⟩ : ∃ z, Hid ((a) * (a) = z) := ⟨_, Lib.hid rfl⟩
  have su22 : sz (u22) ≤ 12 := by rw [← HZ22.out]; have := sz_mul (a) (a); omega
  obtain ⟨t23, HT23⟩ : ∃ z, Hid (sgQ (u22) = z) := ⟨_, Lib.hid rfl⟩
  have ht23 : 0 ≤ t23 := by rw [← HT23.out]; simp only [← HZ22.out, ← HZ16.out, ← HZ14.out, ← HZ11.out, ← HZ10.out, ← HZ7.out, ← HZ6.out, ← HZ3.out, ← HZ1.out]; exact sgQ_sq _
  have hd4 : ¬ (t23 < 0) := by first | exact ok | exact Rat.sub_self | exact Rat.add_comm _ _ | exact Rat.mul_comm _ _ | exact Rat.add_assoc _ _ _ | exact Rat.mul_assoc _ _ _ | exact Rat.mul_add _ _ _ | exact Rat.add_sub_cancel | exact Rat.mul_div_cancel (by assumption) | (simp only [← HZ22.out, ← HZ16.out, ← HZ14.out, ← HZ11.out, ← HZ10.out, ← HZ7.out, ← HZ6.out, ← HZ3.out, ← HZ1.out] <;> first | exact ok | exact Rat.sub_self | exact Rat.add_comm _ _ | exact Rat.mul_comm _ _ | exact Rat.add_assoc _ _ _ | exact Rat.mul_assoc _ _ _ | exact Rat.mul_add _ _ _ | exact Rat.add_sub_cancel | exact Rat.mul_div_cancel (by assumption))
  have HZ24 : Hid ((a) * (a) = u22) := Lib.hid (by first | exact ok | exact Rat.sub_self | exact Rat.add_comm _ _ | exact Rat.mul_comm _ _ | exact Rat.add_assoc _ _ _ | exact Rat.mul_assoc _ _ _ | exact Rat.mul_add _ _ _ | exact Rat.add_sub_cancel | exact Rat.mul_div_cancel (by assumption) | (simp only [← HZ22.out, ← HZ16.out, ← HZ14.out, ← HZ11.out, ← HZ10.out, ← HZ7.out, ← HZ6.out, ← HZ3.out, ← HZ1.out] <;> first | exact ok | exact Rat.sub_self | exact Rat.add_comm _ _ | exact Rat.mul_comm _ _ | exact Rat.add_assoc _ _ _ | exact Rat.mul_assoc _ _ _ | exact Rat.mul_add _ _ _ | exact Rat.add_sub_cancel | exact Rat.mul_div_cancel (by assumption)))
  have su24 : sz (u22) ≤ 12 := by have e := HZ24.out; first | omega | (rw [← e]; have := sz_mul (a) (a); omega)
  have HZ25 : Hid ((a) * (a) = u22) := Lib.hid (by first | exact ok | exact Rat.sub_self | exact Rat.add_comm _ _ | exact Rat.mul_comm _ _ | exact Rat.add_assoc _ _ _ | exact Rat.mul_assoc _ _ _ | exact Rat.mul_add _ _ _ | exact Rat.add_sub_cancel | exact Rat.mul_div_cancel (by assumption) | (simp only [← HZ22.out, ← HZ16.out, ← HZ14.out, ← HZ11.out, ← HZ10.out, ← HZ7.out, ← HZ6.out, ← HZ3.out, ← HZ1.out] <;> first | exact ok | exact Rat.sub_self | exact Rat.add_comm _ _ | exact Rat.mul_comm _ _ | exact Rat.add_assoc _ _ _ | exact Rat.mul_assoc _ _ _ | exact Rat.mul_add _ _ _ | exact Rat.add_sub_cancel | exact Rat.mul_div_cancel (by assumption)))
  have su25 : sz (u22) ≤ 12 := by have e := HZ25.out; first | omega | (rw [← e]; have := sz_mul (a) (a); omega)
  have lx5 := HF.out.c 0 rfl
  have lx6 := HF.out.c 1 rfl
  have lx8 := HF.out.c 3 rfl
  refine kS fun K hK => ?_
  refine pd 34 [(true, 0), (true, 1), (true, 2), (true, 3), (true, 4), (true, 5), (true, 6), (true, 7), (true, 8), (true, 9), (true, 10), (true, 11), (true, 12), (true, 13), (true, 14), (true, 15), (true, 16), (true, 17), (true, 18), (true, 19), (true, 20), (true, 21), (true, 22), (true, 23), (true, 24), (true, 25), (true, 26), (true, 27), (true, 28), (true, 30), (true, 31), (true, 29), (true, 32), (true, 33)] fun T hT => ?_
  refine tk ?_
  refine ck Tryz.call86 (fun w' hw => fsign_any (b) (sb) _ HSB.out) ?_
  iterate 2 refine tk ?_
  iterate 2 refine sk ?_
  iterate 3 refine tk ?_
  refine ck Tryz.call86 (fun w' hw => fsign_any (b) (sb) _ HSB.out) ?_
  iterate 13 refine tk ?_
  refine ck Tryz.call89 (fun w' hw => fsquare_any (a) (u22) _ (Lib.hid HZ22.out) om) ?_
  refine ck Tryz.call86 (fun w' hw => fsign_any (u22) (t23) _ HT23.out) ?_
  iterate 6 refine tk ?_
  refine ck Tryz.call89 (fun w' hw => fsquare_any (a) (u22) _ (Lib.hid HZ24.out) om) ?_
  refine ck Tryz.call79 (fun w' hw => fmul_any (a) (a) (u22) _ HZ25.out om om) ?_
  refine tk ?_
  refine nlD hT HF fun vw5 HG => ?_
  clear hT T HF lx5 lx6 lx8
  go_wp2
  refine hK.out _ _ ?_; clear hK K
  show Code.wp _ _ _ _ _
  refine fH ((HG.out).er 3) fun Wx7 HF => ?_
  clear HG
  clear hd1 hd2 hd3 ht23 hd4
  refine wp_cond_false (by rfl) ?_
  refine wp_skip ?_
  show Code.wp _ _ _ _ _
  have HB := HPb HF
  obtain ⟨u26, HZ26⟩ : ∃ z, Hid ((a) + (c) = z) := ⟨_, Lib.hid rfl⟩
  have su26 : sz (u26) ≤ 13 := by rw [← HZ26.out]; have := sz_add (a) (c); omega
  have HZ27 : Hid ((b) + (c) = u7) := Lib.hid (by first | exact ok | exact Rat.sub_self | exact Rat.add_comm _ _ | exact Rat.mul_comm _ _ | exact Rat.add_assoc _ _ _ | exact Rat.mul_assoc _ _ _ | exact Rat.mul_add _ _ _ | exact Rat.add_sub_cancel | exact Rat.mul_div_cancel (by assumption) | (simp only [← HZ26.out, ← HZ22.out, ← HZ16.out, ← HZ14.out, ← HZ11.out, ← HZ10.out, ← HZ7.out, ← HZ6.out, ← HZ3.out, ← HZ1.out] <;> first | exact ok | exact Rat.sub_self | exact Rat.add_comm _ _ | exact Rat.mul_comm _ _ | exact Rat.add_assoc _ _ _ | exact Rat.mul_assoc _ _ _ | exact Rat.mul_add _ _ _ | exact Rat.add_sub_cancel | exact Rat.mul_div_cancel (by assumption)))
  have su27 : sz (u7) ≤ 13 := by have e := HZ27.out; first | omega | (rw [← e]; have := sz_add (b) (c); omega)
  have HZ28 : Hid ((a) * (c) = u16) := Lib.hid (by first | exact ok | exact Rat.sub_self | exact Rat.add_comm _ _ | exact Rat.mul_comm _ _ | exact Rat.add_assoc _ _ _ | exact Rat.mul_assoc _ _ _ | exact Rat.mul_add _ _ _ | exact Rat.add_sub_cancel | exact Rat.mul_div_cancel (by assumption) | (simp only [← HZ26.out, ← HZ22.out, ← HZ16.out, ← HZ14.out, ← HZ11.out, ← HZ10.out, ← HZ7.out, ← HZ6.out, ← HZ3.out, ← HZ1.out] <;> first | exact ok | exact Rat.sub_self | exact Rat.add_comm _ _ | exact Rat.mul_comm _ _ | exact Rat.add_assoc _ _ _ | exact Rat.mul_assoc _ _ _ | exact Rat.mul_add _ _ _ | exact Rat.add_sub_cancel | exact Rat.mul_div_cancel (by assumption)))
  have su28 : sz (u16) ≤ 12 := by have e := HZ28.out; first | omega | (rw [← e]; have := sz_mul (a) (c); omega)
  have HZ29 : Hid ((b) * (c) = u11) := Lib.hid (by first | exact ok | exact Rat.sub_self | exact Rat.add_comm _ _ | exact Rat.mul_comm _ _ | exact Rat.add_assoc _ _ _ | exact Rat.mul_assoc _ _ _ | exact Rat.mul_add _ _ _ | exact Rat.add_sub_cancel | exact Rat.mul_div_cancel (by assumption) | (simp only [← HZ26.out, ← HZ22.out, ← HZ16.out, ← HZ14.out, ← HZ11.out, ← HZ10.out, ← HZ7.out, ← HZ6.out, ← HZ3.out, ← HZ1.out] <;> first | exact ok | exact Rat.sub_self | exact Rat.add_comm _ _ | exact Rat.mul_comm _ _ | exact Rat.add_assoc _ _ _ | exact Rat.mul_assoc _ _ _ | exact Rat.mul_add _ _ _ | exact Rat.add_sub_cancel | exact Rat.mul_div_cancel (by assumption)))
  have su29 : sz (u11) ≤ 12 := by have e := HZ29.out; first | omega | (rw [← e]; have := sz_mul (b) (c); omega)
  have hmul : c0 * sc = p := HP.out
  have hmw : IntKind.i64.wrap p = p := by rw [IntKind.wrap_i64]; omega
  have hng : IntKind.i64.wrap (-d0) = c0 := by have e9 := HDC.out; rw [IntKind.wrap_i64]; omega
  have lx5 := HF.out.c 0 rfl
  have lx6 := HF.out.c 1 rfl
  have lx7 := HF.out.c 2 rfl
  refine kS fun K hK => ?_
  refine pd 40 [(true, 0), (true, 1), (true, 3), (true, 4), (true, 7), (true, 8), (true, 2), (true, 5), (true, 6), (true, 9), (true, 10), (true, 11), (true, 12), (true, 13), (true, 15), (true, 16), (true, 19), (true, 20), (true, 22), (true, 14), (true, 17), (true, 18), (true, 21), (true, 23), (true, 24), (true, 25), (true, 26), (true, 27), (true, 28), (true, 29), (true, 31), (true, 32), (true, 30), (true, 33), (true, 34), (true, 35), (true, 36), (true, 37), (true, 38), (true, 39)] fun T hT => ?_
  iterate 6 refine tk ?_
  refine ck Tryz.call65 (fun w' hw => fadd_any (a) (c) (u26) _ HZ26.out om om) ?_
  refine ck Tryz.call65 (fun w' hw => fadd_any (b) (c) (u7) _ HZ27.out om om) ?_
  refine ck Tryz.call64 (fun w' hw => fcmp_any (u26) (u7) (c0) _ (by rw [← HC0.out]; simp only [← HZ26.out, ← HZ22.out, ← HZ16.out, ← HZ14.out, ← HZ11.out, ← HZ10.out, ← HZ7.out, ← HZ6.out, ← HZ3.out, ← HZ1.out]; first | exact sgQ_shift _ _ _ | (congr 1; grind)) om om) ?_
  refine ck Tryz.call64 (fun w' hw => fcmp_any (a) (b) (c0) _ HC0.out om om) ?_
  iterate 9 refine tk ?_
  refine ck Tryz.call79 (fun w' hw => fmul_any (a) (c) (u16) _ HZ28.out om om) ?_
  refine ck Tryz.call79 (fun w' hw => fmul_any (b) (c) (u11) _ HZ29.out om om) ?_
  refine ck Tryz.call64 (fun w' hw => fcmp_any (u16) (u11) (p) _ (by rw [← HP.out, ← HC0.out, ← HSC.out]; simp only [← HZ26.out, ← HZ22.out, ← HZ16.out, ← HZ14.out, ← HZ11.out, ← HZ10.out, ← HZ7.out, ← HZ6.out, ← HZ3.out, ← HZ1.out]; first | exact sgQ_mulsub _ _ _ | (rw [← sgQ_mul']; congr 1; grind)) om om) ?_
  refine ck Tryz.call64 (fun w' hw => fcmp_any (a) (b) (c0) _ HC0.out om om) ?_
  refine ck Tryz.call86 (fun w' hw => fsign_any (c) (sc) _ HSC.out) ?_
  iterate 8 refine tk ?_
  refine ck Tryz.call64 (fun w' hw => fcmp_any (a) (b) (c0) _ HC0.out om om) ?_
  refine ck Tryz.call64 (fun w' hw => fcmp_any (b) (a) (d0) _ (HD0.out) om om) ?_
  refine wpPlan_takeL (v := ?_) rfl (by rfl) (fun w' hw => ?_) ?_
  rotate_left
  · go_simp
    first | (simp only [hng]; with_reducible rfl) | with_reducible rfl
  simp only [Act.put, lA, lB, lC]
  iterate 3 refine tk ?_
  refine ck Tryz.call49 (fun w' hw => worksq_any _ (Lib.hid (HT.out.gr (Gr.trans HB.out hw)))) ?_
  refine tk ?_
  refine nlD hT HF fun vw6 HG => ?_
  clear hT T HF lx5 lx6 lx7 HB
  go_wp2
  refine hK.out _ _ ?_; clear hK K
  show Code.wp _ _ _ _ _
  refine fH ((((HG.out).er 2).er 1).er 0) fun Wx9 HF => ?_
  clear HG
  clear hmul hmw hng
  refine wp_ret ?_
  try simp only [Exit.then, Exit.inBlock]
  exact bodyPost_ret (v := .bool true) (by simp [results, Tryz.results10, go_sem]) rfl ⟨rfl, HF.out.1⟩

set_option maxRecDepth 100000 in
set_option maxHeartbeats 16000000 in
theorem fieldq_z (bbxn : Bool) (vxn : Value) (kxn : Nat) (fxn : Nat → Nat) (mxn : Nat) (ixn : Int) (vxd : Value) (kxd : Nat) (fxd : Nat → Nat) (mxd : Nat) (bbyn : Bool) (vyn : Value) (kyn : Nat) (fyn : Nat → Nat) (myn : Nat) (iyn : Int) (vyd : Value) (kyd : Nat) (fyd : Nat → Nat) (myd : Nat) (bbzn : Bool) (vzn : Value) (kzn : Nat) (fzn : Nat → Nat) (mzn : Nat) (izn : Int) (vzd : Value) (kzd : Nat) (fzd : Nat → Nat) (mzd : Nat) (a c : Rat) (sc c0 d0 p : Int) (w : World) (HWxn : Hid (Wa w vxn kxn fxn)) (HFxn : Hid (∀ i, i < kxn → fxn i < 4294967296)) (HVxn : Hid (vl fxn kxn = mxn)) (HAxn : Hid ((if bbxn then -((mxn : Nat) : Int) else ((mxn : Nat) : Int)) = ixn)) (HWxd : Hid (Wa w vxd kxd fxd)) (HFxd : Hid (∀ i, i < kxd → fxd i < 4294967296)) (HVxd : Hid (vl fxd kxd = mxd)) (HQx : Hid (mkRat ixn (mxd + 1) = a)) (HWyn : Hid (Wa w vyn kyn fyn)) (HFyn : Hid (∀ i, i < kyn → fyn i < 4294967296)) (HVyn : Hid (vl fyn kyn = myn)) (HAyn : Hid ((if bbyn then -((myn : Nat) : Int) else ((myn : Nat) : Int)) = iyn)) (HWyd : Hid (Wa w vyd kyd fyd)) (HFyd : Hid (∀ i, i < kyd → fyd i < 4294967296)) (HVyd : Hid (vl fyd kyd = myd)) (HQy : Hid (mkRat iyn (myd + 1) = (0 : Rat))) (HWzn : Hid (Wa w vzn kzn fzn)) (HFzn : Hid (∀ i, i < kzn → fzn i < 4294967296)) (HVzn : Hid (vl fzn kzn = mzn)) (HAzn : Hid ((if bbzn then -((mzn : Nat) : Int) else ((mzn : Nat) : Int)) = izn)) (HWzd : Hid (Wa w vzd kzd fzd)) (HFzd : Hid (∀ i, i < kzd → fzd i < 4294967296)) (HVzd : Hid (vl fzd kzd = mzd)) (HQz : Hid (mkRat izn (mzd + 1) = c)) (hkxn : kxn ≤ 5) (hkxd : kxd ≤ 5) (hkyn : kyn ≤ 5) (hkyd : kyd ≤ 5) (hkzn : kzn ≤ 5) (hkzd : kzd ≤ 5)  (HSC : Hid (sgQ c = sc)) (HC0 : Hid (sgQ (a - (0 : Rat)) = c0)) (HD0 : Hid (sgQ ((0 : Rat) - a) = d0)) (HDC : Hid (d0 = -c0)) (HP : Hid (c0 * sc = p)) (hp1 : -1 ≤ p) (hp2 : p ≤ 1) (hc1 : -1 ≤ c0) (hc2 : c0 ≤ 1) (HT : Hid (Tab w)) :
    Calls Tryz.prog 10 #[.agg #[.bool bbxn, vxn, vxd], .agg #[.bool bbyn, vyn, vyd], .agg #[.bool bbzn, vzn, vzd]] w fun e w' => e = .returned (.bool true) ∧ Below w.heap.size w w' := by
  obtain ⟨ao_xn, c_xn, rfl⟩ := HWxn.out.slice
  obtain ⟨ao_xd, c_xd, rfl⟩ := HWxd.out.slice
  have hm_xn : wl mxn ≤ 5 := by rw [← HVxn.out]; have := wl_le.2 (vl_lt HFxn.out); omega
  have hm_xd : wl mxd ≤ 5 := by rw [← HVxd.out]; have := wl_le.2 (vl_lt HFxd.out); omega
  have hi_x : wl (Int.natAbs ixn) ≤ 5 := by rw [zsize HAxn.out]; exact hm_xn
  have hs_x : sz a ≤ 6 := by rw [← HQx.out]; exact sz_great hi_x hm_xd
  have hr_x : rz a ≤ 18 := by rw [← HQx.out]; exact rz_great hi_x hm_xd (by decide)
  obtain ⟨ao_yn, c_yn, rfl⟩ := HWyn.out.slice
  obtain ⟨ao_yd, c_yd, rfl⟩ := HWyd.out.slice
  have hm_yn : wl myn ≤ 5 := by rw [← HVyn.out]; have := wl_le.2 (vl_lt HFyn.out); omega
  have hm_yd : wl myd ≤ 5 := by rw [← HVyd.out]; have := wl_le.2 (vl_lt HFyd.out); omega
  have hi_y : wl (Int.natAbs iyn) ≤ 5 := by rw [zsize HAyn.out]; exact hm_yn
  have hs_y : sz (0 : Rat) ≤ 6 := by rw [← HQy.out]; exact sz_great hi_y hm_yd
  have hr_y : rz (0 : Rat) ≤ 18 := by rw [← HQy.out]; exact rz_great hi_y hm_yd (by decide)
  obtain ⟨ao_zn, c_zn, rfl⟩ := HWzn.out.slice
  obtain ⟨ao_zd, c_zd, rfl⟩ := HWzd.out.slice
  have hm_zn : wl mzn ≤ 5 := by rw [← HVzn.out]; have := wl_le.2 (vl_lt HFzn.out); omega
  have hm_zd : wl mzd ≤ 5 := by rw [← HVzd.out]; have := wl_le.2 (vl_lt HFzd.out); omega
  have hi_z : wl (Int.natAbs izn) ≤ 5 := by rw [zsize HAzn.out]; exact hm_zn
  have hs_z : sz c ≤ 6 := by rw [← HQz.out]; exact sz_great hi_z hm_zd
  have hr_z : rz c ≤ 18 := by rw [← HQz.out]; exact rz_great hi_z hm_zd (by decide)
  go_enter Tryz.func10, Tryz.ntmps10
  have HF := Lib.hid (hp0 w)
  refine kS fun K hK => ?_
  refine wp_region_lit ?_
  go_wp2
  refine hK.out _ _ ?_; clear hK K
  show Code.wp _ _ _ _ _
  refine fH ((((HF.out).al (b := w.heap.size) (by first | rfl | simp) (by decide)).al (b := w.heap.size + 1) (by first | rfl | simp) (by decide)).al (b := w.heap.size + 1 + 1) (by first | rfl | simp) (by decide)) fun Wx0 HG => ?_
  clear HF; have HF := HG; clear HG
  generalize w.heap.size + 1 + 1 = gx2 at *
  generalize w.heap.size + 1 = gx1 at *
  refine wp_seq ?_
  have lx0 := HF.out.c 0 rfl
  have lx1 := HF.out.c 1 rfl
  have lx2 := HF.out.c 2 rfl
  refine kS fun K hK => ?_
  have HG0 : Hid (Gr Wx0 Wx0) := Lib.hid (Gr.refl _)
  refine sq 6 [(true, 0), (true, 1), (true, 2), (false, 3), (true, 4), (true, 5)] fun T hT => ?_
  iterate 3 refine tk ?_
  refine wpPlan_slice (cs := #[.bool (bbxn), (.slice ao_xn kxn c_xn), (.slice ao_xd kxd c_xd), .bool (bbyn), (.slice ao_yn kyn c_yn), (.slice ao_yd kyd c_yd), .bool (bbzn), (.slice ao_zn kzn c_zn), (.slice ao_zd kzd c_zd)]) (E := 88) (n := 3) rfl (by rfl) (fun w' hw => ?_) (fun gx4 vv4 hg0 yx4 bx4 => ?_)
  · go_simp
  clear yx4
  replace HG0 := Lib.hid (HG0.out.trans hg0)
  have HGS := Lib.hid hg0; clear hg0
  clear HGS
  have BX4 := Lib.hid bx4; clear bx4
  clear lx0; have lx0 := fun w' (h : Gr _ w') => HF.out.c 0 rfl w' (HG0.out.trans h)
  clear lx1; have lx1 := fun w' (h : Gr _ w') => HF.out.c 1 rfl w' (HG0.out.trans h)
  clear lx2; have lx2 := fun w' (h : Gr _ w') => HF.out.c 2 rfl w' (HG0.out.trans h)
  simp only [Act.put, lA, lB, lC]
  refine ck Tryz.call53 (fun w' hw => qfew3_ok _ _ _ _ _ _ _ _ _ _ _ _ _ _ _ _ _ _ _ _ _ 5 gx4 _ (BX4.out.gr hw) (by omega) (by omega) (by omega) (by omega) (by omega) (by omega)) ?_
  refine tk ?_
  refine wpPlan_nil (hT.out _ _ ?_)
  intro vw1 hg
  simp only [puts, Act.put, lA, lB, lC, lD, lE, ↓reduceIte, Nat.reduceEqDiff]
  have HG := Lib.hid (HF.out.gr (HG0.out.trans hg))
  clear hT T HF hg HG0 BX4 lx0 lx1 lx2
  go_wp2
  refine hK.out _ _ ?_; clear hK K
  show Code.wp _ _ _ _ _
  have HF := HG; clear HG
  refine wp_cond_false (by rfl) ?_
  refine wp_skip ?_
  show Code.wp _ _ _ _ _
  have HB := HPb HF
  have lx0 := HF.out.c 0 rfl
  have lx1 := HF.out.c 1 rfl
  have lx2 := HF.out.c 2 rfl
  refine kS fun K hK => ?_
  refine wp_region_plan 9 [6, 7, 8] [] (fun i => if i = 6 then 7 else if i = 7 then 8 else 9) (fun i => if i = 6 then .cells #[.int .u64 0, .string ⟨#[]⟩, .bool false, .int .u64 0, .string ⟨#[]⟩] 51 else if i = 7 then .cells #[.int .u64 0, .string ⟨#[]⟩, .bool false, .int .u64 0, .string ⟨#[]⟩] 51 else .cells #[.int .u64 0, .string ⟨#[]⟩, .bool false, .int .u64 0, .string ⟨#[]⟩] 51) [(true, 0), (true, 2), (true, 4), (true, 1), (true, 3), (true, 5)] (by kernel_rfl) (by kernel_rfl) (by intro i hi; simp only [List.mem_cons, List.not_mem_nil, or_false] at hi; rcases hi with rfl | rfl | rfl <;> exact ⟨_, rfl, rfl, rfl, by simp, fun ρ w => by kernel_rfl⟩) (fun i hi => by cases hi) (fun _ _ _ _ _ h => h) (fun T hT => ?_)
  iterate 3 refine tk ?_
  refine ck Tryz.call54 (fun w' hw => gof_any bbxn kxn fxn mxn ixn kxd fxd mxd a ao_xn c_xn ao_xd c_xd w' (Lib.hid (HWxn.out.gr (Gr.trans HB.out hw))) HFxn HVxn HAxn (Lib.hid (HWxd.out.gr (Gr.trans HB.out hw))) HFxd HVxd HQx om om om om) ?_
  refine ck Tryz.call54 (fun w' hw => gof_any bbyn kyn fyn myn iyn kyd fyd myd (0 : Rat) ao_yn c_yn ao_yd c_yd w' (Lib.hid (HWyn.out.gr (Gr.trans HB.out hw))) HFyn HVyn HAyn (Lib.hid (HWyd.out.gr (Gr.trans HB.out hw))) HFyd HVyd HQy om om om om) ?_
  refine ck Tryz.call54 (fun w' hw => gof_any bbzn kzn fzn mzn izn kzd fzd mzd c ao_zn c_zn ao_zd c_zd w' (Lib.hid (HWzn.out.gr (Gr.trans HB.out hw))) HFzn HVzn HAzn (Lib.hid (HWzd.out.gr (Gr.trans HB.out hw))) HFzd HVzd HQz om om om om) ?_
  refine wpPlan_nil (hT.out _ _ ?_)
  intro G vw2 hg hf
  simp only [puts, Act.put, lA, lB, lC, lD, lE, ↓reduceIte, Nat.reduceEqDiff]
  have HG := Lib.hid (HF.out.fr hg hf (zs := [(#[.int .u64 0, .string ⟨#[]⟩, .bool false, .int .u64 0, .string ⟨#[]⟩], 51), (#[.int .u64 0, .string ⟨#[]⟩, .bool false, .int .u64 0, .string ⟨#[]⟩], 51), (#[.int .u64 0, .string ⟨#[]⟩, .bool false, .int .u64 0, .string ⟨#[]⟩], 51)]) rfl (by decide) (by decide))
  simp only [List.zip_cons_cons, List.zip_nil_right, List.map_cons, List.map_nil, lF, lG] at HG
  clear hT T HF hg hf lx0 lx1 lx2 HB
  generalize G 6 = gx5 at *
  generalize G 7 = gx6 at *
  generalize G 8 = gx7 at *
  have lx5 := HG.out.c 3 rfl; have fx5 := HG.out.f 3 rfl
  have lx6 := HG.out.c 4 rfl; have fx6 := HG.out.f 4 rfl
  have lx7 := HG.out.c 5 rfl; have fx7 := HG.out.f 5 rfl
  have r0 := Gr.refl vw2
  obtain ⟨d5_6, d6_5⟩ := HG.out.ne 3 4 rfl rfl (by decide)
  obtain ⟨d5_7, d7_5⟩ := HG.out.ne 3 5 rfl rfl (by decide)
  obtain ⟨d6_7, d7_6⟩ := HG.out.ne 4 5 rfl rfl (by decide)
  go_wp2
  refine hK.out _ _ ?_; clear hK K
  show Code.wp _ _ _ _ _
  clear r0 lx5 fx5 lx6 fx6 lx7 fx7 d5_6 d6_5 d5_7 d7_5 d6_7 d7_6
  refine fH (((((((((((((HG.out).put2 3 0 rfl).put2 3 2 rfl).put 3 4 _ rfl).put2 4 0 rfl).put2 4 2 rfl).put 4 4 _ rfl).put2 5 0 rfl).put2 5 2 rfl).put 5 4 _ rfl).er 2).er 1).er 0) fun Wx3 HF => ?_
  clear HG
  refine wp_seq ?_
  have HZ1 : Hid ((a) + (0 : Rat) = a) := Lib.hid (by first | exact ok | exact Rat.sub_self | exact Rat.add_comm _ _ | exact Rat.mul_comm _ _ | exact Rat.add_assoc _ _ _ | exact Rat.mul_assoc _ _ _ | exact Rat.mul_add _ _ _ | exact Rat.add_sub_cancel | exact Rat.mul_div_cancel (by assumption))
  have su1 : sz (a) ≤ 13 := by have e := HZ1.out; first | omega | (rw [← e]; have := sz_add (a) (0 : Rat); omega)
  have HZ2 : Hid ((0 : Rat) + (a) = a) := Lib.hid (by first | exact ok | exact Rat.sub_self | exact Rat.add_comm _ _ | exact Rat.mul_comm _ _ | exact Rat.add_assoc _ _ _ | exact Rat.mul_assoc _ _ _ | exact Rat.mul_add _ _ _ | exact Rat.add_sub_cancel | exact Rat.mul_div_cancel (by assumption))
  have su2 : sz (a) ≤ 13 := by have e := HZ2.out; first | omega | (rw [← e]; have := sz_add (0 : Rat) (a); omega)
  have HZ3 : Hid ((a) * (0 : Rat) = (0 : Rat)) := Lib.hid (by first | exact ok | exact Rat.sub_self | exact Rat.add_comm _ _ | exact Rat.mul_comm _ _ | exact Rat.add_assoc _ _ _ | exact Rat.mul_assoc _ _ _ | exact Rat.mul_add _ _ _ | exact Rat.add_sub_cancel | exact Rat.mul_div_cancel (by assumption))
  have su3 : sz ((0 : Rat)) ≤ 12 := by have e := HZ3.out; first | omega | (rw [← e]; have := sz_mul (a) (0 : Rat); omega)
  have HZ4 : Hid ((0 : Rat) * (a) = (0 : Rat)) := Lib.hid (by first | exact ok | exact Rat.sub_self | exact Rat.add_comm _ _ | exact Rat.mul_comm _ _ | exact Rat.add_assoc _ _ _ | exact Rat.mul_assoc _ _ _ | exact Rat.mul_add _ _ _ | exact Rat.add_sub_cancel | exact Rat.mul_div_cancel (by assumption))
  have su4 : sz ((0 : Rat)) ≤ 12 := by have e := HZ4.out; first | omega | (rw [← e]; have := sz_mul (0 : Rat) (a); omega)
  have HZ5 : Hid ((a) + (0 : Rat) = a) := Lib.hid (by first | exact ok | exact Rat.sub_self | exact Rat.add_comm _ _ | exact Rat.mul_comm _ _ | exact Rat.add_assoc _ _ _ | exact Rat.mul_assoc _ _ _ | exact Rat.mul_add _ _ _ | exact Rat.add_sub_cancel | exact Rat.mul_div_cancel (by assumption))
  have su5 : sz (a) ≤ 13 := by have e := HZ5.out; first | omega | (rw [← e]; have := sz_add (a) (0 : Rat); omega)
  obtain ⟨u6, HZ6⟩ : ∃ z, Hid ((a) + (c) = z) := ⟨_, Lib.hid rfl⟩
  have su6 : sz (u6) ≤ 20 := by rw [← HZ6.out]; have := sz_add (a) (c); omega
  have HZ7 : Hid ((0 : Rat) + (c) = c) := Lib.hid (by first | exact ok | exact Rat.sub_self | exact Rat.add_comm _ _ | exact Rat.mul_comm _ _ | exact Rat.add_assoc _ _ _ | exact Rat.mul_assoc _ _ _ | exact Rat.mul_add _ _ _ | exact Rat.add_sub_cancel | exact Rat.mul_div_cancel (by assumption) | (simp only [← HZ6.out] <;> first | exact ok | exact Rat.sub_self | exact Rat.add_comm _ _ | exact Rat.mul_comm _ _ | exact Rat.add_assoc _ _ _ | exact Rat.mul_assoc _ _ _ | exact Rat.mul_add _ _ _ | exact Rat.add_sub_cancel | exact Rat.mul_div_cancel (by assumption)))
  have su7 : sz (c) ≤ 13 := by have e := HZ7.out; first | omega | (rw [← e]; have := sz_add (0 : Rat) (c); omega)
  have HZ8 : Hid ((a) + (c) = u6) := Lib.hid (by first | exact ok | exact Rat.sub_self | exact Rat.add_comm _ _ | exact Rat.mul_comm _ _ | exact Rat.add_assoc _ _ _ | exact Rat.mul_assoc _ _ _ | exact Rat.mul_add _ _ _ | exact Rat.add_sub_cancel | exact Rat.mul_div_cancel (by assumption) | (simp only [← HZ6.out] <;> first | exact ok | exact Rat.sub_self | exact Rat.add_comm _ _ | exact Rat.mul_comm _ _ | exact Rat.add_assoc _ _ _ | exact Rat.mul_assoc _ _ _ | exact Rat.mul_add _ _ _ | exact Rat.add_sub_cancel | exact Rat.mul_div_cancel (by assumption)))
  have su8 : sz (u6) ≤ 20 := by have e := HZ8.out; first | omega | (rw [← e]; have := sz_add (a) (c); omega)
  have HZ9 : Hid ((a) * (0 : Rat) = (0 : Rat)) := Lib.hid (by first | exact ok | exact Rat.sub_self | exact Rat.add_comm _ _ | exact Rat.mul_comm _ _ | exact Rat.add_assoc _ _ _ | exact Rat.mul_assoc _ _ _ | exact Rat.mul_add _ _ _ | exact Rat.add_sub_cancel | exact Rat.mul_div_cancel (by assumption) | (simp only [← HZ6.out] <;> first | exact ok | exact Rat.sub_self | exact Rat.add_comm _ _ | exact Rat.mul_comm _ _ | exact Rat.add_assoc _ _ _ | exact Rat.mul_assoc _ _ _ | exact Rat.mul_add _ _ _ | exact Rat.add_sub_cancel | exact Rat.mul_div_cancel (by assumption)))
  have su9 : sz ((0 : Rat)) ≤ 12 := by have e := HZ9.out; first | omega | (rw [← e]; have := sz_mul (a) (0 : Rat); omega)
  have HZ10 : Hid ((0 : Rat) * (c) = (0 : Rat)) := Lib.hid (by first | exact ok | exact Rat.sub_self | exact Rat.add_comm _ _ | exact Rat.mul_comm _ _ | exact Rat.add_assoc _ _ _ | exact Rat.mul_assoc _ _ _ | exact Rat.mul_add _ _ _ | exact Rat.add_sub_cancel | exact Rat.mul_div_cancel (by assumption) | (simp only [← HZ6.out] <;> first | exact ok | exact Rat.sub_self | exact Rat.add_comm _ _ | exact Rat.mul_comm _ _ | exact Rat.add_assoc _ _ _ | exact Rat.mul_assoc _ _ _ | exact Rat.mul_add _ _ _ | exact Rat.add_sub_cancel | exact Rat.mul_div_cancel (by assumption)))
  have su10 : sz ((0 : Rat)) ≤ 18 := by have e := HZ10.out; first | omega | (rw [← e]; have := sz_mul (0 : Rat) (c); omega)
  have HZ11 : Hid ((0 : Rat) * (c) = (0 : Rat)) := Lib.hid (by first | exact ok | exact Rat.sub_self | exact Rat.add_comm _ _ | exact Rat.mul_comm _ _ | exact Rat.add_assoc _ _ _ | exact Rat.mul_assoc _ _ _ | exact Rat.mul_add _ _ _ | exact Rat.add_sub_cancel | exact Rat.mul_div_cancel (by assumption) | (simp only [← HZ6.out] <;> first | exact ok | exact Rat.sub_self | exact Rat.add_comm _ _ | exact Rat.mul_comm _ _ | exact Rat.add_assoc _ _ _ | exact Rat.mul_assoc _ _ _ | exact Rat.mul_add _ _ _ | exact Rat.add_sub_cancel | exact Rat.mul_div_cancel (by assumption)))
  have su11 : sz ((0 : Rat)) ≤ 12 := by have e := HZ11.out; first | omega | (rw [← e]; have := sz_mul (0 : Rat) (c); omega)
  have HZ12 : Hid ((a) * (0 : Rat) = (0 : Rat)) := Lib.hid (by first | exact ok | exact Rat.sub_self | exact Rat.add_comm _ _ | exact Rat.mul_comm _ _ | exact Rat.add_assoc _ _ _ | exact Rat.mul_assoc _ _ _ | exact Rat.mul_add _ _ _ | exact Rat.add_sub_cancel | exact Rat.mul_div_cancel (by assumption) | (simp only [← HZ6.out] <;> first | exact ok | exact Rat.sub_self | exact Rat.add_comm _ _ | exact Rat.mul_comm _ _ | exact Rat.add_assoc _ _ _ | exact Rat.mul_assoc _ _ _ | exact Rat.mul_add _ _ _ | exact Rat.add_sub_cancel | exact Rat.mul_div_cancel (by assumption)))
  have su12 : sz ((0 : Rat)) ≤ 18 := by have e := HZ12.out; first | omega | (rw [← e]; have := sz_mul (a) (0 : Rat); omega)
  have HZ13 : Hid ((0 : Rat) + (c) = c) := Lib.hid (by first | exact ok | exact Rat.sub_self | exact Rat.add_comm _ _ | exact Rat.mul_comm _ _ | exact Rat.add_assoc _ _ _ | exact Rat.mul_assoc _ _ _ | exact Rat.mul_add _ _ _ | exact Rat.add_sub_cancel | exact Rat.mul_div_cancel (by assumption) | (simp only [← HZ6.out] <;> first | exact ok | exact Rat.sub_self | exact Rat.add_comm _ _ | exact Rat.mul_comm _ _ | exact Rat.add_assoc _ _ _ | exact Rat.mul_assoc _ _ _ | exact Rat.mul_add _ _ _ | exact Rat.add_sub_cancel | exact Rat.mul_div_cancel (by assumption)))
  have su13 : sz (c) ≤ 13 := by have e := HZ13.out; first | omega | (rw [← e]; have := sz_add (0 : Rat) (c); omega)
  obtain ⟨u14, HZ14⟩ : ∃ z, Hid ((a) * (c) = z) := ⟨_, Lib.hid rfl⟩
  have su14 : sz (u14) ≤ 19 := by rw [← HZ14.out]; have := sz_mul (a) (c); omega
  have HZ15 : Hid ((a) * (0 : Rat) = (0 : Rat)) := Lib.hid (by first | exact ok | exact Rat.sub_self | exact Rat.add_comm _ _ | exact Rat.mul_comm _ _ | exact Rat.add_assoc _ _ _ | exact Rat.mul_assoc _ _ _ | exact Rat.mul_add _ _ _ | exact Rat.add_sub_cancel | exact Rat.mul_div_cancel (by assumption) | (simp only [← HZ14.out, ← HZ6.out] <;> first | exact ok | exact Rat.sub_self | exact Rat.add_comm _ _ | exact Rat.mul_comm _ _ | exact Rat.add_assoc _ _ _ | exact Rat.mul_assoc _ _ _ | exact Rat.mul_add _ _ _ | exact Rat.add_sub_cancel | exact Rat.mul_div_cancel (by assumption)))
  have su15 : sz ((0 : Rat)) ≤ 12 := by have e := HZ15.out; first | omega | (rw [← e]; have := sz_mul (a) (0 : Rat); omega)
  have HZ16 : Hid ((a) * (c) = u14) := Lib.hid (by first | exact ok | exact Rat.sub_self | exact Rat.add_comm _ _ | exact Rat.mul_comm _ _ | exact Rat.add_assoc _ _ _ | exact Rat.mul_assoc _ _ _ | exact Rat.mul_add _ _ _ | exact Rat.add_sub_cancel | exact Rat.mul_div_cancel (by assumption) | (simp only [← HZ14.out, ← HZ6.out] <;> first | exact ok | exact Rat.sub_self | exact Rat.add_comm _ _ | exact Rat.mul_comm _ _ | exact Rat.add_assoc _ _ _ | exact Rat.mul_assoc _ _ _ | exact Rat.mul_add _ _ _ | exact Rat.add_sub_cancel | exact Rat.mul_div_cancel (by assumption)))
  have su16 : sz (u14) ≤ 12 := by have e := HZ16.out; first | omega | (rw [← e]; have := sz_mul (a) (c); omega)
  have HZ17 : Hid ((0 : Rat) + (u14) = u14) := Lib.hid (by first | exact ok | exact Rat.sub_self | exact Rat.add_comm _ _ | exact Rat.mul_comm _ _ | exact Rat.add_assoc _ _ _ | exact Rat.mul_assoc _ _ _ | exact Rat.mul_add _ _ _ | exact Rat.add_sub_cancel | exact Rat.mul_div_cancel (by assumption) | (simp only [← HZ14.out, ← HZ6.out] <;> first | exact ok | exact Rat.sub_self | exact Rat.add_comm _ _ | exact Rat.mul_comm _ _ | exact Rat.add_assoc _ _ _ | exact Rat.mul_assoc _ _ _ | exact Rat.mul_add _ _ _ | exact Rat.add_sub_cancel | exact Rat.mul_div_cancel (by assumption)))
  have su17 : sz (u14) ≤ 25 := by have e := HZ17.out; first | omega | (rw [← e]; have := sz_add (0 : Rat) (u14); omega)
  have HZ18 : Hid ((a) + (0 : Rat) = a) := Lib.hid (by first | exact ok | exact Rat.sub_self | exact Rat.add_comm _ _ | exact Rat.mul_comm _ _ | exact Rat.add_assoc _ _ _ | exact Rat.mul_assoc _ _ _ | exact Rat.mul_add _ _ _ | exact Rat.add_sub_cancel | exact Rat.mul_div_cancel (by assumption) | (simp only [← HZ14.out, ← HZ6.out] <;> first | exact ok | exact Rat.sub_self | exact Rat.add_comm _ _ | exact Rat.mul_comm _ _ | exact Rat.add_assoc _ _ _ | exact Rat.mul_assoc _ _ _ | exact Rat.mul_add _ _ _ | exact Rat.add_sub_cancel | exact Rat.mul_div_cancel (by assumption)))
  have su18 : sz (a) ≤ 13 := by have e := HZ18.out; first | omega | (rw [← e]; have := sz_add (a) (0 : Rat); omega)
  have HZ19 : Hid ((a) - (0 : Rat) = a) := Lib.hid (by first | exact ok | exact Rat.sub_self | exact Rat.add_comm _ _ | exact Rat.mul_comm _ _ | exact Rat.add_assoc _ _ _ | exact Rat.mul_assoc _ _ _ | exact Rat.mul_add _ _ _ | exact Rat.add_sub_cancel | exact Rat.mul_div_cancel (by assumption) | (simp only [← HZ14.out, ← HZ6.out] <;> first | exact ok | exact Rat.sub_self | exact Rat.add_comm _ _ | exact Rat.mul_comm _ _ | exact Rat.add_assoc _ _ _ | exact Rat.mul_assoc _ _ _ | exact Rat.mul_add _ _ _ | exact Rat.add_sub_cancel | exact Rat.mul_div_cancel (by assumption)))
  have su19 : sz (a) ≤ 20 := by have e := HZ19.out; first | omega | (rw [← e]; have := sz_sub (a) (0 : Rat); omega)
  have lx5 := HF.out.c 0 rfl
  have lx6 := HF.out.c 1 rfl
  have lx7 := HF.out.c 2 rfl
  refine kS fun K hK => ?_
  refine pd 65 [(true, 0), (true, 1), (true, 3), (true, 4), (true, 2), (true, 5), (true, 6), (true, 7), (true, 8), (true, 9), (true, 11), (true, 12), (true, 10), (true, 13), (true, 14), (true, 15), (true, 16), (true, 17), (true, 18), (true, 20), (true, 22), (true, 23), (true, 24), (true, 19), (true, 21), (true, 25), (true, 26), (true, 27), (true, 28), (true, 29), (true, 30), (true, 31), (true, 33), (true, 35), (true, 36), (true, 37), (true, 32), (true, 34), (true, 38), (true, 39), (true, 40), (true, 41), (true, 42), (true, 43), (true, 44), (true, 45), (true, 48), (true, 49), (true, 51), (true, 52), (true, 46), (true, 47), (true, 50), (true, 53), (true, 54), (true, 55), (true, 56), (true, 57), (true, 58), (true, 59), (true, 61), (true, 63), (true, 60), (true, 62), (true, 64)] fun T hT => ?_
  iterate 4 refine tk ?_
  refine ck Tryz.call65 (fun w' hw => fadd_any (a) (0 : Rat) (a) _ HZ1.out om om) ?_
  refine ck Tryz.call65 (fun w' hw => fadd_any (0 : Rat) (a) (a) _ HZ2.out om om) ?_
  iterate 6 refine tk ?_
  refine ck Tryz.call79 (fun w' hw => fmul_any (a) (0 : Rat) (0 : Rat) _ HZ3.out om om) ?_
  refine ck Tryz.call79 (fun w' hw => fmul_any (0 : Rat) (a) (0 : Rat) _ HZ4.out om om) ?_
  iterate 9 refine tk ?_
  refine ck Tryz.call65 (fun w' hw => fadd_any (a) (0 : Rat) (a) _ HZ5.out om om) ?_
  refine ck Tryz.call65 (fun w' hw => fadd_any (a) (c) (u6) _ HZ6.out om om) ?_
  refine ck Tryz.call65 (fun w' hw => fadd_any (0 : Rat) (c) (c) _ HZ7.out om om) ?_
  refine ck Tryz.call65 (fun w' hw => fadd_any (a) (c) (u6) _ HZ8.out om om) ?_
  iterate 9 refine tk ?_
  refine ck Tryz.call79 (fun w' hw => fmul_any (a) (0 : Rat) (0 : Rat) _ HZ9.out om om) ?_
  refine ck Tryz.call79 (fun w' hw => fmul_any (0 : Rat) (c) (0 : Rat) _ HZ10.out om om) ?_
  refine ck Tryz.call79 (fun w' hw => fmul_any (0 : Rat) (c) (0 : Rat) _ HZ11.out om om) ?_
  refine ck Tryz.call79 (fun w' hw => fmul_any (a) (0 : Rat) (0 : Rat) _ HZ12.out om om) ?_
  iterate 10 refine tk ?_
  refine ck Tryz.call65 (fun w' hw => fadd_any (0 : Rat) (c) (c) _ HZ13.out om om) ?_
  refine ck Tryz.call79 (fun w' hw => fmul_any (a) (c) (u14) _ HZ14.out om om) ?_
  refine ck Tryz.call79 (fun w' hw => fmul_any (a) (0 : Rat) (0 : Rat) _ HZ15.out om om) ?_
  refine ck Tryz.call79 (fun w' hw => fmul_any (a) (c) (u14) _ HZ16.out om om) ?_
  refine ck Tryz.call65 (fun w' hw => fadd_any (0 : Rat) (u14) (u14) _ HZ17.out om om) ?_
  iterate 7 refine tk ?_
  refine ck Tryz.call65 (fun w' hw => fadd_any (a) (0 : Rat) (a) _ HZ18.out om om) ?_
  refine ck Tryz.call67 (fun w' hw => fsub_any (a) (0 : Rat) (a) _ HZ19.out om om) ?_
  refine tk ?_
  refine wpPlan_nil (hT.out _ _ ?_)
  intro G vw3 hg hf
  simp only [puts, Act.put, lA, lB, lC, lD, lE, ↓reduceIte, Nat.reduceEqDiff, List.append_eq, List.cons_append, List.nil_append]
  have HG := Lib.hid (HF.out.gr hg)
  clear hT T HF hg hf lx5 lx6 lx7
  go_wp2
  refine hK.out _ _ ?_; clear hK K
  show Code.wp _ _ _ _ _
  have HF := HG; clear HG
  refine wp_cond_false (by rfl) ?_
  refine wp_skip ?_
  show Code.wp _ _ _ _ _
  have HZ20 : Hid ((a) * (0 : Rat) = (0 : Rat)) := Lib.hid (by first | exact ok | exact Rat.sub_self | exact Rat.add_comm _ _ | exact Rat.mul_comm _ _ | exact Rat.add_assoc _ _ _ | exact Rat.mul_assoc _ _ _ | exact Rat.mul_add _ _ _ | exact Rat.add_sub_cancel | exact Rat.mul_div_cancel (by assumption) | (simp only [← HZ14.out, ← HZ6.out] <;> first | exact ok | exact Rat.sub_self | exact Rat.add_comm _ _ | exact Rat.mul_comm _ _ | exact Rat.add_assoc _ _ _ | exact Rat.mul_assoc _ _ _ | exact Rat.mul_add _ _ _ | exact Rat.add_sub_cancel | exact Rat.mul_div_cancel (by assumption)))
  have su20 : sz ((0 : Rat)) ≤ 12 := by have e := HZ20.out; first | omega | (rw [← e]; have := sz_mul (a) (0 : Rat); omega)
  have lx5 := HF.out.c 0 rfl
  have lx6 := HF.out.c 1 rfl
  refine kS fun K hK => ?_
  refine wp_region_plan 9 [8] [7] (fun _ => 10) (fun _ => .cells #[.int .u64 0, .string ⟨#[]⟩, .bool false, .int .u64 0, .string ⟨#[]⟩] 51) [(true, 0), (true, 1), (true, 3), (true, 2), (true, 4), (true, 5), (true, 6), (true, 7)] (by kernel_rfl) (by kernel_rfl) (by intro i hi; simp only [List.mem_cons, List.not_mem_nil, or_false] at hi; rcases hi with rfl <;> exact ⟨_, rfl, rfl, rfl, by simp, fun ρ w => by kernel_rfl⟩) (by intro i hi; simp only [List.mem_cons, List.not_mem_nil, or_false] at hi; rcases hi with rfl <;> exact ⟨_, rfl, pure_extract⟩) (fun _ _ _ _ _ h => h) (fun T hT => ?_)
  iterate 3 refine tk ?_
  refine ck Tryz.call79 (fun w' hw => fmul_any (a) (0 : Rat) (0 : Rat) _ HZ20.out om om) ?_
  refine ck Tryz.call75 (fun w' hw => fdiv_none0 (0 : Rat) (0 : Rat) _ (by first | exact ok | exact Rat.sub_self | exact Rat.add_comm _ _ | exact Rat.mul_comm _ _ | exact Rat.add_assoc _ _ _ | exact Rat.mul_assoc _ _ _ | exact Rat.mul_add _ _ _ | exact Rat.add_sub_cancel | exact Rat.mul_div_cancel (by assumption) | (simp only [← HZ14.out, ← HZ6.out] <;> first | exact ok | exact Rat.sub_self | exact Rat.add_comm _ _ | exact Rat.mul_comm _ _ | exact Rat.add_assoc _ _ _ | exact Rat.mul_assoc _ _ _ | exact Rat.mul_add _ _ _ | exact Rat.add_sub_cancel | exact Rat.mul_div_cancel (by assumption)))) ?_
  iterate 3 refine tk ?_
  refine wpPlan_nil (hT.out _ _ ?_)
  intro G vw4 hg hf
  simp only [puts, Act.put, lA, lB, lC, lD, lE, ↓reduceIte, Nat.reduceEqDiff]
  have HG := Lib.hid (HF.out.fr hg hf (zs := [(#[.int .u64 0, .string ⟨#[]⟩, .bool false, .int .u64 0, .string ⟨#[]⟩], 51)]) rfl (by decide) (by decide))
  simp only [List.zip_cons_cons, List.zip_nil_right, List.map_cons, List.map_nil, lF, lG] at HG
  clear hT T HF hg hf lx5 lx6
  generalize G 8 = gx8 at *
  have lx8 := HG.out.c 3 rfl; have fx8 := HG.out.f 3 rfl
  have r0 := Gr.refl vw4
  go_wp2
  refine hK.out _ _ ?_; clear hK K
  show Code.wp _ _ _ _ _
  clear r0 lx8 fx8
  refine fH ((((HG.out).put2 3 0 rfl).put2 3 2 rfl).put 3 4 _ rfl) fun Wx6 HF => ?_
  clear HG
  refine wp_seq ?_
  obtain ⟨u21, HZ21⟩ : ∃ z, Hid ((a) * (a) = z) := ⟨_, Lib.hid rfl⟩
  have su21 : sz (u21) ≤ 12 := by rw [← HZ21.out]; have := sz_mul (a) (a); omega
  obtain ⟨t22, HT22⟩ : ∃ z, Hid (sgQ (u21) = z) := ⟨_, Lib.hid rfl⟩
  have ht22 : 0 ≤ t22 := by rw [← HT22.out]; simp only [← HZ21.out, ← HZ14.out, ← HZ6.out]; exact sgQ_sq _
  have hd1 : ¬ (t22 < 0) := by first | exact ok | exact Rat.sub_self | exact Rat.add_comm _ _ | exact Rat.mul_comm _ _ | exact Rat.add_assoc _ _ _ | exact Rat.mul_assoc _ _ _ | exact Rat.mul_add _ _ _ | exact Rat.add_sub_cancel | exact Rat.mul_div_cancel (by assumption) | (simp only [← HZ21.out, ← HZ14.out, ← HZ6.out] <;> first | exact ok | exact Rat.sub_self | exact Rat.add_comm _ _ | exact Rat.mul_comm _ _ | exact Rat.add_assoc _ _ _ | exact Rat.mul_assoc _ _ _ | exact Rat.mul_add _ _ _ | exact Rat.add_sub_cancel | exact Rat.mul_div_cancel (by assumption))
  have HZ23 : Hid ((a) * (a) = u21) := Lib.hid (by first | exact ok | exact Rat.sub_self | exact Rat.add_comm _ _ | exact Rat.mul_comm _ _ | exact Rat.add_assoc _ _ _ | exact Rat.mul_assoc _ _ _ | exact Rat.mul_add _ _ _ | exact Rat.add_sub_cancel | exact Rat.mul_div_cancel (by assumption) | (simp only [← HZ21.out, ← HZ14.out, ← HZ6.out] <;> first | exact ok | exact Rat.sub_self | exact Rat.add_comm _ _ | exact Rat.mul_comm _ _ | exact Rat.add_assoc _ _ _ | exact Rat.mul_assoc _ _ _ | exact Rat.mul_add _ _ _ | exact Rat.add_sub_cancel | exact Rat.mul_div_cancel (by assumption)))
  have su23 : sz (u21) ≤ 12 := by have e := HZ23.out; first | omega | (rw [← e]; have := sz_mul (a) (a); omega)
  have HZ24 : Hid ((a) * (a) = u21) := Lib.hid (by first | exact ok | exact Rat.sub_self | exact Rat.add_comm _ _ | exact Rat.mul_comm _ _ | exact Rat.add_assoc _ _ _ | exact Rat.mul_assoc _ _ _ | exact Rat.mul_add _ _ _ | exact Rat.add_sub_cancel | exact Rat.mul_div_cancel (by assumption) | (simp only [← HZ21.out, ← HZ14.out, ← HZ6.out] <;> first | exact ok | exact Rat.sub_self | exact Rat.add_comm _ _ | exact Rat.mul_comm _ _ | exact Rat.add_assoc _ _ _ | exact Rat.mul_assoc _ _ _ | exact Rat.mul_add _ _ _ | exact Rat.add_sub_cancel | exact Rat.mul_div_cancel (by assumption)))
  have su24 : sz (u21) ≤ 12 := by have e := HZ24.out; first | omega | (rw [← e]; have := sz_mul (a) (a); omega)
  have lx5 := HF.out.c 0 rfl
  have lx6 := HF.out.c 1 rfl
  have lx8 := HF.out.c 3 rfl
  refine kS fun K hK => ?_
  refine pd 34 [(true, 0), (true, 1), (true, 2), (true, 3), (true, 4), (true, 5), (true, 6), (true, 7), (true, 8), (true, 9), (true, 10), (true, 11), (true, 12), (true, 13), (true, 14), (true, 15), (true, 16), (true, 17), (true, 18), (true, 19), (true, 20), (true, 21), (true, 22), (true, 23), (true, 24), (true, 25), (true, 26), (true, 27), (true, 28), (true, 30), (true, 31), (true, 29), (true, 32), (true, 33)] fun T hT => ?_
  refine tk ?_
  refine ck Tryz.call86 (fun w' hw => fsign_any (0 : Rat) (0) _ (by have e9 : (0 : Rat) = (0 : Rat) := (by first | exact ok | exact Rat.sub_self | exact Rat.add_comm _ _ | exact Rat.mul_comm _ _ | exact Rat.add_assoc _ _ _ | exact Rat.mul_assoc _ _ _ | exact Rat.mul_add _ _ _ | exact Rat.add_sub_cancel | exact Rat.mul_div_cancel (by assumption) | (simp only [← HZ14.out, ← HZ6.out] <;> first | exact ok | exact Rat.sub_self | exact Rat.add_comm _ _ | exact Rat.mul_comm _ _ | exact Rat.add_assoc _ _ _ | exact Rat.mul_assoc _ _ _ | exact Rat.mul_add _ _ _ | exact Rat.add_sub_cancel | exact Rat.mul_div_cancel (by assumption))); exact sgQ_zero' e9)) ?_
  iterate 7 refine tk ?_
  refine ck Tryz.call86 (fun w' hw => fsign_any (0 : Rat) (0) _ (by have e9 : (0 : Rat) = (0 : Rat) := (by first | exact ok | exact Rat.sub_self | exact Rat.add_comm _ _ | exact Rat.mul_comm _ _ | exact Rat.add_assoc _ _ _ | exact Rat.mul_assoc _ _ _ | exact Rat.mul_add _ _ _ | exact Rat.add_sub_cancel | exact Rat.mul_div_cancel (by assumption) | (simp only [← HZ14.out, ← HZ6.out] <;> first | exact ok | exact Rat.sub_self | exact Rat.add_comm _ _ | exact Rat.mul_comm _ _ | exact Rat.add_assoc _ _ _ | exact Rat.mul_assoc _ _ _ | exact Rat.mul_add _ _ _ | exact Rat.add_sub_cancel | exact Rat.mul_div_cancel (by assumption))); exact sgQ_zero' e9)) ?_
  iterate 2 refine tk ?_
  iterate 7 refine sk ?_
  iterate 4 refine tk ?_
  refine ck Tryz.call89 (fun w' hw => fsquare_any (a) (u21) _ (Lib.hid HZ21.out) om) ?_
  refine ck Tryz.call86 (fun w' hw => fsign_any (u21) (t22) _ HT22.out) ?_
  iterate 6 refine tk ?_
  refine ck Tryz.call89 (fun w' hw => fsquare_any (a) (u21) _ (Lib.hid HZ23.out) om) ?_
  refine ck Tryz.call79 (fun w' hw => fmul_any (a) (a) (u21) _ HZ24.out om om) ?_
  refine tk ?_
  refine nlD hT HF fun vw5 HG => ?_
  clear hT T HF lx5 lx6 lx8
  go_wp2
  refine hK.out _ _ ?_; clear hK K
  show Code.wp _ _ _ _ _
  refine fH ((HG.out).er 3) fun Wx7 HF => ?_
  clear HG
  clear ht22 hd1
  refine wp_cond_false (by rfl) ?_
  refine wp_skip ?_
  show Code.wp _ _ _ _ _
  have HB := HPb HF
  have HZ25 : Hid ((a) + (c) = u6) := Lib.hid (by first | exact ok | exact Rat.sub_self | exact Rat.add_comm _ _ | exact Rat.mul_comm _ _ | exact Rat.add_assoc _ _ _ | exact Rat.mul_assoc _ _ _ | exact Rat.mul_add _ _ _ | exact Rat.add_sub_cancel | exact Rat.mul_div_cancel (by assumption) | (simp only [← HZ21.out, ← HZ14.out, ← HZ6.out] <;> first | exact ok | exact Rat.sub_self | exact Rat.add_comm _ _ | exact Rat.mul_comm _ _ | exact Rat.add_assoc _ _ _ | exact Rat.mul_assoc _ _ _ | exact Rat.mul_add _ _ _ | exact Rat.add_sub_cancel | exact Rat.mul_div_cancel (by assumption)))
  have su25 : sz (u6) ≤ 13 := by have e := HZ25.out; first | omega | (rw [← e]; have := sz_add (a) (c); omega)
  have HZ26 : Hid ((0 : Rat) + (c) = c) := Lib.hid (by first | exact ok | exact Rat.sub_self | exact Rat.add_comm _ _ | exact Rat.mul_comm _ _ | exact Rat.add_assoc _ _ _ | exact Rat.mul_assoc _ _ _ | exact Rat.mul_add _ _ _ | exact Rat.add_sub_cancel | exact Rat.mul_div_cancel (by assumption) | (simp only [← HZ21.out, ← HZ14.out, ← HZ6.out] <;> first | exact ok | exact Rat.sub_self | exact Rat.add_comm _ _ | exact Rat.mul_comm _ _ | exact Rat.add_assoc _ _ _ | exact Rat.mul_assoc _ _ _ | exact Rat.mul_add _ _ _ | exact Rat.add_sub_cancel | exact Rat.mul_div_cancel (by assumption)))
  have su26 : sz (c) ≤ 13 := by have e := HZ26.out; first | omega | (rw [← e]; have := sz_add (0 : Rat) (c); omega)
  have HZ27 : Hid ((a) * (c) = u14) := Lib.hid (by first | exact ok | exact Rat.sub_self | exact Rat.add_comm _ _ | exact Rat.mul_comm _ _ | exact Rat.add_assoc _ _ _ | exact Rat.mul_assoc _ _ _ | exact Rat.mul_add _ _ _ | exact Rat.add_sub_cancel | exact Rat.mul_div_cancel (by assumption) | (simp only [← HZ21.out, ← HZ14.out, ← HZ6.out] <;> first | exact ok | exact Rat.sub_self | exact Rat.add_comm _ _ | exact Rat.mul_comm _ _ | exact Rat.add_assoc _ _ _ | exact Rat.mul_assoc _ _ _ | exact Rat.mul_add _ _ _ | exact Rat.add_sub_cancel | exact Rat.mul_div_cancel (by assumption)))
  have su27 : sz (u14) ≤ 12 := by have e := HZ27.out; first | omega | (rw [← e]; have := sz_mul (a) (c); omega)
  have HZ28 : Hid ((0 : Rat) * (c) = (0 : Rat)) := Lib.hid (by first | exact ok | exact Rat.sub_self | exact Rat.add_comm _ _ | exact Rat.mul_comm _ _ | exact Rat.add_assoc _ _ _ | exact Rat.mul_assoc _ _ _ | exact Rat.mul_add _ _ _ | exact Rat.add_sub_cancel | exact Rat.mul_div_cancel (by assumption) | (simp only [← HZ21.out, ← HZ14.out, ← HZ6.out] <;> first | exact ok | exact Rat.sub_self | exact Rat.add_comm _ _ | exact Rat.mul_comm _ _ | exact Rat.add_assoc _ _ _ | exact Rat.mul_assoc _ _ _ | exact Rat.mul_add _ _ _ | exact Rat.add_sub_cancel | exact Rat.mul_div_cancel (by assumption)))
  have su28 : sz ((0 : Rat)) ≤ 12 := by have e := HZ28.out; first | omega | (rw [← e]; have := sz_mul (0 : Rat) (c); omega)
  have hmul : c0 * sc = p := HP.out
  have hmw : IntKind.i64.wrap p = p := by rw [IntKind.wrap_i64]; omega
  have hng : IntKind.i64.wrap (-d0) = c0 := by have e9 := HDC.out; rw [IntKind.wrap_i64]; omega
  have lx5 := HF.out.c 0 rfl
  have lx6 := HF.out.c 1 rfl
  have lx7 := HF.out.c 2 rfl
  refine kS fun K hK => ?_
  refine pd 40 [(true, 0), (true, 1), (true, 3), (true, 4), (true, 7), (true, 8), (true, 2), (true, 5), (true, 6), (true, 9), (true, 10), (true, 11), (true, 12), (true, 13), (true, 15), (true, 16), (true, 19), (true, 20), (true, 22), (true, 14), (true, 17), (true, 18), (true, 21), (true, 23), (true, 24), (true, 25), (true, 26), (true, 27), (true, 28), (true, 29), (true, 31), (true, 32), (true, 30), (true, 33), (true, 34), (true, 35), (true, 36), (true, 37), (true, 38), (true, 39)] fun T hT => ?_
  iterate 6 refine tk ?_
  refine ck Tryz.call65 (fun w' hw => fadd_any (a) (c) (u6) _ HZ25.out om om) ?_
  refine ck Tryz.call65 (fun w' hw => fadd_any (0 : Rat) (c) (c) _ HZ26.out om om) ?_
  refine ck Tryz.call64 (fun w' hw => fcmp_any (u6) (c) (c0) _ (by rw [← HC0.out]; simp only [← HZ21.out, ← HZ14.out, ← HZ6.out]; first | exact sgQ_shift _ _ _ | (congr 1; grind)) om om) ?_
  refine ck Tryz.call64 (fun w' hw => fcmp_any (a) (0 : Rat) (c0) _ HC0.out om om) ?_
  iterate 9 refine tk ?_
  refine ck Tryz.call79 (fun w' hw => fmul_any (a) (c) (u14) _ HZ27.out om om) ?_
  refine ck Tryz.call79 (fun w' hw => fmul_any (0 : Rat) (c) (0 : Rat) _ HZ28.out om om) ?_
  refine ck Tryz.call64 (fun w' hw => fcmp_any (u14) (0 : Rat) (p) _ (by rw [← HP.out, ← HC0.out, ← HSC.out]; simp only [← HZ21.out, ← HZ14.out, ← HZ6.out]; first | exact sgQ_mulsub _ _ _ | (rw [← sgQ_mul']; congr 1; grind)) om om) ?_
  refine ck Tryz.call64 (fun w' hw => fcmp_any (a) (0 : Rat) (c0) _ HC0.out om om) ?_
  refine ck Tryz.call86 (fun w' hw => fsign_any (c) (sc) _ HSC.out) ?_
  iterate 8 refine tk ?_
  refine ck Tryz.call64 (fun w' hw => fcmp_any (a) (0 : Rat) (c0) _ HC0.out om om) ?_
  refine ck Tryz.call64 (fun w' hw => fcmp_any (0 : Rat) (a) (d0) _ (HD0.out) om om) ?_
  refine wpPlan_takeL (v := ?_) rfl (by rfl) (fun w' hw => ?_) ?_
  rotate_left
  · go_simp
    first | (simp only [hng]; with_reducible rfl) | with_reducible rfl
  simp only [Act.put, lA, lB, lC]
  iterate 3 refine tk ?_
  refine ck Tryz.call49 (fun w' hw => worksq_any _ (Lib.hid (HT.out.gr (Gr.trans HB.out hw)))) ?_
  refine tk ?_
  refine nlD hT HF fun vw6 HG => ?_
  clear hT T HF lx5 lx6 lx7 HB
  go_wp2
  refine hK.out _ _ ?_; clear hK K
  show Code.wp _ _ _ _ _
  refine fH ((((HG.out).er 2).er 1).er 0) fun Wx9 HF => ?_
  clear HG
  clear hmul hmw hng
  refine wp_ret ?_
  try simp only [Exit.then, Exit.inBlock]
  exact bodyPost_ret (v := .bool true) (by simp [results, Tryz.results10, go_sem]) rfl ⟨rfl, HF.out.1⟩

set_option maxRecDepth 100000 in
set_option maxHeartbeats 8000000 in
theorem fieldq_big1 (bbxn : Bool) (vxn : Value) (kxn : Nat) (fxn : Nat → Nat) (mxn : Nat) (ixn : Int) (vxd : Value) (kxd : Nat) (fxd : Nat → Nat) (mxd : Nat) (bbyn : Bool) (vyn : Value) (kyn : Nat) (fyn : Nat → Nat) (myn : Nat) (iyn : Int) (vyd : Value) (kyd : Nat) (fyd : Nat → Nat) (myd : Nat) (bbzn : Bool) (vzn : Value) (kzn : Nat) (fzn : Nat → Nat) (mzn : Nat) (izn : Int) (vzd : Value) (kzd : Nat) (fzd : Nat → Nat) (mzd : Nat) (a b c : Rat)  (w : World) (HWxn : Hid (Wa w vxn kxn fxn)) (HFxn : Hid (∀ i, i < kxn → fxn i < 4294967296)) (HVxn : Hid (vl fxn kxn = mxn)) (HAxn : Hid ((if bbxn then -((mxn : Nat) : Int) else ((mxn : Nat) : Int)) = ixn)) (HWxd : Hid (Wa w vxd kxd fxd)) (HFxd : Hid (∀ i, i < kxd → fxd i < 4294967296)) (HVxd : Hid (vl fxd kxd = mxd)) (HQx : Hid (mkRat ixn (mxd + 1) = a)) (HWyn : Hid (Wa w vyn kyn fyn)) (HFyn : Hid (∀ i, i < kyn → fyn i < 4294967296)) (HVyn : Hid (vl fyn kyn = myn)) (HAyn : Hid ((if bbyn then -((myn : Nat) : Int) else ((myn : Nat) : Int)) = iyn)) (HWyd : Hid (Wa w vyd kyd fyd)) (HFyd : Hid (∀ i, i < kyd → fyd i < 4294967296)) (HVyd : Hid (vl fyd kyd = myd)) (HQy : Hid (mkRat iyn (myd + 1) = b)) (HWzn : Hid (Wa w vzn kzn fzn)) (HFzn : Hid (∀ i, i < kzn → fzn i < 4294967296)) (HVzn : Hid (vl fzn kzn = mzn)) (HAzn : Hid ((if bbzn then -((mzn : Nat) : Int) else ((mzn : Nat) : Int)) = izn)) (HWzd : Hid (Wa w vzd kzd fzd)) (HFzd : Hid (∀ i, i < kzd → fzd i < 4294967296)) (HVzd : Hid (vl fzd kzd = mzd)) (HQz : Hid (mkRat izn (mzd + 1) = c))  (hkxn : 5 < kxn) (HT : Hid (Tab w)) :
    Calls Tryz.prog 10 #[.agg #[.bool bbxn, vxn, vxd], .agg #[.bool bbyn, vyn, vyd], .agg #[.bool bbzn, vzn, vzd]] w fun e w' => e = .returned (.bool true) ∧ Below w.heap.size w w' := by
  obtain ⟨ao_xn, c_xn, rfl⟩ := HWxn.out.slice
  obtain ⟨ao_xd, c_xd, rfl⟩ := HWxd.out.slice
  obtain ⟨ao_yn, c_yn, rfl⟩ := HWyn.out.slice
  obtain ⟨ao_yd, c_yd, rfl⟩ := HWyd.out.slice
  obtain ⟨ao_zn, c_zn, rfl⟩ := HWzn.out.slice
  obtain ⟨ao_zd, c_zd, rfl⟩ := HWzd.out.slice
  go_enter Tryz.func10, Tryz.ntmps10
  have HF := Lib.hid (hp0 w)
  refine kS fun K hK => ?_
  refine wp_region_lit ?_
  go_wp2
  refine hK.out _ _ ?_; clear hK K
  show Code.wp _ _ _ _ _
  refine fH ((((HF.out).al (b := w.heap.size) (by first | rfl | simp) (by decide)).al (b := w.heap.size + 1) (by first | rfl | simp) (by decide)).al (b := w.heap.size + 1 + 1) (by first | rfl | simp) (by decide)) fun Wx0 HG => ?_
  clear HF; have HF := HG; clear HG
  generalize w.heap.size + 1 + 1 = gx2 at *
  generalize w.heap.size + 1 = gx1 at *
  refine wp_seq ?_
  have lx0 := HF.out.c 0 rfl
  have lx1 := HF.out.c 1 rfl
  have lx2 := HF.out.c 2 rfl
  refine kS fun K hK => ?_
  have HG0 : Hid (Gr Wx0 Wx0) := Lib.hid (Gr.refl _)
  refine sq 6 [(true, 0), (true, 1), (true, 2), (false, 3), (true, 4), (true, 5)] fun T hT => ?_
  iterate 3 refine tk ?_
  refine wpPlan_slice (cs := #[.bool (bbxn), (.slice ao_xn kxn c_xn), (.slice ao_xd kxd c_xd), .bool (bbyn), (.slice ao_yn kyn c_yn), (.slice ao_yd kyd c_yd), .bool (bbzn), (.slice ao_zn kzn c_zn), (.slice ao_zd kzd c_zd)]) (E := 88) (n := 3) rfl (by rfl) (fun w' hw => ?_) (fun gx4 vv4 hg0 yx4 bx4 => ?_)
  · go_simp
  clear yx4
  replace HG0 := Lib.hid (HG0.out.trans hg0)
  have HGS := Lib.hid hg0; clear hg0
  clear HGS
  have BX4 := Lib.hid bx4; clear bx4
  clear lx0; have lx0 := fun w' (h : Gr _ w') => HF.out.c 0 rfl w' (HG0.out.trans h)
  clear lx1; have lx1 := fun w' (h : Gr _ w') => HF.out.c 1 rfl w' (HG0.out.trans h)
  clear lx2; have lx2 := fun w' (h : Gr _ w') => HF.out.c 2 rfl w' (HG0.out.trans h)
  simp only [Act.put, lA, lB, lC]
  refine ck Tryz.call53 (fun w' hw => qfew3_no0 _ _ _ _ _ _ _ _ _ _ _ _ _ _ _ _ _ _ _ _ _ 5 gx4 _ (BX4.out.gr hw) (by omega)) ?_
  refine tk ?_
  refine wpPlan_nil (hT.out _ _ ?_)
  intro vw1 hg
  simp only [puts, Act.put, lA, lB, lC, lD, lE, ↓reduceIte, Nat.reduceEqDiff]
  have HG := Lib.hid (HF.out.gr (HG0.out.trans hg))
  clear hT T HF hg HG0 BX4 lx0 lx1 lx2
  go_wp2
  refine hK.out _ _ ?_; clear hK K
  show Code.wp _ _ _ _ _
  have HF := HG; clear HG
  refine wp_cond_true (by rfl) ?_
  have HB := HPb HF
  refine kS fun K hK => ?_
  refine sq 2 [(true, 0), (true, 1)] fun T hT => ?_
  refine ck Tryz.call49 (fun w' hw => worksq_any _ (Lib.hid (HT.out.gr (Gr.trans HB.out hw)))) ?_
  refine tk ?_
  refine nlS hT HF fun vw2 HG => ?_
  clear hT T HF HB
  go_wp2
  refine hK.out _ _ ?_; clear hK K
  show Code.wp _ _ _ _ _
  have HF := HG; clear HG
  refine wp_ret ?_
  try simp only [Exit.then, Exit.inBlock]
  exact bodyPost_ret (v := .bool true) (by simp [results, Tryz.results10, go_sem]) rfl ⟨rfl, HF.out.1⟩

set_option maxRecDepth 100000 in
set_option maxHeartbeats 8000000 in
theorem fieldq_big2 (bbxn : Bool) (vxn : Value) (kxn : Nat) (fxn : Nat → Nat) (mxn : Nat) (ixn : Int) (vxd : Value) (kxd : Nat) (fxd : Nat → Nat) (mxd : Nat) (bbyn : Bool) (vyn : Value) (kyn : Nat) (fyn : Nat → Nat) (myn : Nat) (iyn : Int) (vyd : Value) (kyd : Nat) (fyd : Nat → Nat) (myd : Nat) (bbzn : Bool) (vzn : Value) (kzn : Nat) (fzn : Nat → Nat) (mzn : Nat) (izn : Int) (vzd : Value) (kzd : Nat) (fzd : Nat → Nat) (mzd : Nat) (a b c : Rat)  (w : World) (HWxn : Hid (Wa w vxn kxn fxn)) (HFxn : Hid (∀ i, i < kxn → fxn i < 4294967296)) (HVxn : Hid (vl fxn kxn = mxn)) (HAxn : Hid ((if bbxn then -((mxn : Nat) : Int) else ((mxn : Nat) : Int)) = ixn)) (HWxd : Hid (Wa w vxd kxd fxd)) (HFxd : Hid (∀ i, i < kxd → fxd i < 4294967296)) (HVxd : Hid (vl fxd kxd = mxd)) (HQx : Hid (mkRat ixn (mxd + 1) = a)) (HWyn : Hid (Wa w vyn kyn fyn)) (HFyn : Hid (∀ i, i < kyn → fyn i < 4294967296)) (HVyn : Hid (vl fyn kyn = myn)) (HAyn : Hid ((if bbyn then -((myn : Nat) : Int) else ((myn : Nat) : Int)) = iyn)) (HWyd : Hid (Wa w vyd kyd fyd)) (HFyd : Hid (∀ i, i < kyd → fyd i < 4294967296)) (HVyd : Hid (vl fyd kyd = myd)) (HQy : Hid (mkRat iyn (myd + 1) = b)) (HWzn : Hid (Wa w vzn kzn fzn)) (HFzn : Hid (∀ i, i < kzn → fzn i < 4294967296)) (HVzn : Hid (vl fzn kzn = mzn)) (HAzn : Hid ((if bbzn then -((mzn : Nat) : Int) else ((mzn : Nat) : Int)) = izn)) (HWzd : Hid (Wa w vzd kzd fzd)) (HFzd : Hid (∀ i, i < kzd → fzd i < 4294967296)) (HVzd : Hid (vl fzd kzd = mzd)) (HQz : Hid (mkRat izn (mzd + 1) = c)) (hkxn : kxn ≤ 5) (hkxd : 5 < kxd) (HT : Hid (Tab w)) :
    Calls Tryz.prog 10 #[.agg #[.bool bbxn, vxn, vxd], .agg #[.bool bbyn, vyn, vyd], .agg #[.bool bbzn, vzn, vzd]] w fun e w' => e = .returned (.bool true) ∧ Below w.heap.size w w' := by
  obtain ⟨ao_xn, c_xn, rfl⟩ := HWxn.out.slice
  obtain ⟨ao_xd, c_xd, rfl⟩ := HWxd.out.slice
  obtain ⟨ao_yn, c_yn, rfl⟩ := HWyn.out.slice
  obtain ⟨ao_yd, c_yd, rfl⟩ := HWyd.out.slice
  obtain ⟨ao_zn, c_zn, rfl⟩ := HWzn.out.slice
  obtain ⟨ao_zd, c_zd, rfl⟩ := HWzd.out.slice
  go_enter Tryz.func10, Tryz.ntmps10
  have HF := Lib.hid (hp0 w)
  refine kS fun K hK => ?_
  refine wp_region_lit ?_
  go_wp2
  refine hK.out _ _ ?_; clear hK K
  show Code.wp _ _ _ _ _
  refine fH ((((HF.out).al (b := w.heap.size) (by first | rfl | simp) (by decide)).al (b := w.heap.size + 1) (by first | rfl | simp) (by decide)).al (b := w.heap.size + 1 + 1) (by first | rfl | simp) (by decide)) fun Wx0 HG => ?_
  clear HF; have HF := HG; clear HG
  generalize w.heap.size + 1 + 1 = gx2 at *
  generalize w.heap.size + 1 = gx1 at *
  refine wp_seq ?_
  have lx0 := HF.out.c 0 rfl
  have lx1 := HF.out.c 1 rfl
  have lx2 := HF.out.c 2 rfl
  refine kS fun K hK => ?_
  have HG0 : Hid (Gr Wx0 Wx0) := Lib.hid (Gr.refl _)
  refine sq 6 [(true, 0), (true, 1), (true, 2), (false, 3), (true, 4), (true, 5)] fun T hT => ?_
  iterate 3 refine tk ?_
  refine wpPlan_slice (cs := #[.bool (bbxn), (.slice ao_xn kxn c_xn), (.slice ao_xd kxd c_xd), .bool (bbyn), (.slice ao_yn kyn c_yn), (.slice ao_yd kyd c_yd), .bool (bbzn), (.slice ao_zn kzn c_zn), (.slice ao_zd kzd c_zd)]) (E := 88) (n := 3) rfl (by rfl) (fun w' hw => ?_) (fun gx4 vv4 hg0 yx4 bx4 => ?_)
  · go_simp
  clear yx4
  replace HG0 := Lib.hid (HG0.out.trans hg0)
  have HGS := Lib.hid hg0; clear hg0
  clear HGS
  have BX4 := Lib.hid bx4; clear bx4
  clear lx0; have lx0 := fun w' (h : Gr _ w') => HF.out.c 0 rfl w' (HG0.out.trans h)
  clear lx1; have lx1 := fun w' (h : Gr _ w') => HF.out.c 1 rfl w' (HG0.out.trans h)
  clear lx2; have lx2 := fun w' (h : Gr _ w') => HF.out.c 2 rfl w' (HG0.out.trans h)
  simp only [Act.put, lA, lB, lC]
  refine ck Tryz.call53 (fun w' hw => qfew3_no1 _ _ _ _ _ _ _ _ _ _ _ _ _ _ _ _ _ _ _ _ _ 5 gx4 _ (BX4.out.gr hw) (by omega) (by omega)) ?_
  refine tk ?_
  refine wpPlan_nil (hT.out _ _ ?_)
  intro vw1 hg
  simp only [puts, Act.put, lA, lB, lC, lD, lE, ↓reduceIte, Nat.reduceEqDiff]
  have HG := Lib.hid (HF.out.gr (HG0.out.trans hg))
  clear hT T HF hg HG0 BX4 lx0 lx1 lx2
  go_wp2
  refine hK.out _ _ ?_; clear hK K
  show Code.wp _ _ _ _ _
  have HF := HG; clear HG
  refine wp_cond_true (by rfl) ?_
  have HB := HPb HF
  refine kS fun K hK => ?_
  refine sq 2 [(true, 0), (true, 1)] fun T hT => ?_
  refine ck Tryz.call49 (fun w' hw => worksq_any _ (Lib.hid (HT.out.gr (Gr.trans HB.out hw)))) ?_
  refine tk ?_
  refine nlS hT HF fun vw2 HG => ?_
  clear hT T HF HB
  go_wp2
  refine hK.out _ _ ?_; clear hK K
  show Code.wp _ _ _ _ _
  have HF := HG; clear HG
  refine wp_ret ?_
  try simp only [Exit.then, Exit.inBlock]
  exact bodyPost_ret (v := .bool true) (by simp [results, Tryz.results10, go_sem]) rfl ⟨rfl, HF.out.1⟩

set_option maxRecDepth 100000 in
set_option maxHeartbeats 8000000 in
theorem fieldq_big3 (bbxn : Bool) (vxn : Value) (kxn : Nat) (fxn : Nat → Nat) (mxn : Nat) (ixn : Int) (vxd : Value) (kxd : Nat) (fxd : Nat → Nat) (mxd : Nat) (bbyn : Bool) (vyn : Value) (kyn : Nat) (fyn : Nat → Nat) (myn : Nat) (iyn : Int) (vyd : Value) (kyd : Nat) (fyd : Nat → Nat) (myd : Nat) (bbzn : Bool) (vzn : Value) (kzn : Nat) (fzn : Nat → Nat) (mzn : Nat) (izn : Int) (vzd : Value) (kzd : Nat) (fzd : Nat → Nat) (mzd : Nat) (a b c : Rat)  (w : World) (HWxn : Hid (Wa w vxn kxn fxn)) (HFxn : Hid (∀ i, i < kxn → fxn i < 4294967296)) (HVxn : Hid (vl fxn kxn = mxn)) (HAxn : Hid ((if bbxn then -((mxn : Nat) : Int) else ((mxn : Nat) : Int)) = ixn)) (HWxd : Hid (Wa w vxd kxd fxd)) (HFxd : Hid (∀ i, i < kxd → fxd i < 4294967296)) (HVxd : Hid (vl fxd kxd = mxd)) (HQx : Hid (mkRat ixn (mxd + 1) = a)) (HWyn : Hid (Wa w vyn kyn fyn)) (HFyn : Hid (∀ i, i < kyn → fyn i < 4294967296)) (HVyn : Hid (vl fyn kyn = myn)) (HAyn : Hid ((if bbyn then -((myn : Nat) : Int) else ((myn : Nat) : Int)) = iyn)) (HWyd : Hid (Wa w vyd kyd fyd)) (HFyd : Hid (∀ i, i < kyd → fyd i < 4294967296)) (HVyd : Hid (vl fyd kyd = myd)) (HQy : Hid (mkRat iyn (myd + 1) = b)) (HWzn : Hid (Wa w vzn kzn fzn)) (HFzn : Hid (∀ i, i < kzn → fzn i < 4294967296)) (HVzn : Hid (vl fzn kzn = mzn)) (HAzn : Hid ((if bbzn then -((mzn : Nat) : Int) else ((mzn : Nat) : Int)) = izn)) (HWzd : Hid (Wa w vzd kzd fzd)) (HFzd : Hid (∀ i, i < kzd → fzd i < 4294967296)) (HVzd : Hid (vl fzd kzd = mzd)) (HQz : Hid (mkRat izn (mzd + 1) = c)) (hkxn : kxn ≤ 5) (hkxd : kxd ≤ 5) (hkyn : 5 < kyn) (HT : Hid (Tab w)) :
    Calls Tryz.prog 10 #[.agg #[.bool bbxn, vxn, vxd], .agg #[.bool bbyn, vyn, vyd], .agg #[.bool bbzn, vzn, vzd]] w fun e w' => e = .returned (.bool true) ∧ Below w.heap.size w w' := by
  obtain ⟨ao_xn, c_xn, rfl⟩ := HWxn.out.slice
  obtain ⟨ao_xd, c_xd, rfl⟩ := HWxd.out.slice
  obtain ⟨ao_yn, c_yn, rfl⟩ := HWyn.out.slice
  obtain ⟨ao_yd, c_yd, rfl⟩ := HWyd.out.slice
  obtain ⟨ao_zn, c_zn, rfl⟩ := HWzn.out.slice
  obtain ⟨ao_zd, c_zd, rfl⟩ := HWzd.out.slice
  go_enter Tryz.func10, Tryz.ntmps10
  have HF := Lib.hid (hp0 w)
  refine kS fun K hK => ?_
  refine wp_region_lit ?_
  go_wp2
  refine hK.out _ _ ?_; clear hK K
  show Code.wp _ _ _ _ _
  refine fH ((((HF.out).al (b := w.heap.size) (by first | rfl | simp) (by decide)).al (b := w.heap.size + 1) (by first | rfl | simp) (by decide)).al (b := w.heap.size + 1 + 1) (by first | rfl | simp) (by decide)) fun Wx0 HG => ?_
  clear HF; have HF := HG; clear HG
  generalize w.heap.size + 1 + 1 = gx2 at *
  generalize w.heap.size + 1 = gx1 at *
  refine wp_seq ?_
  have lx0 := HF.out.c 0 rfl
  have lx1 := HF.out.c 1 rfl
  have lx2 := HF.out.c 2 rfl
  refine kS fun K hK => ?_
  have HG0 : Hid (Gr Wx0 Wx0) := Lib.hid (Gr.refl _)
  refine sq 6 [(true, 0), (true, 1), (true, 2), (false, 3), (true, 4), (true, 5)] fun T hT => ?_
  iterate 3 refine tk ?_
  refine wpPlan_slice (cs := #[.bool (bbxn), (.slice ao_xn kxn c_xn), (.slice ao_xd kxd c_xd), .bool (bbyn), (.slice ao_yn kyn c_yn), (.slice ao_yd kyd c_yd), .bool (bbzn), (.slice ao_zn kzn c_zn), (.slice ao_zd kzd c_zd)]) (E := 88) (n := 3) rfl (by rfl) (fun w' hw => ?_) (fun gx4 vv4 hg0 yx4 bx4 => ?_)
  · go_simp
  clear yx4
  replace HG0 := Lib.hid (HG0.out.trans hg0)
  have HGS := Lib.hid hg0; clear hg0
  clear HGS
  have BX4 := Lib.hid bx4; clear bx4
  clear lx0; have lx0 := fun w' (h : Gr _ w') => HF.out.c 0 rfl w' (HG0.out.trans h)
  clear lx1; have lx1 := fun w' (h : Gr _ w') => HF.out.c 1 rfl w' (HG0.out.trans h)
  clear lx2; have lx2 := fun w' (h : Gr _ w') => HF.out.c 2 rfl w' (HG0.out.trans h)
  simp only [Act.put, lA, lB, lC]
  refine ck Tryz.call53 (fun w' hw => qfew3_no2 _ _ _ _ _ _ _ _ _ _ _ _ _ _ _ _ _ _ _ _ _ 5 gx4 _ (BX4.out.gr hw) (by omega) (by omega) (by omega)) ?_
  refine tk ?_
  refine wpPlan_nil (hT.out _ _ ?_)
  intro vw1 hg
  simp only [puts, Act.put, lA, lB, lC, lD, lE, ↓reduceIte, Nat.reduceEqDiff]
  have HG := Lib.hid (HF.out.gr (HG0.out.trans hg))
  clear hT T HF hg HG0 BX4 lx0 lx1 lx2
  go_wp2
  refine hK.out _ _ ?_; clear hK K
  show Code.wp _ _ _ _ _
  have HF := HG; clear HG
  refine wp_cond_true (by rfl) ?_
  have HB := HPb HF
  refine kS fun K hK => ?_
  refine sq 2 [(true, 0), (true, 1)] fun T hT => ?_
  refine ck Tryz.call49 (fun w' hw => worksq_any _ (Lib.hid (HT.out.gr (Gr.trans HB.out hw)))) ?_
  refine tk ?_
  refine nlS hT HF fun vw2 HG => ?_
  clear hT T HF HB
  go_wp2
  refine hK.out _ _ ?_; clear hK K
  show Code.wp _ _ _ _ _
  have HF := HG; clear HG
  refine wp_ret ?_
  try simp only [Exit.then, Exit.inBlock]
  exact bodyPost_ret (v := .bool true) (by simp [results, Tryz.results10, go_sem]) rfl ⟨rfl, HF.out.1⟩

set_option maxRecDepth 100000 in
set_option maxHeartbeats 8000000 in
theorem fieldq_big4 (bbxn : Bool) (vxn : Value) (kxn : Nat) (fxn : Nat → Nat) (mxn : Nat) (ixn : Int) (vxd : Value) (kxd : Nat) (fxd : Nat → Nat) (mxd : Nat) (bbyn : Bool) (vyn : Value) (kyn : Nat) (fyn : Nat → Nat) (myn : Nat) (iyn : Int) (vyd : Value) (kyd : Nat) (fyd : Nat → Nat) (myd : Nat) (bbzn : Bool) (vzn : Value) (kzn : Nat) (fzn : Nat → Nat) (mzn : Nat) (izn : Int) (vzd : Value) (kzd : Nat) (fzd : Nat → Nat) (mzd : Nat) (a b c : Rat)  (w : World) (HWxn : Hid (Wa w vxn kxn fxn)) (HFxn : Hid (∀ i, i < kxn → fxn i < 4294967296)) (HVxn : Hid (vl fxn kxn = mxn)) (HAxn : Hid ((if bbxn then -((mxn : Nat) : Int) else ((mxn : Nat) : Int)) = ixn)) (HWxd : Hid (Wa w vxd kxd fxd)) (HFxd : Hid (∀ i, i < kxd → fxd i < 4294967296)) (HVxd : Hid (vl fxd kxd = mxd)) (HQx : Hid (mkRat ixn (mxd + 1) = a)) (HWyn : Hid (Wa w vyn kyn fyn)) (HFyn : Hid (∀ i, i < kyn → fyn i < 4294967296)) (HVyn : Hid (vl fyn kyn = myn)) (HAyn : Hid ((if bbyn then -((myn : Nat) : Int) else ((myn : Nat) : Int)) = iyn)) (HWyd : Hid (Wa w vyd kyd fyd)) (HFyd : Hid (∀ i, i < kyd → fyd i < 4294967296)) (HVyd : Hid (vl fyd kyd = myd)) (HQy : Hid (mkRat iyn (myd + 1) = b)) (HWzn : Hid (Wa w vzn kzn fzn)) (HFzn : Hid (∀ i, i < kzn → fzn i < 4294967296)) (HVzn : Hid (vl fzn kzn = mzn)) (HAzn : Hid ((if bbzn then -((mzn : Nat) : Int) else ((mzn : Nat) : Int)) = izn)) (HWzd : Hid (Wa w vzd kzd fzd)) (HFzd : Hid (∀ i, i < kzd → fzd i < 4294967296)) (HVzd : Hid (vl fzd kzd = mzd)) (HQz : Hid (mkRat izn (mzd + 1) = c)) (hkxn : kxn ≤ 5) (hkxd : kxd ≤ 5) (hkyn : kyn ≤ 5) (hkyd : 5 < kyd) (HT : Hid (Tab w)) :
    Calls Tryz.prog 10 #[.agg #[.bool bbxn, vxn, vxd], .agg #[.bool bbyn, vyn, vyd], .agg #[.bool bbzn, vzn, vzd]] w fun e w' => e = .returned (.bool true) ∧ Below w.heap.size w w' := by
  obtain ⟨ao_xn, c_xn, rfl⟩ := HWxn.out.slice
  obtain ⟨ao_xd, c_xd, rfl⟩ := HWxd.out.slice
  obtain ⟨ao_yn, c_yn, rfl⟩ := HWyn.out.slice
  obtain ⟨ao_yd, c_yd, rfl⟩ := HWyd.out.slice
  obtain ⟨ao_zn, c_zn, rfl⟩ := HWzn.out.slice
  obtain ⟨ao_zd, c_zd, rfl⟩ := HWzd.out.slice
  go_enter Tryz.func10, Tryz.ntmps10
  have HF := Lib.hid (hp0 w)
  refine kS fun K hK => ?_
  refine wp_region_lit ?_
  go_wp2
  refine hK.out _ _ ?_; clear hK K
  show Code.wp _ _ _ _ _
  refine fH ((((HF.out).al (b := w.heap.size) (by first | rfl | simp) (by decide)).al (b := w.heap.size + 1) (by first | rfl | simp) (by decide)).al (b := w.heap.size + 1 + 1) (by first | rfl | simp) (by decide)) fun Wx0 HG => ?_
  clear HF; have HF := HG; clear HG
  generalize w.heap.size + 1 + 1 = gx2 at *
  generalize w.heap.size + 1 = gx1 at *
  refine wp_seq ?_
  have lx0 := HF.out.c 0 rfl
  have lx1 := HF.out.c 1 rfl
  have lx2 := HF.out.c 2 rfl
  refine kS fun K hK => ?_
  have HG0 : Hid (Gr Wx0 Wx0) := Lib.hid (Gr.refl _)
  refine sq 6 [(true, 0), (true, 1), (true, 2), (false, 3), (true, 4), (true, 5)] fun T hT => ?_
  iterate 3 refine tk ?_
  refine wpPlan_slice (cs := #[.bool (bbxn), (.slice ao_xn kxn c_xn), (.slice ao_xd kxd c_xd), .bool (bbyn), (.slice ao_yn kyn c_yn), (.slice ao_yd kyd c_yd), .bool (bbzn), (.slice ao_zn kzn c_zn), (.slice ao_zd kzd c_zd)]) (E := 88) (n := 3) rfl (by rfl) (fun w' hw => ?_) (fun gx4 vv4 hg0 yx4 bx4 => ?_)
  · go_simp
  clear yx4
  replace HG0 := Lib.hid (HG0.out.trans hg0)
  have HGS := Lib.hid hg0; clear hg0
  clear HGS
  have BX4 := Lib.hid bx4; clear bx4
  clear lx0; have lx0 := fun w' (h : Gr _ w') => HF.out.c 0 rfl w' (HG0.out.trans h)
  clear lx1; have lx1 := fun w' (h : Gr _ w') => HF.out.c 1 rfl w' (HG0.out.trans h)
  clear lx2; have lx2 := fun w' (h : Gr _ w') => HF.out.c 2 rfl w' (HG0.out.trans h)
  simp only [Act.put, lA, lB, lC]
  refine ck Tryz.call53 (fun w' hw => qfew3_no3 _ _ _ _ _ _ _ _ _ _ _ _ _ _ _ _ _ _ _ _ _ 5 gx4 _ (BX4.out.gr hw) (by omega) (by omega) (by omega) (by omega)) ?_
  refine tk ?_
  refine wpPlan_nil (hT.out _ _ ?_)
  intro vw1 hg
  simp only [puts, Act.put, lA, lB, lC, lD, lE, ↓reduceIte, Nat.reduceEqDiff]
  have HG := Lib.hid (HF.out.gr (HG0.out.trans hg))
  clear hT T HF hg HG0 BX4 lx0 lx1 lx2
  go_wp2
  refine hK.out _ _ ?_; clear hK K
  show Code.wp _ _ _ _ _
  have HF := HG; clear HG
  refine wp_cond_true (by rfl) ?_
  have HB := HPb HF
  refine kS fun K hK => ?_
  refine sq 2 [(true, 0), (true, 1)] fun T hT => ?_
  refine ck Tryz.call49 (fun w' hw => worksq_any _ (Lib.hid (HT.out.gr (Gr.trans HB.out hw)))) ?_
  refine tk ?_
  refine nlS hT HF fun vw2 HG => ?_
  clear hT T HF HB
  go_wp2
  refine hK.out _ _ ?_; clear hK K
  show Code.wp _ _ _ _ _
  have HF := HG; clear HG
  refine wp_ret ?_
  try simp only [Exit.then, Exit.inBlock]
  exact bodyPost_ret (v := .bool true) (by simp [results, Tryz.results10, go_sem]) rfl ⟨rfl, HF.out.1⟩

set_option maxRecDepth 100000 in
set_option maxHeartbeats 8000000 in
theorem fieldq_big5 (bbxn : Bool) (vxn : Value) (kxn : Nat) (fxn : Nat → Nat) (mxn : Nat) (ixn : Int) (vxd : Value) (kxd : Nat) (fxd : Nat → Nat) (mxd : Nat) (bbyn : Bool) (vyn : Value) (kyn : Nat) (fyn : Nat → Nat) (myn : Nat) (iyn : Int) (vyd : Value) (kyd : Nat) (fyd : Nat → Nat) (myd : Nat) (bbzn : Bool) (vzn : Value) (kzn : Nat) (fzn : Nat → Nat) (mzn : Nat) (izn : Int) (vzd : Value) (kzd : Nat) (fzd : Nat → Nat) (mzd : Nat) (a b c : Rat)  (w : World) (HWxn : Hid (Wa w vxn kxn fxn)) (HFxn : Hid (∀ i, i < kxn → fxn i < 4294967296)) (HVxn : Hid (vl fxn kxn = mxn)) (HAxn : Hid ((if bbxn then -((mxn : Nat) : Int) else ((mxn : Nat) : Int)) = ixn)) (HWxd : Hid (Wa w vxd kxd fxd)) (HFxd : Hid (∀ i, i < kxd → fxd i < 4294967296)) (HVxd : Hid (vl fxd kxd = mxd)) (HQx : Hid (mkRat ixn (mxd + 1) = a)) (HWyn : Hid (Wa w vyn kyn fyn)) (HFyn : Hid (∀ i, i < kyn → fyn i < 4294967296)) (HVyn : Hid (vl fyn kyn = myn)) (HAyn : Hid ((if bbyn then -((myn : Nat) : Int) else ((myn : Nat) : Int)) = iyn)) (HWyd : Hid (Wa w vyd kyd fyd)) (HFyd : Hid (∀ i, i < kyd → fyd i < 4294967296)) (HVyd : Hid (vl fyd kyd = myd)) (HQy : Hid (mkRat iyn (myd + 1) = b)) (HWzn : Hid (Wa w vzn kzn fzn)) (HFzn : Hid (∀ i, i < kzn → fzn i < 4294967296)) (HVzn : Hid (vl fzn kzn = mzn)) (HAzn : Hid ((if bbzn then -((mzn : Nat) : Int) else ((mzn : Nat) : Int)) = izn)) (HWzd : Hid (Wa w vzd kzd fzd)) (HFzd : Hid (∀ i, i < kzd → fzd i < 4294967296)) (HVzd : Hid (vl fzd kzd = mzd)) (HQz : Hid (mkRat izn (mzd + 1) = c)) (hkxn : kxn ≤ 5) (hkxd : kxd ≤ 5) (hkyn : kyn ≤ 5) (hkyd : kyd ≤ 5) (hkzn : 5 < kzn) (HT : Hid (Tab w)) :
    Calls Tryz.prog 10 #[.agg #[.bool bbxn, vxn, vxd], .agg #[.bool bbyn, vyn, vyd], .agg #[.bool bbzn, vzn, vzd]] w fun e w' => e = .returned (.bool true) ∧ Below w.heap.size w w' := by
  obtain ⟨ao_xn, c_xn, rfl⟩ := HWxn.out.slice
  obtain ⟨ao_xd, c_xd, rfl⟩ := HWxd.out.slice
  obtain ⟨ao_yn, c_yn, rfl⟩ := HWyn.out.slice
  obtain ⟨ao_yd, c_yd, rfl⟩ := HWyd.out.slice
  obtain ⟨ao_zn, c_zn, rfl⟩ := HWzn.out.slice
  obtain ⟨ao_zd, c_zd, rfl⟩ := HWzd.out.slice
  go_enter Tryz.func10, Tryz.ntmps10
  have HF := Lib.hid (hp0 w)
  refine kS fun K hK => ?_
  refine wp_region_lit ?_
  go_wp2
  refine hK.out _ _ ?_; clear hK K
  show Code.wp _ _ _ _ _
  refine fH ((((HF.out).al (b := w.heap.size) (by first | rfl | simp) (by decide)).al (b := w.heap.size + 1) (by first | rfl | simp) (by decide)).al (b := w.heap.size + 1 + 1) (by first | rfl | simp) (by decide)) fun Wx0 HG => ?_
  clear HF; have HF := HG; clear HG
  generalize w.heap.size + 1 + 1 = gx2 at *
  generalize w.heap.size + 1 = gx1 at *
  refine wp_seq ?_
  have lx0 := HF.out.c 0 rfl
  have lx1 := HF.out.c 1 rfl
  have lx2 := HF.out.c 2 rfl
  refine kS fun K hK => ?_
  have HG0 : Hid (Gr Wx0 Wx0) := Lib.hid (Gr.refl _)
  refine sq 6 [(true, 0), (true, 1), (true, 2), (false, 3), (true, 4), (true, 5)] fun T hT => ?_
  iterate 3 refine tk ?_
  refine wpPlan_slice (cs := #[.bool (bbxn), (.slice ao_xn kxn c_xn), (.slice ao_xd kxd c_xd), .bool (bbyn), (.slice ao_yn kyn c_yn), (.slice ao_yd kyd c_yd), .bool (bbzn), (.slice ao_zn kzn c_zn), (.slice ao_zd kzd c_zd)]) (E := 88) (n := 3) rfl (by rfl) (fun w' hw => ?_) (fun gx4 vv4 hg0 yx4 bx4 => ?_)
  · go_simp
  clear yx4
  replace HG0 := Lib.hid (HG0.out.trans hg0)
  have HGS := Lib.hid hg0; clear hg0
  clear HGS
  have BX4 := Lib.hid bx4; clear bx4
  clear lx0; have lx0 := fun w' (h : Gr _ w') => HF.out.c 0 rfl w' (HG0.out.trans h)
  clear lx1; have lx1 := fun w' (h : Gr _ w') => HF.out.c 1 rfl w' (HG0.out.trans h)
  clear lx2; have lx2 := fun w' (h : Gr _ w') => HF.out.c 2 rfl w' (HG0.out.trans h)
  simp only [Act.put, lA, lB, lC]
  refine ck Tryz.call53 (fun w' hw => qfew3_no4 _ _ _ _ _ _ _ _ _ _ _ _ _ _ _ _ _ _ _ _ _ 5 gx4 _ (BX4.out.gr hw) (by omega) (by omega) (by omega) (by omega) (by omega)) ?_
  refine tk ?_
  refine wpPlan_nil (hT.out _ _ ?_)
  intro vw1 hg
  simp only [puts, Act.put, lA, lB, lC, lD, lE, ↓reduceIte, Nat.reduceEqDiff]
  have HG := Lib.hid (HF.out.gr (HG0.out.trans hg))
  clear hT T HF hg HG0 BX4 lx0 lx1 lx2
  go_wp2
  refine hK.out _ _ ?_; clear hK K
  show Code.wp _ _ _ _ _
  have HF := HG; clear HG
  refine wp_cond_true (by rfl) ?_
  have HB := HPb HF
  refine kS fun K hK => ?_
  refine sq 2 [(true, 0), (true, 1)] fun T hT => ?_
  refine ck Tryz.call49 (fun w' hw => worksq_any _ (Lib.hid (HT.out.gr (Gr.trans HB.out hw)))) ?_
  refine tk ?_
  refine nlS hT HF fun vw2 HG => ?_
  clear hT T HF HB
  go_wp2
  refine hK.out _ _ ?_; clear hK K
  show Code.wp _ _ _ _ _
  have HF := HG; clear HG
  refine wp_ret ?_
  try simp only [Exit.then, Exit.inBlock]
  exact bodyPost_ret (v := .bool true) (by simp [results, Tryz.results10, go_sem]) rfl ⟨rfl, HF.out.1⟩

set_option maxRecDepth 100000 in
set_option maxHeartbeats 8000000 in
theorem fieldq_big6 (bbxn : Bool) (vxn : Value) (kxn : Nat) (fxn : Nat → Nat) (mxn : Nat) (ixn : Int) (vxd : Value) (kxd : Nat) (fxd : Nat → Nat) (mxd : Nat) (bbyn : Bool) (vyn : Value) (kyn : Nat) (fyn : Nat → Nat) (myn : Nat) (iyn : Int) (vyd : Value) (kyd : Nat) (fyd : Nat → Nat) (myd : Nat) (bbzn : Bool) (vzn : Value) (kzn : Nat) (fzn : Nat → Nat) (mzn : Nat) (izn : Int) (vzd : Value) (kzd : Nat) (fzd : Nat → Nat) (mzd : Nat) (a b c : Rat)  (w : World) (HWxn : Hid (Wa w vxn kxn fxn)) (HFxn : Hid (∀ i, i < kxn → fxn i < 4294967296)) (HVxn : Hid (vl fxn kxn = mxn)) (HAxn : Hid ((if bbxn then -((mxn : Nat) : Int) else ((mxn : Nat) : Int)) = ixn)) (HWxd : Hid (Wa w vxd kxd fxd)) (HFxd : Hid (∀ i, i < kxd → fxd i < 4294967296)) (HVxd : Hid (vl fxd kxd = mxd)) (HQx : Hid (mkRat ixn (mxd + 1) = a)) (HWyn : Hid (Wa w vyn kyn fyn)) (HFyn : Hid (∀ i, i < kyn → fyn i < 4294967296)) (HVyn : Hid (vl fyn kyn = myn)) (HAyn : Hid ((if bbyn then -((myn : Nat) : Int) else ((myn : Nat) : Int)) = iyn)) (HWyd : Hid (Wa w vyd kyd fyd)) (HFyd : Hid (∀ i, i < kyd → fyd i < 4294967296)) (HVyd : Hid (vl fyd kyd = myd)) (HQy : Hid (mkRat iyn (myd + 1) = b)) (HWzn : Hid (Wa w vzn kzn fzn)) (HFzn : Hid (∀ i, i < kzn → fzn i < 4294967296)) (HVzn : Hid (vl fzn kzn = mzn)) (HAzn : Hid ((if bbzn then -((mzn : Nat) : Int) else ((mzn : Nat) : Int)) = izn)) (HWzd : Hid (Wa w vzd kzd fzd)) (HFzd : Hid (∀ i, i < kzd → fzd i < 4294967296)) (HVzd : Hid (vl fzd kzd = mzd)) (HQz : Hid (mkRat izn (mzd + 1) = c)) (hkxn : kxn ≤ 5) (hkxd : kxd ≤ 5) (hkyn : kyn ≤ 5) (hkyd : kyd ≤ 5) (hkzn : kzn ≤ 5) (hkzd : 5 < kzd) (HT : Hid (Tab w)) :
    Calls Tryz.prog 10 #[.agg #[.bool bbxn, vxn, vxd], .agg #[.bool bbyn, vyn, vyd], .agg #[.bool bbzn, vzn, vzd]] w fun e w' => e = .returned (.bool true) ∧ Below w.heap.size w w' := by
  obtain ⟨ao_xn, c_xn, rfl⟩ := HWxn.out.slice
  obtain ⟨ao_xd, c_xd, rfl⟩ := HWxd.out.slice
  obtain ⟨ao_yn, c_yn, rfl⟩ := HWyn.out.slice
  obtain ⟨ao_yd, c_yd, rfl⟩ := HWyd.out.slice
  obtain ⟨ao_zn, c_zn, rfl⟩ := HWzn.out.slice
  obtain ⟨ao_zd, c_zd, rfl⟩ := HWzd.out.slice
  go_enter Tryz.func10, Tryz.ntmps10
  have HF := Lib.hid (hp0 w)
  refine kS fun K hK => ?_
  refine wp_region_lit ?_
  go_wp2
  refine hK.out _ _ ?_; clear hK K
  show Code.wp _ _ _ _ _
  refine fH ((((HF.out).al (b := w.heap.size) (by first | rfl | simp) (by decide)).al (b := w.heap.size + 1) (by first | rfl | simp) (by decide)).al (b := w.heap.size + 1 + 1) (by first | rfl | simp) (by decide)) fun Wx0 HG => ?_
  clear HF; have HF := HG; clear HG
  generalize w.heap.size + 1 + 1 = gx2 at *
  generalize w.heap.size + 1 = gx1 at *
  refine wp_seq ?_
  have lx0 := HF.out.c 0 rfl
  have lx1 := HF.out.c 1 rfl
  have lx2 := HF.out.c 2 rfl
  refine kS fun K hK => ?_
  have HG0 : Hid (Gr Wx0 Wx0) := Lib.hid (Gr.refl _)
  refine sq 6 [(true, 0), (true, 1), (true, 2), (false, 3), (true, 4), (true, 5)] fun T hT => ?_
  iterate 3 refine tk ?_
  refine wpPlan_slice (cs := #[.bool (bbxn), (.slice ao_xn kxn c_xn), (.slice ao_xd kxd c_xd), .bool (bbyn), (.slice ao_yn kyn c_yn), (.slice ao_yd kyd c_yd), .bool (bbzn), (.slice ao_zn kzn c_zn), (.slice ao_zd kzd c_zd)]) (E := 88) (n := 3) rfl (by rfl) (fun w' hw => ?_) (fun gx4 vv4 hg0 yx4 bx4 => ?_)
  · go_simp
  clear yx4
  replace HG0 := Lib.hid (HG0.out.trans hg0)
  have HGS := Lib.hid hg0; clear hg0
  clear HGS
  have BX4 := Lib.hid bx4; clear bx4
  clear lx0; have lx0 := fun w' (h : Gr _ w') => HF.out.c 0 rfl w' (HG0.out.trans h)
  clear lx1; have lx1 := fun w' (h : Gr _ w') => HF.out.c 1 rfl w' (HG0.out.trans h)
  clear lx2; have lx2 := fun w' (h : Gr _ w') => HF.out.c 2 rfl w' (HG0.out.trans h)
  simp only [Act.put, lA, lB, lC]
  refine ck Tryz.call53 (fun w' hw => qfew3_no5 _ _ _ _ _ _ _ _ _ _ _ _ _ _ _ _ _ _ _ _ _ 5 gx4 _ (BX4.out.gr hw) (by omega) (by omega) (by omega) (by omega) (by omega) (by omega)) ?_
  refine tk ?_
  refine wpPlan_nil (hT.out _ _ ?_)
  intro vw1 hg
  simp only [puts, Act.put, lA, lB, lC, lD, lE, ↓reduceIte, Nat.reduceEqDiff]
  have HG := Lib.hid (HF.out.gr (HG0.out.trans hg))
  clear hT T HF hg HG0 BX4 lx0 lx1 lx2
  go_wp2
  refine hK.out _ _ ?_; clear hK K
  show Code.wp _ _ _ _ _
  have HF := HG; clear HG
  refine wp_cond_true (by rfl) ?_
  have HB := HPb HF
  refine kS fun K hK => ?_
  refine sq 2 [(true, 0), (true, 1)] fun T hT => ?_
  refine ck Tryz.call49 (fun w' hw => worksq_any _ (Lib.hid (HT.out.gr (Gr.trans HB.out hw)))) ?_
  refine tk ?_
  refine nlS hT HF fun vw2 HG => ?_
  clear hT T HF HB
  go_wp2
  refine hK.out _ _ ?_; clear hK K
  show Code.wp _ _ _ _ _
  have HF := HG; clear HG
  refine wp_ret ?_
  try simp only [Exit.then, Exit.inBlock]
  exact bodyPost_ret (v := .bool true) (by simp [results, Tryz.results10, go_sem]) rfl ⟨rfl, HF.out.1⟩

theorem fieldq_law (bbxn : Bool) (vxn : Value) (kxn : Nat) (fxn : Nat → Nat) (vxd : Value) (kxd : Nat) (fxd : Nat → Nat) (bbyn : Bool) (vyn : Value) (kyn : Nat) (fyn : Nat → Nat) (vyd : Value) (kyd : Nat) (fyd : Nat → Nat) (bbzn : Bool) (vzn : Value) (kzn : Nat) (fzn : Nat → Nat) (vzd : Value) (kzd : Nat) (fzd : Nat → Nat)  (w : World) (HWxn : Hid (Wa w vxn kxn fxn)) (HFxn : Hid (∀ i, i < kxn → fxn i < 4294967296)) (HWxd : Hid (Wa w vxd kxd fxd)) (HFxd : Hid (∀ i, i < kxd → fxd i < 4294967296)) (HWyn : Hid (Wa w vyn kyn fyn)) (HFyn : Hid (∀ i, i < kyn → fyn i < 4294967296)) (HWyd : Hid (Wa w vyd kyd fyd)) (HFyd : Hid (∀ i, i < kyd → fyd i < 4294967296)) (HWzn : Hid (Wa w vzn kzn fzn)) (HFzn : Hid (∀ i, i < kzn → fzn i < 4294967296)) (HWzd : Hid (Wa w vzd kzd fzd)) (HFzd : Hid (∀ i, i < kzd → fzd i < 4294967296))  (HT : Hid (Tab w)) :
    Calls Tryz.prog 10 #[.agg #[.bool bbxn, vxn, vxd], .agg #[.bool bbyn, vyn, vyd], .agg #[.bool bbzn, vzn, vzd]] w fun e w' => e = .returned (.bool true) ∧ Below w.heap.size w w' := by
  obtain ⟨ixn, HAxn⟩ : ∃ z, Hid ((if bbxn then -((vl fxn kxn : Nat) : Int) else ((vl fxn kxn : Nat) : Int)) = z) := ⟨_, Lib.hid rfl⟩
  obtain ⟨a, HQx⟩ : ∃ z, Hid (mkRat ixn (vl fxd kxd + 1) = z) := ⟨_, Lib.hid rfl⟩
  obtain ⟨iyn, HAyn⟩ : ∃ z, Hid ((if bbyn then -((vl fyn kyn : Nat) : Int) else ((vl fyn kyn : Nat) : Int)) = z) := ⟨_, Lib.hid rfl⟩
  obtain ⟨b, HQy⟩ : ∃ z, Hid (mkRat iyn (vl fyd kyd + 1) = z) := ⟨_, Lib.hid rfl⟩
  obtain ⟨izn, HAzn⟩ : ∃ z, Hid ((if bbzn then -((vl fzn kzn : Nat) : Int) else ((vl fzn kzn : Nat) : Int)) = z) := ⟨_, Lib.hid rfl⟩
  obtain ⟨c, HQz⟩ : ∃ z, Hid (mkRat izn (vl fzd kzd + 1) = z) := ⟨_, Lib.hid rfl⟩
  by_cases hkxn : kxn ≤ 5
  · skip
    by_cases hkxd : kxd ≤ 5
    · skip
      by_cases hkyn : kyn ≤ 5
      · skip
        by_cases hkyd : kyd ≤ 5
        · skip
          by_cases hkzn : kzn ≤ 5
          · skip
            by_cases hkzd : kzd ≤ 5
            · skip
              by_cases hb : b = 0
              · subst hb
                exact fieldq_z bbxn vxn kxn fxn _ ixn vxd kxd fxd _ bbyn vyn kyn fyn _ iyn vyd kyd fyd _ bbzn vzn kzn fzn _ izn vzd kzd fzd _ a c _ _ _ _ w HWxn HFxn (Lib.hid rfl) HAxn HWxd HFxd (Lib.hid rfl) HQx HWyn HFyn (Lib.hid rfl) HAyn HWyd HFyd (Lib.hid rfl) HQy HWzn HFzn (Lib.hid rfl) HAzn HWzd HFzd (Lib.hid rfl) HQz hkxn hkxd hkyn hkyd hkzn hkzd (Lib.hid rfl) (Lib.hid rfl) (Lib.hid rfl) (Lib.hid (sgQ_flip _ _)) (Lib.hid rfl) (sgQ_pone _ _).1 (sgQ_pone _ _).2 (sgQ_one _).1 (sgQ_one _).2 HT
              · exact fieldq_ne bbxn vxn kxn fxn _ ixn vxd kxd fxd _ bbyn vyn kyn fyn _ iyn vyd kyd fyd _ bbzn vzn kzn fzn _ izn vzd kzd fzd _ a b c _ _ _ _ _ w HWxn HFxn (Lib.hid rfl) HAxn HWxd HFxd (Lib.hid rfl) HQx HWyn HFyn (Lib.hid rfl) HAyn HWyd HFyd (Lib.hid rfl) HQy HWzn HFzn (Lib.hid rfl) HAzn HWzd HFzd (Lib.hid rfl) HQz hkxn hkxd hkyn hkyd hkzn hkzd hb (Lib.hid rfl) (Lib.hid rfl) (Lib.hid rfl) (Lib.hid (sgQ_flip _ _)) (Lib.hid rfl) (sgQ_pone _ _).1 (sgQ_pone _ _).2 (sgQ_one _).1 (sgQ_one _).2 (Lib.hid rfl) (sgQ_ne hb) HT
            · exact fieldq_big6 bbxn vxn kxn fxn _ ixn vxd kxd fxd _ bbyn vyn kyn fyn _ iyn vyd kyd fyd _ bbzn vzn kzn fzn _ izn vzd kzd fzd _ a b c  w HWxn HFxn (Lib.hid rfl) HAxn HWxd HFxd (Lib.hid rfl) HQx HWyn HFyn (Lib.hid rfl) HAyn HWyd HFyd (Lib.hid rfl) HQy HWzn HFzn (Lib.hid rfl) HAzn HWzd HFzd (Lib.hid rfl) HQz  hkxn hkxd hkyn hkyd hkzn (by omega) HT
          · exact fieldq_big5 bbxn vxn kxn fxn _ ixn vxd kxd fxd _ bbyn vyn kyn fyn _ iyn vyd kyd fyd _ bbzn vzn kzn fzn _ izn vzd kzd fzd _ a b c  w HWxn HFxn (Lib.hid rfl) HAxn HWxd HFxd (Lib.hid rfl) HQx HWyn HFyn (Lib.hid rfl) HAyn HWyd HFyd (Lib.hid rfl) HQy HWzn HFzn (Lib.hid rfl) HAzn HWzd HFzd (Lib.hid rfl) HQz  hkxn hkxd hkyn hkyd (by omega) HT
        · exact fieldq_big4 bbxn vxn kxn fxn _ ixn vxd kxd fxd _ bbyn vyn kyn fyn _ iyn vyd kyd fyd _ bbzn vzn kzn fzn _ izn vzd kzd fzd _ a b c  w HWxn HFxn (Lib.hid rfl) HAxn HWxd HFxd (Lib.hid rfl) HQx HWyn HFyn (Lib.hid rfl) HAyn HWyd HFyd (Lib.hid rfl) HQy HWzn HFzn (Lib.hid rfl) HAzn HWzd HFzd (Lib.hid rfl) HQz  hkxn hkxd hkyn (by omega) HT
      · exact fieldq_big3 bbxn vxn kxn fxn _ ixn vxd kxd fxd _ bbyn vyn kyn fyn _ iyn vyd kyd fyd _ bbzn vzn kzn fzn _ izn vzd kzd fzd _ a b c  w HWxn HFxn (Lib.hid rfl) HAxn HWxd HFxd (Lib.hid rfl) HQx HWyn HFyn (Lib.hid rfl) HAyn HWyd HFyd (Lib.hid rfl) HQy HWzn HFzn (Lib.hid rfl) HAzn HWzd HFzd (Lib.hid rfl) HQz  hkxn hkxd (by omega) HT
    · exact fieldq_big2 bbxn vxn kxn fxn _ ixn vxd kxd fxd _ bbyn vyn kyn fyn _ iyn vyd kyd fyd _ bbzn vzn kzn fzn _ izn vzd kzd fzd _ a b c  w HWxn HFxn (Lib.hid rfl) HAxn HWxd HFxd (Lib.hid rfl) HQx HWyn HFyn (Lib.hid rfl) HAyn HWyd HFyd (Lib.hid rfl) HQy HWzn HFzn (Lib.hid rfl) HAzn HWzd HFzd (Lib.hid rfl) HQz  hkxn (by omega) HT
  · exact fieldq_big1 bbxn vxn kxn fxn _ ixn vxd kxd fxd _ bbyn vyn kyn fyn _ iyn vyd kyd fyd _ bbzn vzn kzn fzn _ izn vzd kzd fzd _ a b c  w HWxn HFxn (Lib.hid rfl) HAxn HWxd HFxd (Lib.hid rfl) HQx HWyn HFyn (Lib.hid rfl) HAyn HWyd HFyd (Lib.hid rfl) HQy HWzn HFzn (Lib.hid rfl) HAzn HWzd HFzd (Lib.hid rfl) HQz   (by omega) HT

end Go.Proofs.YtpcfncbcpknobaaGreatDoor
