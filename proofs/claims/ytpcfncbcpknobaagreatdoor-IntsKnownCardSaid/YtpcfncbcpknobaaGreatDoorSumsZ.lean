
/- IntsSums: the law's walk. -/
import Derived.Test.YtpcfncbcpknobaaGreatDoorWorksZ
namespace Go.Proofs.YtpcfncbcpknobaaGreatDoor
open Go.RowKit
set_option linter.unusedSimpArgs false
set_option linter.unusedVariables false
attribute [local go_sem ↓] Go.wp_at_zero Go.wp_at_succ
attribute [local go_sem ↓] eq_nat eq_nat_zero eq_int
set_option maxRecDepth 100000 in
set_option maxHeartbeats 8000000 in
theorem sumz_lt (bbx : Bool) (vx : Value) (kx : Nat) (fx : Nat → Nat) (mx : Nat) (bby : Bool) (vy : Value) (ky : Nat) (fy : Nat → Nat) (my : Nat) (a b : Int) (s : Int) (tx : ByteArray) (w : World) (HWx : Hid (Wa w vx kx fx)) (HFx : Hid (∀ i, i < kx → fx i < 4294967296)) (HVx : Hid (vl fx kx = mx)) (HAx : Hid ((if bbx then -((mx : Nat) : Int) else ((mx : Nat) : Int)) = a)) (HWy : Hid (Wa w vy ky fy)) (HFy : Hid (∀ i, i < ky → fy i < 4294967296)) (HVy : Hid (vl fy ky = my)) (HAy : Hid ((if bby then -((my : Nat) : Int) else ((my : Nat) : Int)) = b)) (hkx : kx ≤ 16) (hky : ky ≤ 16) (hlt : a < b) (HSA : Hid (sgI a = s)) (HTX : Hid ((⟨(Lib.decDigits (Int.natAbs a)).toArray⟩ : ByteArray) = tx)) (HT : Hid (Tab w)) :
    Calls Tryz.prog 15 #[.agg #[.bool bbx, vx], .agg #[.bool bby, vy]] w fun e w' => e = .returned (.bool true) ∧ Below w.heap.size w w' := by
  obtain ⟨ao_x, c_x, rfl⟩ := HWx.out.slice
  obtain ⟨ao_y, c_y, rfl⟩ := HWy.out.slice
  have hm_x : wl mx ≤ 16 := by rw [← HVx.out]; have := wl_le.2 (vl_lt HFx.out); omega
  have hb_x : wl (Int.natAbs (a)) ≤ 16 := by rw [zsize HAx.out]; exact hm_x
  have ht_x : tw (Int.natAbs (a)) ≤ 48 := by have := tw_wl (Int.natAbs (a)); omega
  have hm_y : wl my ≤ 16 := by rw [← HVy.out]; have := wl_le.2 (vl_lt HFy.out); omega
  have hb_y : wl (Int.natAbs (b)) ≤ 16 := by rw [zsize HAy.out]; exact hm_y
  have ht_y : tw (Int.natAbs (b)) ≤ 48 := by have := tw_wl (Int.natAbs (b)); omega
  go_enter Tryz.func15, Tryz.ntmps15
  have HF := Lib.hid (hp0 w)
  refine kS fun K hK => ?_
  refine wp_region_lit ?_
  go_wp2
  refine hK.out _ _ ?_; clear hK K
  show Code.wp _ _ _ _ _
  refine fH (((HF.out).al (b := w.heap.size) (by first | rfl | simp) (by decide)).al (b := w.heap.size + 1) (by first | rfl | simp) (by decide)) fun Wx0 HG => ?_
  clear HF; have HF := HG; clear HG
  generalize w.heap.size + 1 = gx1 at *
  refine wp_seq ?_
  have lx0 := HF.out.c 0 rfl
  have lx1 := HF.out.c 1 rfl
  refine kS fun K hK => ?_
  have HG0 : Hid (Gr Wx0 Wx0) := Lib.hid (Gr.refl _)
  refine sq 5 [(true, 0), (true, 1), (false, 2), (true, 3), (true, 4)] fun T hT => ?_
  iterate 2 refine tk ?_
  refine wpPlan_slice (cs := #[.bool (bbx), (.slice ao_x kx c_x), .bool (bby), (.slice ao_y ky c_y)]) (E := 25) (n := 2) rfl (by rfl) (fun w' hw => ?_) (fun gx3 vv3 hg0 yx3 bx3 => ?_)
  · go_simp
  clear yx3
  replace HG0 := Lib.hid (HG0.out.trans hg0)
  have HGS := Lib.hid hg0; clear hg0
  clear HGS
  have BX3 := Lib.hid bx3; clear bx3
  clear lx0; have lx0 := fun w' (h : Gr _ w') => HF.out.c 0 rfl w' (HG0.out.trans h)
  clear lx1; have lx1 := fun w' (h : Gr _ w') => HF.out.c 1 rfl w' (HG0.out.trans h)
  simp only [Act.put, lA, lB, lC]
  refine ck Tryz.call104 (fun w' hw => few2_ok _ _ _ _ _ _ _ _ 16 gx3 _ (BX3.out.gr hw) (by omega) (by omega)) ?_
  refine tk ?_
  refine wpPlan_nil (hT.out _ _ ?_)
  intro vw1 hg
  simp only [puts, Act.put, lA, lB, lC, lD, lE, ↓reduceIte, Nat.reduceEqDiff]
  have HG := Lib.hid (HF.out.gr (HG0.out.trans hg))
  clear hT T HF hg HG0 BX3 lx0 lx1
  go_wp2
  refine hK.out _ _ ?_; clear hK K
  show Code.wp _ _ _ _ _
  have HF := HG; clear HG
  refine wp_cond_false (by rfl) ?_
  refine wp_skip ?_
  show Code.wp _ _ _ _ _
  have HB := HPb HF
  have lx0 := HF.out.c 0 rfl
  have lx1 := HF.out.c 1 rfl
  refine kS fun K hK => ?_
  have HG0 : Hid (Gr vw1 vw1) := Lib.hid (Gr.refl _)
  refine wp_region_plan 12 [8, 9, 10, 11] [] (fun i => if i = 8 then 5 else if i = 9 then 6 else if i = 10 then 7 else 8) (fun i => if i = 8 then .cells #[.int .u64 0, .string ⟨#[]⟩, .bool false] 38 else if i = 9 then .cells #[.int .u64 0, .string ⟨#[]⟩, .bool false] 38 else if i = 10 then .cells #[.bool false, .slice none 0 0] 60 else .cells #[.bool false, .slice none 0 0] 60) [(true, 0), (true, 2), (true, 4), (true, 6), (true, 1), (true, 3), (false, 5), (false, 7)] (by kernel_rfl) (by kernel_rfl) (by intro i hi; simp only [List.mem_cons, List.not_mem_nil, or_false] at hi; rcases hi with rfl | rfl | rfl | rfl <;> exact ⟨_, rfl, rfl, rfl, by simp, fun ρ w => by kernel_rfl⟩) (fun i hi => by cases hi) (fun _ _ _ _ _ h => h) (fun T hT => ?_)
  iterate 4 refine tk ?_
  refine ck Tryz.call19 (fun w' hw => zlof bbx kx fx mx a ao_x c_x w' (Lib.hid (HWx.out.gr (Gr.trans HB.out hw))) HFx HVx HAx om om) ?_
  refine ck Tryz.call19 (fun w' hw => zlof bby ky fy my b ao_y c_y w' (Lib.hid (HWy.out.gr (Gr.trans HB.out hw))) HFy HVy HAy om om) ?_
  refine wpPlan_callE rfl (by rfl) Tryz.call105 (by rfl) (fun w' hw => ((zlref bbx kx fx mx a ao_x c_x w' (Lib.hid (HWx.out.gr (Gr.trans HB.out hw))) HFx HVx HAx om om)).mono ?_)
  rintro e vv4 ⟨⟨rv1, rfl, bx4⟩, hg0⟩
  obtain ⟨ao1, nn1, cc1, rfl⟩ := Rn.sl bx4
  refine ⟨_, rfl, hg0, ?_⟩
  replace hg0 := Gr.trans hw hg0; clear hw
  replace HG0 := Lib.hid (HG0.out.trans hg0)
  have HGS := Lib.hid hg0; clear hg0
  replace HB := Lib.hid (HB.out.trans (HGS.out.mono HB.out.size))
  clear HGS
  have RN4 := Lib.hid bx4; clear bx4
  clear lx0; have lx0 := fun w' (h : Gr _ w') => HF.out.c 0 rfl w' (HG0.out.trans h)
  clear lx1; have lx1 := fun w' (h : Gr _ w') => HF.out.c 1 rfl w' (HG0.out.trans h)
  simp only [Act.put, lA, lB, lC]
  refine wpPlan_callE rfl (by rfl) Tryz.call105 (by rfl) (fun w' hw => ((zlref bby ky fy my b ao_y c_y w' (Lib.hid (HWy.out.gr (Gr.trans HB.out hw))) HFy HVy HAy om om)).mono ?_)
  rintro e vv5 ⟨⟨rv2, rfl, bx5⟩, hg0⟩
  obtain ⟨ao2, nn2, cc2, rfl⟩ := Rn.sl bx5
  refine ⟨_, rfl, hg0, ?_⟩
  replace hg0 := Gr.trans hw hg0; clear hw
  replace HG0 := Lib.hid (HG0.out.trans hg0)
  have HGS := Lib.hid hg0; clear hg0
  replace RN4 := Lib.hid (RN4.out.gr HGS.out)
  replace HB := Lib.hid (HB.out.trans (HGS.out.mono HB.out.size))
  clear HGS
  have RN5 := Lib.hid bx5; clear bx5
  clear lx0; have lx0 := fun w' (h : Gr _ w') => HF.out.c 0 rfl w' (HG0.out.trans h)
  clear lx1; have lx1 := fun w' (h : Gr _ w') => HF.out.c 1 rfl w' (HG0.out.trans h)
  simp only [Act.put, lA, lB, lC]
  refine wpPlan_nil (hT.out _ _ ?_)
  intro G vw2 hg hf
  simp only [puts, Act.put, lA, lB, lC, lD, lE, ↓reduceIte, Nat.reduceEqDiff]
  have HG := Lib.hid (((HF.out.fr (HG0.out.trans hg) hf (zs := [(#[.int .u64 0, .string ⟨#[]⟩, .bool false], 38), (#[.int .u64 0, .string ⟨#[]⟩, .bool false], 38), (#[.bool false, .slice none 0 0], 60), (#[.bool false, .slice none 0 0], 60)]) rfl (by decide) (by decide)).ar (RN4.out.gr hg)).ar (RN5.out.gr hg))
  simp only [List.zip_cons_cons, List.zip_nil_right, List.map_cons, List.map_nil, lF, lG] at HG
  clear hT T HF hg hf HG0 RN4 RN5 lx0 lx1 HB
  generalize G 8 = gx6 at *
  generalize G 9 = gx7 at *
  generalize G 10 = gx8 at *
  generalize G 11 = gx9 at *
  have lx6 := HG.out.c 2 rfl; have fx6 := HG.out.f 2 rfl
  have lx7 := HG.out.c 3 rfl; have fx7 := HG.out.f 3 rfl
  have lx8 := HG.out.c 4 rfl; have fx8 := HG.out.f 4 rfl
  have lx9 := HG.out.c 5 rfl; have fx9 := HG.out.f 5 rfl
  have r0 := Gr.refl vw2
  obtain ⟨d6_7, d7_6⟩ := HG.out.ne 2 3 rfl rfl (by decide)
  obtain ⟨d6_8, d8_6⟩ := HG.out.ne 2 4 rfl rfl (by decide)
  obtain ⟨d6_9, d9_6⟩ := HG.out.ne 2 5 rfl rfl (by decide)
  obtain ⟨d7_8, d8_7⟩ := HG.out.ne 3 4 rfl rfl (by decide)
  obtain ⟨d7_9, d9_7⟩ := HG.out.ne 3 5 rfl rfl (by decide)
  obtain ⟨d8_9, d9_8⟩ := HG.out.ne 4 5 rfl rfl (by decide)
  go_wp2
  refine hK.out _ _ ?_; clear hK K
  show Code.wp _ _ _ _ _
  clear r0 lx6 fx6 lx7 fx7 lx8 fx8 lx9 fx9 d6_7 d7_6 d6_8 d8_6 d6_9 d9_6 d7_8 d8_7 d7_9 d9_7 d8_9 d9_8
  refine fH (((((((((HG.out).put2 2 0 rfl).put 2 2 _ rfl).put2 3 0 rfl).put 3 2 _ rfl).put2 4 0 rfl).put2 5 0 rfl).er 1).er 0) fun Wx3 HF => ?_
  clear HG
  have lx8 := HF.out.c 2 rfl
  have lx9 := HF.out.c 3 rfl
  refine kS fun K hK => ?_
  refine sq 4 [(true, 0), (true, 1), (true, 2), (true, 3)] fun T hT => ?_
  iterate 2 refine tk ?_
  refine ck Tryz.call106 (fun w' hw => zzcmp (a) (b) (-1) _ _ _ (by have e9 : ((a) : Int) < (b) := (by first | exact ok | exact eg0 _ | (rw [egcd_zero]; done) | (rw [egcd_zero]; simp; done) | exact elt _ _ (by assumption) | exact zback _ | exact eg_comb _ _ | exact eg_abs _ _ | exact idv0 _ _ | exact idv1 _ _ _ (by assumption) | exact idv2 _ _ _); exact sgs_lt e9) (by omega) (by omega) (HF.out.r 4 rfl hw) (HF.out.r 5 rfl hw)) ?_
  refine tk ?_
  refine nlS hT HF fun vw3 HG => ?_
  clear hT T HF lx8 lx9
  go_wp2
  refine hK.out _ _ ?_; clear hK K
  show Code.wp _ _ _ _ _
  have HF := HG; clear HG
  have HB := HPb HF
  obtain ⟨u1, HZ1⟩ : ∃ z, Hid ((a) + (b) = z) := ⟨_, Lib.hid rfl⟩
  have su1 : wl (Int.natAbs (u1)) ≤ 17 := by rw [← HZ1.out]; have := wl_iadd (a) (b); omega
  have HZ2 : Hid ((a) + (b) = u1) := Lib.hid (by first | exact ok | exact eg0 _ | (rw [egcd_zero]; done) | (rw [egcd_zero]; simp; done) | exact elt _ _ (by assumption) | exact zback _ | exact eg_comb _ _ | exact eg_abs _ _ | exact idv0 _ _ | exact idv1 _ _ _ (by assumption) | exact idv2 _ _ _ | (simp only [← HZ1.out] <;> first | exact ok | exact eg0 _ | (rw [egcd_zero]; done) | (rw [egcd_zero]; simp; done) | exact elt _ _ (by assumption) | exact zback _ | exact eg_comb _ _ | exact eg_abs _ _ | exact idv0 _ _ | exact idv1 _ _ _ (by assumption) | exact idv2 _ _ _))
  have su2 : tw (Int.natAbs (u1)) ≤ 49 := by have e := HZ2.out; first | omega | (rw [← e]; have := tw_iadd (a) (b); omega)
  obtain ⟨u3, HZ3⟩ : ∃ z, Hid ((a) - (b) = z) := ⟨_, Lib.hid rfl⟩
  have su3 : wl (Int.natAbs (u3)) ≤ 17 := by rw [← HZ3.out]; have := wl_isub (a) (b); omega
  have HZ4 : Hid ((a) - (b) = u3) := Lib.hid (by first | exact ok | exact eg0 _ | (rw [egcd_zero]; done) | (rw [egcd_zero]; simp; done) | exact elt _ _ (by assumption) | exact zback _ | exact eg_comb _ _ | exact eg_abs _ _ | exact idv0 _ _ | exact idv1 _ _ _ (by assumption) | exact idv2 _ _ _ | (simp only [← HZ3.out, ← HZ1.out] <;> first | exact ok | exact eg0 _ | (rw [egcd_zero]; done) | (rw [egcd_zero]; simp; done) | exact elt _ _ (by assumption) | exact zback _ | exact eg_comb _ _ | exact eg_abs _ _ | exact idv0 _ _ | exact idv1 _ _ _ (by assumption) | exact idv2 _ _ _))
  have su4 : tw (Int.natAbs (u3)) ≤ 49 := by have e := HZ4.out; first | omega | (rw [← e]; have := tw_isub (a) (b); omega)
  obtain ⟨u5, HZ5⟩ : ∃ z, Hid ((a) * (b) = z) := ⟨_, Lib.hid rfl⟩
  have su5 : wl (Int.natAbs (u5)) ≤ 32 := by rw [← HZ5.out]; have := wl_imul (a) (b); omega
  have HZ6 : Hid ((a) * (b) = u5) := Lib.hid (by first | exact ok | exact eg0 _ | (rw [egcd_zero]; done) | (rw [egcd_zero]; simp; done) | exact elt _ _ (by assumption) | exact zback _ | exact eg_comb _ _ | exact eg_abs _ _ | exact idv0 _ _ | exact idv1 _ _ _ (by assumption) | exact idv2 _ _ _ | (simp only [← HZ5.out, ← HZ3.out, ← HZ1.out] <;> first | exact ok | exact eg0 _ | (rw [egcd_zero]; done) | (rw [egcd_zero]; simp; done) | exact elt _ _ (by assumption) | exact zback _ | exact eg_comb _ _ | exact eg_abs _ _ | exact idv0 _ _ | exact idv1 _ _ _ (by assumption) | exact idv2 _ _ _))
  have su6 : tw (Int.natAbs (u5)) ≤ 96 := by have e := HZ6.out; first | omega | (rw [← e]; have := tw_imul (a) (b); omega)
  obtain ⟨u7, HZ7⟩ : ∃ z, Hid (-(a) = z) := ⟨_, Lib.hid rfl⟩
  have su7 : wl (Int.natAbs (u7)) ≤ 16 := by rw [← HZ7.out]; rw [Int.natAbs_neg]; omega
  have HZ8 : Hid (-(a) = u7) := Lib.hid (by first | exact ok | exact eg0 _ | (rw [egcd_zero]; done) | (rw [egcd_zero]; simp; done) | exact elt _ _ (by assumption) | exact zback _ | exact eg_comb _ _ | exact eg_abs _ _ | exact idv0 _ _ | exact idv1 _ _ _ (by assumption) | exact idv2 _ _ _ | (simp only [← HZ7.out, ← HZ5.out, ← HZ3.out, ← HZ1.out] <;> first | exact ok | exact eg0 _ | (rw [egcd_zero]; done) | (rw [egcd_zero]; simp; done) | exact elt _ _ (by assumption) | exact zback _ | exact eg_comb _ _ | exact eg_abs _ _ | exact idv0 _ _ | exact idv1 _ _ _ (by assumption) | exact idv2 _ _ _))
  have su8 : tw (Int.natAbs (u7)) ≤ 48 := by have e := HZ8.out; first | omega | (rw [← e]; rw [Int.natAbs_neg]; omega)
  have hd1 : decide (a = b) = false := decide_eq_false (by first | exact ok | exact eg0 _ | (rw [egcd_zero]; done) | (rw [egcd_zero]; simp; done) | exact elt _ _ (by assumption) | exact zback _ | exact eg_comb _ _ | exact eg_abs _ _ | exact idv0 _ _ | exact idv1 _ _ _ (by assumption) | exact idv2 _ _ _ | (simp only [← HZ7.out, ← HZ5.out, ← HZ3.out, ← HZ1.out] <;> first | exact ok | exact eg0 _ | (rw [egcd_zero]; done) | (rw [egcd_zero]; simp; done) | exact elt _ _ (by assumption) | exact zback _ | exact eg_comb _ _ | exact eg_abs _ _ | exact idv0 _ _ | exact idv1 _ _ _ (by assumption) | exact idv2 _ _ _))
  have lx6 := HF.out.c 0 rfl
  have lx7 := HF.out.c 1 rfl
  have lx8 := HF.out.c 2 rfl
  have lx9 := HF.out.c 3 rfl
  refine kS fun K hK => ?_
  have HG0 : Hid (Gr vw3 vw3) := Lib.hid (Gr.refl _)
  refine wp_region_planQ 71 [] [] (fun _ => 0) (fun _ => .cells #[] 0) [(true, 0), (true, 1), (true, 2), (true, 3), (true, 4), (true, 5), (true, 6), (true, 7), (true, 8), (false, 9), (true, 10), (true, 11), (true, 12), (true, 13), (true, 14), (true, 15), (true, 16), (true, 17), (false, 18), (true, 19), (true, 20), (true, 21), (true, 22), (true, 23), (true, 24), (true, 25), (true, 26), (false, 27), (true, 28), (true, 29), (true, 30), (true, 31), (true, 32), (true, 33), (false, 34), (true, 35), (true, 36), (true, 37), (true, 38), (true, 39), (true, 40), (true, 41), (true, 42), (true, 43), (true, 44), (true, 45), (true, 46), (true, 47), (true, 48), (true, 49), (true, 50), (true, 51), (true, 52), (true, 53), (true, 54), (true, 55), (true, 56), (true, 57), (true, 58), (true, 59), (true, 60), (true, 61), (true, 62), (true, 63), (true, 64), (true, 65), (true, 66), (true, 67), (true, 68), (true, 69), (true, 70)] (by kernel_rfl) (by kernel_rfl) (fun i hi => by cases hi) (fun i hi => by cases hi) (fun _ _ _ _ _ h => h) (fun T hT => ?_)
  iterate 2 refine tk ?_
  refine ck Tryz.call107 (fun w' hw => samez_any (a) (a) _ _ (rfl) (HF.out.r 4 rfl (HG0.out.trans hw)) om om (Lib.hid (HT.out.gr (Gr.trans HB.out hw)))) ?_
  iterate 3 refine tk ?_
  refine ck Tryz.call102 (fun w' hw => ziadd (a) (b) (u1) _ HZ1.out om om) ?_
  iterate 2 refine tk ?_
  refine wpPlan_callE rfl (by rfl) Tryz.call108 (by rfl) (fun w' hw => (zadd_any (a) (b) (u1) _ _ _ HZ2.out (by omega) (by omega) (HF.out.r 4 rfl (HG0.out.trans hw)) (HF.out.r 5 rfl (HG0.out.trans hw))).mono ?_)
  rintro e vv10 ⟨⟨rv3, rfl, bx10⟩, hg0⟩
  obtain ⟨ao3, nn3, cc3, rfl⟩ := Rn.sl bx10
  refine ⟨_, rfl, hg0, ?_⟩
  replace hg0 := Gr.trans hw hg0; clear hw
  replace HG0 := Lib.hid (HG0.out.trans hg0)
  have HGS := Lib.hid hg0; clear hg0
  replace HB := Lib.hid (HB.out.trans (HGS.out.mono HB.out.size))
  clear HGS
  have RN10 := Lib.hid bx10; clear bx10
  clear lx6; have lx6 := fun w' (h : Gr _ w') => HF.out.c 0 rfl w' (HG0.out.trans h)
  clear lx7; have lx7 := fun w' (h : Gr _ w') => HF.out.c 1 rfl w' (HG0.out.trans h)
  clear lx8; have lx8 := fun w' (h : Gr _ w') => HF.out.c 2 rfl w' (HG0.out.trans h)
  clear lx9; have lx9 := fun w' (h : Gr _ w') => HF.out.c 3 rfl w' (HG0.out.trans h)
  simp only [Act.put, lA, lB, lC]
  refine ck Tryz.call107 (fun w' hw => samez_any (u1) (u1) _ _ (rfl) (RN10.out.gr hw) om om (Lib.hid (HT.out.gr (Gr.trans HB.out hw)))) ?_
  iterate 4 refine tk ?_
  refine ck Tryz.call109 (fun w' hw => zisub (a) (b) (u3) _ HZ3.out om om) ?_
  iterate 2 refine tk ?_
  refine wpPlan_callE rfl (by rfl) Tryz.call110 (by rfl) (fun w' hw => (zsub_any (a) (b) (u3) _ _ _ HZ4.out (by omega) (by omega) (HF.out.r 4 rfl (HG0.out.trans hw)) (HF.out.r 5 rfl (HG0.out.trans hw))).mono ?_)
  rintro e vv11 ⟨⟨rv4, rfl, bx11⟩, hg0⟩
  obtain ⟨ao4, nn4, cc4, rfl⟩ := Rn.sl bx11
  refine ⟨_, rfl, hg0, ?_⟩
  replace hg0 := Gr.trans hw hg0; clear hw
  replace HG0 := Lib.hid (HG0.out.trans hg0)
  have HGS := Lib.hid hg0; clear hg0
  replace RN10 := Lib.hid (RN10.out.gr HGS.out)
  replace HB := Lib.hid (HB.out.trans (HGS.out.mono HB.out.size))
  clear HGS
  have RN11 := Lib.hid bx11; clear bx11
  clear lx6; have lx6 := fun w' (h : Gr _ w') => HF.out.c 0 rfl w' (HG0.out.trans h)
  clear lx7; have lx7 := fun w' (h : Gr _ w') => HF.out.c 1 rfl w' (HG0.out.trans h)
  clear lx8; have lx8 := fun w' (h : Gr _ w') => HF.out.c 2 rfl w' (HG0.out.trans h)
  clear lx9; have lx9 := fun w' (h : Gr _ w') => HF.out.c 3 rfl w' (HG0.out.trans h)
  simp only [Act.put, lA, lB, lC]
  refine ck Tryz.call107 (fun w' hw => samez_any (u3) (u3) _ _ (rfl) (RN11.out.gr hw) om om (Lib.hid (HT.out.gr (Gr.trans HB.out hw)))) ?_
  iterate 4 refine tk ?_
  refine ck Tryz.call94 (fun w' hw => zimul (a) (b) (u5) _ HZ5.out om om) ?_
  iterate 2 refine tk ?_
  refine wpPlan_callE rfl (by rfl) Tryz.call111 (by rfl) (fun w' hw => (zmul_any (a) (b) (u5) _ _ _ HZ6.out (by omega) (by omega) (HF.out.r 4 rfl (HG0.out.trans hw)) (HF.out.r 5 rfl (HG0.out.trans hw))).mono ?_)
  rintro e vv12 ⟨⟨rv5, rfl, bx12⟩, hg0⟩
  obtain ⟨ao5, nn5, cc5, rfl⟩ := Rn.sl bx12
  refine ⟨_, rfl, hg0, ?_⟩
  replace hg0 := Gr.trans hw hg0; clear hw
  replace HG0 := Lib.hid (HG0.out.trans hg0)
  have HGS := Lib.hid hg0; clear hg0
  replace RN10 := Lib.hid (RN10.out.gr HGS.out)
  replace RN11 := Lib.hid (RN11.out.gr HGS.out)
  replace HB := Lib.hid (HB.out.trans (HGS.out.mono HB.out.size))
  clear HGS
  have RN12 := Lib.hid bx12; clear bx12
  clear lx6; have lx6 := fun w' (h : Gr _ w') => HF.out.c 0 rfl w' (HG0.out.trans h)
  clear lx7; have lx7 := fun w' (h : Gr _ w') => HF.out.c 1 rfl w' (HG0.out.trans h)
  clear lx8; have lx8 := fun w' (h : Gr _ w') => HF.out.c 2 rfl w' (HG0.out.trans h)
  clear lx9; have lx9 := fun w' (h : Gr _ w') => HF.out.c 3 rfl w' (HG0.out.trans h)
  simp only [Act.put, lA, lB, lC]
  refine ck Tryz.call107 (fun w' hw => samez_any (u5) (u5) _ _ (rfl) (RN12.out.gr hw) om om (Lib.hid (HT.out.gr (Gr.trans HB.out hw)))) ?_
  iterate 3 refine tk ?_
  refine ck Tryz.call112 (fun w' hw => zineg (a) (u7) _ HZ7.out) ?_
  refine tk ?_
  refine wpPlan_callE rfl (by rfl) Tryz.call113 (by rfl) (fun w' hw => (zneg_any (a) (u7) _ _ HZ8.out (HF.out.r 4 rfl (HG0.out.trans hw))).mono ?_)
  rintro e vv13 ⟨⟨rv6, rfl, bx13⟩, hg0⟩
  obtain ⟨ao6, nn6, cc6, rfl⟩ := Rn.sl bx13
  refine ⟨_, rfl, hg0, ?_⟩
  replace hg0 := Gr.trans hw hg0; clear hw
  replace HG0 := Lib.hid (HG0.out.trans hg0)
  have HGS := Lib.hid hg0; clear hg0
  replace RN10 := Lib.hid (RN10.out.gr HGS.out)
  replace RN11 := Lib.hid (RN11.out.gr HGS.out)
  replace RN12 := Lib.hid (RN12.out.gr HGS.out)
  replace HB := Lib.hid (HB.out.trans (HGS.out.mono HB.out.size))
  clear HGS
  have RN13 := Lib.hid bx13; clear bx13
  clear lx6; have lx6 := fun w' (h : Gr _ w') => HF.out.c 0 rfl w' (HG0.out.trans h)
  clear lx7; have lx7 := fun w' (h : Gr _ w') => HF.out.c 1 rfl w' (HG0.out.trans h)
  clear lx8; have lx8 := fun w' (h : Gr _ w') => HF.out.c 2 rfl w' (HG0.out.trans h)
  clear lx9; have lx9 := fun w' (h : Gr _ w') => HF.out.c 3 rfl w' (HG0.out.trans h)
  simp only [Act.put, lA, lB, lC]
  refine ck Tryz.call107 (fun w' hw => samez_any (u7) (u7) _ _ (rfl) (RN13.out.gr hw) om om (Lib.hid (HT.out.gr (Gr.trans HB.out hw)))) ?_
  iterate 3 refine tk ?_
  refine ck Tryz.call114 (fun w' hw => zisign (a) (s) _ HSA.out) ?_
  refine tk ?_
  refine ck Tryz.call115 (fun w' hw => zrsign (a) (s) _ _ HSA.out (HF.out.r 4 rfl (HG0.out.trans hw))) ?_
  iterate 5 refine tk ?_
  refine ck Tryz.call101 (fun w' hw => zicmp (a) (b) (-1) _ (by have e9 : ((a) : Int) < (b) := (by first | exact ok | exact eg0 _ | (rw [egcd_zero]; done) | (rw [egcd_zero]; simp; done) | exact elt _ _ (by assumption) | exact zback _ | exact eg_comb _ _ | exact eg_abs _ _ | exact idv0 _ _ | exact idv1 _ _ _ (by assumption) | exact idv2 _ _ _ | (simp only [← HZ7.out, ← HZ5.out, ← HZ3.out, ← HZ1.out] <;> first | exact ok | exact eg0 _ | (rw [egcd_zero]; done) | (rw [egcd_zero]; simp; done) | exact elt _ _ (by assumption) | exact zback _ | exact eg_comb _ _ | exact eg_abs _ _ | exact idv0 _ _ | exact idv1 _ _ _ (by assumption) | exact idv2 _ _ _)); exact sgs_lt e9) om om) ?_
  iterate 13 refine tk ?_
  refine ck Tryz.call70 (fun w' hw => abs_any (a) _) ?_
  refine ck Tryz.call73 (fun w' hw => nztexts (Int.natAbs (a)) tx _ HTX.out om (Lib.hid (HT.out.gr (Gr.trans HB.out hw)))) ?_
  iterate 2 refine tk ?_
  refine ck Tryz.call116 (fun w' hw => zrtext _ (Int.natAbs (a)) tx _ HTX.out (HF.out.r 4 rfl (HG0.out.trans hw)) (by omega)) ?_
  iterate 3 refine tk ?_
  refine ck Tryz.call23 (fun w' hw => worksz_any _ (Lib.hid (HT.out.gr (Gr.trans HB.out hw)))) ?_
  refine tk ?_
  refine wpPlan_nil (hT.out _ _ ?_)
  intro G vw4 hg hf
  simp only [puts, Act.put, lA, lB, lC, lD, lE, ↓reduceIte, Nat.reduceEqDiff, List.append_eq, List.cons_append, List.nil_append]
  have HG := Lib.hid (((((HF.out.gr (HG0.out.trans hg)).ar (RN10.out.gr hg)).ar (RN11.out.gr hg)).ar (RN12.out.gr hg)).ar (RN13.out.gr hg))
  simp only [List.zip_cons_cons, List.zip_nil_right, List.map_cons, List.map_nil, lF, lG] at HG
  clear hT T HF hg hf HG0 RN10 RN11 RN12 RN13 lx6 lx7 lx8 lx9 HB
  go_wp2
  refine hK.out _ _ ?_; clear hK K
  show Code.wp _ _ _ _ _
  refine fH (((((((((((HG.out).er 9).er 8).er 7).er 6).er 5).er 4).er 3).er 2).er 1).er 0) fun Wx5 HF => ?_
  clear HG
  clear hd1
  refine wp_ret ?_
  try simp only [Exit.then, Exit.inBlock]
  exact bodyPost_ret (v := .bool true) (by simp [results, Tryz.results15, go_sem]) rfl ⟨rfl, HF.out.1⟩

set_option maxRecDepth 100000 in
set_option maxHeartbeats 8000000 in
theorem sumz_gt (bbx : Bool) (vx : Value) (kx : Nat) (fx : Nat → Nat) (mx : Nat) (bby : Bool) (vy : Value) (ky : Nat) (fy : Nat → Nat) (my : Nat) (a b : Int) (s : Int) (tx : ByteArray) (w : World) (HWx : Hid (Wa w vx kx fx)) (HFx : Hid (∀ i, i < kx → fx i < 4294967296)) (HVx : Hid (vl fx kx = mx)) (HAx : Hid ((if bbx then -((mx : Nat) : Int) else ((mx : Nat) : Int)) = a)) (HWy : Hid (Wa w vy ky fy)) (HFy : Hid (∀ i, i < ky → fy i < 4294967296)) (HVy : Hid (vl fy ky = my)) (HAy : Hid ((if bby then -((my : Nat) : Int) else ((my : Nat) : Int)) = b)) (hkx : kx ≤ 16) (hky : ky ≤ 16) (hlt : b < a) (HSA : Hid (sgI a = s)) (HTX : Hid ((⟨(Lib.decDigits (Int.natAbs a)).toArray⟩ : ByteArray) = tx)) (HT : Hid (Tab w)) :
    Calls Tryz.prog 15 #[.agg #[.bool bbx, vx], .agg #[.bool bby, vy]] w fun e w' => e = .returned (.bool true) ∧ Below w.heap.size w w' := by
  obtain ⟨ao_x, c_x, rfl⟩ := HWx.out.slice
  obtain ⟨ao_y, c_y, rfl⟩ := HWy.out.slice
  have hm_x : wl mx ≤ 16 := by rw [← HVx.out]; have := wl_le.2 (vl_lt HFx.out); omega
  have hb_x : wl (Int.natAbs (a)) ≤ 16 := by rw [zsize HAx.out]; exact hm_x
  have ht_x : tw (Int.natAbs (a)) ≤ 48 := by have := tw_wl (Int.natAbs (a)); omega
  have hm_y : wl my ≤ 16 := by rw [← HVy.out]; have := wl_le.2 (vl_lt HFy.out); omega
  have hb_y : wl (Int.natAbs (b)) ≤ 16 := by rw [zsize HAy.out]; exact hm_y
  have ht_y : tw (Int.natAbs (b)) ≤ 48 := by have := tw_wl (Int.natAbs (b)); omega
  go_enter Tryz.func15, Tryz.ntmps15
  have HF := Lib.hid (hp0 w)
  refine kS fun K hK => ?_
  refine wp_region_lit ?_
  go_wp2
  refine hK.out _ _ ?_; clear hK K
  show Code.wp _ _ _ _ _
  refine fH (((HF.out).al (b := w.heap.size) (by first | rfl | simp) (by decide)).al (b := w.heap.size + 1) (by first | rfl | simp) (by decide)) fun Wx0 HG => ?_
  clear HF; have HF := HG; clear HG
  generalize w.heap.size + 1 = gx1 at *
  refine wp_seq ?_
  have lx0 := HF.out.c 0 rfl
  have lx1 := HF.out.c 1 rfl
  refine kS fun K hK => ?_
  have HG0 : Hid (Gr Wx0 Wx0) := Lib.hid (Gr.refl _)
  refine sq 5 [(true, 0), (true, 1), (false, 2), (true, 3), (true, 4)] fun T hT => ?_
  iterate 2 refine tk ?_
  refine wpPlan_slice (cs := #[.bool (bbx), (.slice ao_x kx c_x), .bool (bby), (.slice ao_y ky c_y)]) (E := 25) (n := 2) rfl (by rfl) (fun w' hw => ?_) (fun gx3 vv3 hg0 yx3 bx3 => ?_)
  · go_simp
  clear yx3
  replace HG0 := Lib.hid (HG0.out.trans hg0)
  have HGS := Lib.hid hg0; clear hg0
  clear HGS
  have BX3 := Lib.hid bx3; clear bx3
  clear lx0; have lx0 := fun w' (h : Gr _ w') => HF.out.c 0 rfl w' (HG0.out.trans h)
  clear lx1; have lx1 := fun w' (h : Gr _ w') => HF.out.c 1 rfl w' (HG0.out.trans h)
  simp only [Act.put, lA, lB, lC]
  refine ck Tryz.call104 (fun w' hw => few2_ok _ _ _ _ _ _ _ _ 16 gx3 _ (BX3.out.gr hw) (by omega) (by omega)) ?_
  refine tk ?_
  refine wpPlan_nil (hT.out _ _ ?_)
  intro vw1 hg
  simp only [puts, Act.put, lA, lB, lC, lD, lE, ↓reduceIte, Nat.reduceEqDiff]
  have HG := Lib.hid (HF.out.gr (HG0.out.trans hg))
  clear hT T HF hg HG0 BX3 lx0 lx1
  go_wp2
  refine hK.out _ _ ?_; clear hK K
  show Code.wp _ _ _ _ _
  have HF := HG; clear HG
  refine wp_cond_false (by rfl) ?_
  refine wp_skip ?_
  show Code.wp _ _ _ _ _
  have HB := HPb HF
  have lx0 := HF.out.c 0 rfl
  have lx1 := HF.out.c 1 rfl
  refine kS fun K hK => ?_
  have HG0 : Hid (Gr vw1 vw1) := Lib.hid (Gr.refl _)
  refine wp_region_plan 12 [8, 9, 10, 11] [] (fun i => if i = 8 then 5 else if i = 9 then 6 else if i = 10 then 7 else 8) (fun i => if i = 8 then .cells #[.int .u64 0, .string ⟨#[]⟩, .bool false] 38 else if i = 9 then .cells #[.int .u64 0, .string ⟨#[]⟩, .bool false] 38 else if i = 10 then .cells #[.bool false, .slice none 0 0] 60 else .cells #[.bool false, .slice none 0 0] 60) [(true, 0), (true, 2), (true, 4), (true, 6), (true, 1), (true, 3), (false, 5), (false, 7)] (by kernel_rfl) (by kernel_rfl) (by intro i hi; simp only [List.mem_cons, List.not_mem_nil, or_false] at hi; rcases hi with rfl | rfl | rfl | rfl <;> exact ⟨_, rfl, rfl, rfl, by simp, fun ρ w => by kernel_rfl⟩) (fun i hi => by cases hi) (fun _ _ _ _ _ h => h) (fun T hT => ?_)
  iterate 4 refine tk ?_
  refine ck Tryz.call19 (fun w' hw => zlof bbx kx fx mx a ao_x c_x w' (Lib.hid (HWx.out.gr (Gr.trans HB.out hw))) HFx HVx HAx om om) ?_
  refine ck Tryz.call19 (fun w' hw => zlof bby ky fy my b ao_y c_y w' (Lib.hid (HWy.out.gr (Gr.trans HB.out hw))) HFy HVy HAy om om) ?_
  refine wpPlan_callE rfl (by rfl) Tryz.call105 (by rfl) (fun w' hw => ((zlref bbx kx fx mx a ao_x c_x w' (Lib.hid (HWx.out.gr (Gr.trans HB.out hw))) HFx HVx HAx om om)).mono ?_)
  rintro e vv4 ⟨⟨rv1, rfl, bx4⟩, hg0⟩
  obtain ⟨ao1, nn1, cc1, rfl⟩ := Rn.sl bx4
  refine ⟨_, rfl, hg0, ?_⟩
  replace hg0 := Gr.trans hw hg0; clear hw
  replace HG0 := Lib.hid (HG0.out.trans hg0)
  have HGS := Lib.hid hg0; clear hg0
  replace HB := Lib.hid (HB.out.trans (HGS.out.mono HB.out.size))
  clear HGS
  have RN4 := Lib.hid bx4; clear bx4
  clear lx0; have lx0 := fun w' (h : Gr _ w') => HF.out.c 0 rfl w' (HG0.out.trans h)
  clear lx1; have lx1 := fun w' (h : Gr _ w') => HF.out.c 1 rfl w' (HG0.out.trans h)
  simp only [Act.put, lA, lB, lC]
  refine wpPlan_callE rfl (by rfl) Tryz.call105 (by rfl) (fun w' hw => ((zlref bby ky fy my b ao_y c_y w' (Lib.hid (HWy.out.gr (Gr.trans HB.out hw))) HFy HVy HAy om om)).mono ?_)
  rintro e vv5 ⟨⟨rv2, rfl, bx5⟩, hg0⟩
  obtain ⟨ao2, nn2, cc2, rfl⟩ := Rn.sl bx5
  refine ⟨_, rfl, hg0, ?_⟩
  replace hg0 := Gr.trans hw hg0; clear hw
  replace HG0 := Lib.hid (HG0.out.trans hg0)
  have HGS := Lib.hid hg0; clear hg0
  replace RN4 := Lib.hid (RN4.out.gr HGS.out)
  replace HB := Lib.hid (HB.out.trans (HGS.out.mono HB.out.size))
  clear HGS
  have RN5 := Lib.hid bx5; clear bx5
  clear lx0; have lx0 := fun w' (h : Gr _ w') => HF.out.c 0 rfl w' (HG0.out.trans h)
  clear lx1; have lx1 := fun w' (h : Gr _ w') => HF.out.c 1 rfl w' (HG0.out.trans h)
  simp only [Act.put, lA, lB, lC]
  refine wpPlan_nil (hT.out _ _ ?_)
  intro G vw2 hg hf
  simp only [puts, Act.put, lA, lB, lC, lD, lE, ↓reduceIte, Nat.reduceEqDiff]
  have HG := Lib.hid (((HF.out.fr (HG0.out.trans hg) hf (zs := [(#[.int .u64 0, .string ⟨#[]⟩, .bool false], 38), (#[.int .u64 0, .string ⟨#[]⟩, .bool false], 38), (#[.bool false, .slice none 0 0], 60), (#[.bool false, .slice none 0 0], 60)]) rfl (by decide) (by decide)).ar (RN4.out.gr hg)).ar (RN5.out.gr hg))
  simp only [List.zip_cons_cons, List.zip_nil_right, List.map_cons, List.map_nil, lF, lG] at HG
  clear hT T HF hg hf HG0 RN4 RN5 lx0 lx1 HB
  generalize G 8 = gx6 at *
  generalize G 9 = gx7 at *
  generalize G 10 = gx8 at *
  generalize G 11 = gx9 at *
  have lx6 := HG.out.c 2 rfl; have fx6 := HG.out.f 2 rfl
  have lx7 := HG.out.c 3 rfl; have fx7 := HG.out.f 3 rfl
  have lx8 := HG.out.c 4 rfl; have fx8 := HG.out.f 4 rfl
  have lx9 := HG.out.c 5 rfl; have fx9 := HG.out.f 5 rfl
  have r0 := Gr.refl vw2
  obtain ⟨d6_7, d7_6⟩ := HG.out.ne 2 3 rfl rfl (by decide)
  obtain ⟨d6_8, d8_6⟩ := HG.out.ne 2 4 rfl rfl (by decide)
  obtain ⟨d6_9, d9_6⟩ := HG.out.ne 2 5 rfl rfl (by decide)
  obtain ⟨d7_8, d8_7⟩ := HG.out.ne 3 4 rfl rfl (by decide)
  obtain ⟨d7_9, d9_7⟩ := HG.out.ne 3 5 rfl rfl (by decide)
  obtain ⟨d8_9, d9_8⟩ := HG.out.ne 4 5 rfl rfl (by decide)
  go_wp2
  refine hK.out _ _ ?_; clear hK K
  show Code.wp _ _ _ _ _
  clear r0 lx6 fx6 lx7 fx7 lx8 fx8 lx9 fx9 d6_7 d7_6 d6_8 d8_6 d6_9 d9_6 d7_8 d8_7 d7_9 d9_7 d8_9 d9_8
  refine fH (((((((((HG.out).put2 2 0 rfl).put 2 2 _ rfl).put2 3 0 rfl).put 3 2 _ rfl).put2 4 0 rfl).put2 5 0 rfl).er 1).er 0) fun Wx3 HF => ?_
  clear HG
  have lx8 := HF.out.c 2 rfl
  have lx9 := HF.out.c 3 rfl
  refine kS fun K hK => ?_
  refine sq 4 [(true, 0), (true, 1), (true, 2), (true, 3)] fun T hT => ?_
  iterate 2 refine tk ?_
  refine ck Tryz.call106 (fun w' hw => zzcmp (a) (b) (1) _ _ _ (by have e9 : ((a) : Int) > (b) := (by first | exact ok | exact eg0 _ | (rw [egcd_zero]; done) | (rw [egcd_zero]; simp; done) | exact elt _ _ (by assumption) | exact zback _ | exact eg_comb _ _ | exact eg_abs _ _ | exact idv0 _ _ | exact idv1 _ _ _ (by assumption) | exact idv2 _ _ _); exact sgs_gt e9) (by omega) (by omega) (HF.out.r 4 rfl hw) (HF.out.r 5 rfl hw)) ?_
  refine tk ?_
  refine nlS hT HF fun vw3 HG => ?_
  clear hT T HF lx8 lx9
  go_wp2
  refine hK.out _ _ ?_; clear hK K
  show Code.wp _ _ _ _ _
  have HF := HG; clear HG
  have HB := HPb HF
  obtain ⟨u1, HZ1⟩ : ∃ z, Hid ((a) + (b) = z) := ⟨_, Lib.hid rfl⟩
  have su1 : wl (Int.natAbs (u1)) ≤ 17 := by rw [← HZ1.out]; have := wl_iadd (a) (b); omega
  have HZ2 : Hid ((a) + (b) = u1) := Lib.hid (by first | exact ok | exact eg0 _ | (rw [egcd_zero]; done) | (rw [egcd_zero]; simp; done) | exact elt _ _ (by assumption) | exact zback _ | exact eg_comb _ _ | exact eg_abs _ _ | exact idv0 _ _ | exact idv1 _ _ _ (by assumption) | exact idv2 _ _ _ | (simp only [← HZ1.out] <;> first | exact ok | exact eg0 _ | (rw [egcd_zero]; done) | (rw [egcd_zero]; simp; done) | exact elt _ _ (by assumption) | exact zback _ | exact eg_comb _ _ | exact eg_abs _ _ | exact idv0 _ _ | exact idv1 _ _ _ (by assumption) | exact idv2 _ _ _))
  have su2 : tw (Int.natAbs (u1)) ≤ 49 := by have e := HZ2.out; first | omega | (rw [← e]; have := tw_iadd (a) (b); omega)
  obtain ⟨u3, HZ3⟩ : ∃ z, Hid ((a) - (b) = z) := ⟨_, Lib.hid rfl⟩
  have su3 : wl (Int.natAbs (u3)) ≤ 17 := by rw [← HZ3.out]; have := wl_isub (a) (b); omega
  have HZ4 : Hid ((a) - (b) = u3) := Lib.hid (by first | exact ok | exact eg0 _ | (rw [egcd_zero]; done) | (rw [egcd_zero]; simp; done) | exact elt _ _ (by assumption) | exact zback _ | exact eg_comb _ _ | exact eg_abs _ _ | exact idv0 _ _ | exact idv1 _ _ _ (by assumption) | exact idv2 _ _ _ | (simp only [← HZ3.out, ← HZ1.out] <;> first | exact ok | exact eg0 _ | (rw [egcd_zero]; done) | (rw [egcd_zero]; simp; done) | exact elt _ _ (by assumption) | exact zback _ | exact eg_comb _ _ | exact eg_abs _ _ | exact idv0 _ _ | exact idv1 _ _ _ (by assumption) | exact idv2 _ _ _))
  have su4 : tw (Int.natAbs (u3)) ≤ 49 := by have e := HZ4.out; first | omega | (rw [← e]; have := tw_isub (a) (b); omega)
  obtain ⟨u5, HZ5⟩ : ∃ z, Hid ((a) * (b) = z) := ⟨_, Lib.hid rfl⟩
  have su5 : wl (Int.natAbs (u5)) ≤ 32 := by rw [← HZ5.out]; have := wl_imul (a) (b); omega
  have HZ6 : Hid ((a) * (b) = u5) := Lib.hid (by first | exact ok | exact eg0 _ | (rw [egcd_zero]; done) | (rw [egcd_zero]; simp; done) | exact elt _ _ (by assumption) | exact zback _ | exact eg_comb _ _ | exact eg_abs _ _ | exact idv0 _ _ | exact idv1 _ _ _ (by assumption) | exact idv2 _ _ _ | (simp only [← HZ5.out, ← HZ3.out, ← HZ1.out] <;> first | exact ok | exact eg0 _ | (rw [egcd_zero]; done) | (rw [egcd_zero]; simp; done) | exact elt _ _ (by assumption) | exact zback _ | exact eg_comb _ _ | exact eg_abs _ _ | exact idv0 _ _ | exact idv1 _ _ _ (by assumption) | exact idv2 _ _ _))
  have su6 : tw (Int.natAbs (u5)) ≤ 96 := by have e := HZ6.out; first | omega | (rw [← e]; have := tw_imul (a) (b); omega)
  obtain ⟨u7, HZ7⟩ : ∃ z, Hid (-(a) = z) := ⟨_, Lib.hid rfl⟩
  have su7 : wl (Int.natAbs (u7)) ≤ 16 := by rw [← HZ7.out]; rw [Int.natAbs_neg]; omega
  have HZ8 : Hid (-(a) = u7) := Lib.hid (by first | exact ok | exact eg0 _ | (rw [egcd_zero]; done) | (rw [egcd_zero]; simp; done) | exact elt _ _ (by assumption) | exact zback _ | exact eg_comb _ _ | exact eg_abs _ _ | exact idv0 _ _ | exact idv1 _ _ _ (by assumption) | exact idv2 _ _ _ | (simp only [← HZ7.out, ← HZ5.out, ← HZ3.out, ← HZ1.out] <;> first | exact ok | exact eg0 _ | (rw [egcd_zero]; done) | (rw [egcd_zero]; simp; done) | exact elt _ _ (by assumption) | exact zback _ | exact eg_comb _ _ | exact eg_abs _ _ | exact idv0 _ _ | exact idv1 _ _ _ (by assumption) | exact idv2 _ _ _))
  have su8 : tw (Int.natAbs (u7)) ≤ 48 := by have e := HZ8.out; first | omega | (rw [← e]; rw [Int.natAbs_neg]; omega)
  have hd1 : decide (a = b) = false := decide_eq_false (by first | exact ok | exact eg0 _ | (rw [egcd_zero]; done) | (rw [egcd_zero]; simp; done) | exact elt _ _ (by assumption) | exact zback _ | exact eg_comb _ _ | exact eg_abs _ _ | exact idv0 _ _ | exact idv1 _ _ _ (by assumption) | exact idv2 _ _ _ | (simp only [← HZ7.out, ← HZ5.out, ← HZ3.out, ← HZ1.out] <;> first | exact ok | exact eg0 _ | (rw [egcd_zero]; done) | (rw [egcd_zero]; simp; done) | exact elt _ _ (by assumption) | exact zback _ | exact eg_comb _ _ | exact eg_abs _ _ | exact idv0 _ _ | exact idv1 _ _ _ (by assumption) | exact idv2 _ _ _))
  have lx6 := HF.out.c 0 rfl
  have lx7 := HF.out.c 1 rfl
  have lx8 := HF.out.c 2 rfl
  have lx9 := HF.out.c 3 rfl
  refine kS fun K hK => ?_
  have HG0 : Hid (Gr vw3 vw3) := Lib.hid (Gr.refl _)
  refine wp_region_planQ 71 [] [] (fun _ => 0) (fun _ => .cells #[] 0) [(true, 0), (true, 1), (true, 2), (true, 3), (true, 4), (true, 5), (true, 6), (true, 7), (true, 8), (false, 9), (true, 10), (true, 11), (true, 12), (true, 13), (true, 14), (true, 15), (true, 16), (true, 17), (false, 18), (true, 19), (true, 20), (true, 21), (true, 22), (true, 23), (true, 24), (true, 25), (true, 26), (false, 27), (true, 28), (true, 29), (true, 30), (true, 31), (true, 32), (true, 33), (false, 34), (true, 35), (true, 36), (true, 37), (true, 38), (true, 39), (true, 40), (true, 41), (true, 42), (true, 43), (true, 44), (true, 45), (true, 46), (true, 47), (true, 48), (true, 49), (true, 50), (true, 51), (true, 52), (true, 53), (true, 54), (true, 55), (true, 56), (true, 57), (true, 58), (true, 59), (true, 60), (true, 61), (true, 62), (true, 63), (true, 64), (true, 65), (true, 66), (true, 67), (true, 68), (true, 69), (true, 70)] (by kernel_rfl) (by kernel_rfl) (fun i hi => by cases hi) (fun i hi => by cases hi) (fun _ _ _ _ _ h => h) (fun T hT => ?_)
  iterate 2 refine tk ?_
  refine ck Tryz.call107 (fun w' hw => samez_any (a) (a) _ _ (rfl) (HF.out.r 4 rfl (HG0.out.trans hw)) om om (Lib.hid (HT.out.gr (Gr.trans HB.out hw)))) ?_
  iterate 3 refine tk ?_
  refine ck Tryz.call102 (fun w' hw => ziadd (a) (b) (u1) _ HZ1.out om om) ?_
  iterate 2 refine tk ?_
  refine wpPlan_callE rfl (by rfl) Tryz.call108 (by rfl) (fun w' hw => (zadd_any (a) (b) (u1) _ _ _ HZ2.out (by omega) (by omega) (HF.out.r 4 rfl (HG0.out.trans hw)) (HF.out.r 5 rfl (HG0.out.trans hw))).mono ?_)
  rintro e vv10 ⟨⟨rv3, rfl, bx10⟩, hg0⟩
  obtain ⟨ao3, nn3, cc3, rfl⟩ := Rn.sl bx10
  refine ⟨_, rfl, hg0, ?_⟩
  replace hg0 := Gr.trans hw hg0; clear hw
  replace HG0 := Lib.hid (HG0.out.trans hg0)
  have HGS := Lib.hid hg0; clear hg0
  replace HB := Lib.hid (HB.out.trans (HGS.out.mono HB.out.size))
  clear HGS
  have RN10 := Lib.hid bx10; clear bx10
  clear lx6; have lx6 := fun w' (h : Gr _ w') => HF.out.c 0 rfl w' (HG0.out.trans h)
  clear lx7; have lx7 := fun w' (h : Gr _ w') => HF.out.c 1 rfl w' (HG0.out.trans h)
  clear lx8; have lx8 := fun w' (h : Gr _ w') => HF.out.c 2 rfl w' (HG0.out.trans h)
  clear lx9; have lx9 := fun w' (h : Gr _ w') => HF.out.c 3 rfl w' (HG0.out.trans h)
  simp only [Act.put, lA, lB, lC]
  refine ck Tryz.call107 (fun w' hw => samez_any (u1) (u1) _ _ (rfl) (RN10.out.gr hw) om om (Lib.hid (HT.out.gr (Gr.trans HB.out hw)))) ?_
  iterate 4 refine tk ?_
  refine ck Tryz.call109 (fun w' hw => zisub (a) (b) (u3) _ HZ3.out om om) ?_
  iterate 2 refine tk ?_
  refine wpPlan_callE rfl (by rfl) Tryz.call110 (by rfl) (fun w' hw => (zsub_any (a) (b) (u3) _ _ _ HZ4.out (by omega) (by omega) (HF.out.r 4 rfl (HG0.out.trans hw)) (HF.out.r 5 rfl (HG0.out.trans hw))).mono ?_)
  rintro e vv11 ⟨⟨rv4, rfl, bx11⟩, hg0⟩
  obtain ⟨ao4, nn4, cc4, rfl⟩ := Rn.sl bx11
  refine ⟨_, rfl, hg0, ?_⟩
  replace hg0 := Gr.trans hw hg0; clear hw
  replace HG0 := Lib.hid (HG0.out.trans hg0)
  have HGS := Lib.hid hg0; clear hg0
  replace RN10 := Lib.hid (RN10.out.gr HGS.out)
  replace HB := Lib.hid (HB.out.trans (HGS.out.mono HB.out.size))
  clear HGS
  have RN11 := Lib.hid bx11; clear bx11
  clear lx6; have lx6 := fun w' (h : Gr _ w') => HF.out.c 0 rfl w' (HG0.out.trans h)
  clear lx7; have lx7 := fun w' (h : Gr _ w') => HF.out.c 1 rfl w' (HG0.out.trans h)
  clear lx8; have lx8 := fun w' (h : Gr _ w') => HF.out.c 2 rfl w' (HG0.out.trans h)
  clear lx9; have lx9 := fun w' (h : Gr _ w') => HF.out.c 3 rfl w' (HG0.out.trans h)
  simp only [Act.put, lA, lB, lC]
  refine ck Tryz.call107 (fun w' hw => samez_any (u3) (u3) _ _ (rfl) (RN11.out.gr hw) om om (Lib.hid (HT.out.gr (Gr.trans HB.out hw)))) ?_
  iterate 4 refine tk ?_
  refine ck Tryz.call94 (fun w' hw => zimul (a) (b) (u5) _ HZ5.out om om) ?_
  iterate 2 refine tk ?_
  refine wpPlan_callE rfl (by rfl) Tryz.call111 (by rfl) (fun w' hw => (zmul_any (a) (b) (u5) _ _ _ HZ6.out (by omega) (by omega) (HF.out.r 4 rfl (HG0.out.trans hw)) (HF.out.r 5 rfl (HG0.out.trans hw))).mono ?_)
  rintro e vv12 ⟨⟨rv5, rfl, bx12⟩, hg0⟩
  obtain ⟨ao5, nn5, cc5, rfl⟩ := Rn.sl bx12
  refine ⟨_, rfl, hg0, ?_⟩
  replace hg0 := Gr.trans hw hg0; clear hw
  replace HG0 := Lib.hid (HG0.out.trans hg0)
  have HGS := Lib.hid hg0; clear hg0
  replace RN10 := Lib.hid (RN10.out.gr HGS.out)
  replace RN11 := Lib.hid (RN11.out.gr HGS.out)
  replace HB := Lib.hid (HB.out.trans (HGS.out.mono HB.out.size))
  clear HGS
  have RN12 := Lib.hid bx12; clear bx12
  clear lx6; have lx6 := fun w' (h : Gr _ w') => HF.out.c 0 rfl w' (HG0.out.trans h)
  clear lx7; have lx7 := fun w' (h : Gr _ w') => HF.out.c 1 rfl w' (HG0.out.trans h)
  clear lx8; have lx8 := fun w' (h : Gr _ w') => HF.out.c 2 rfl w' (HG0.out.trans h)
  clear lx9; have lx9 := fun w' (h : Gr _ w') => HF.out.c 3 rfl w' (HG0.out.trans h)
  simp only [Act.put, lA, lB, lC]
  refine ck Tryz.call107 (fun w' hw => samez_any (u5) (u5) _ _ (rfl) (RN12.out.gr hw) om om (Lib.hid (HT.out.gr (Gr.trans HB.out hw)))) ?_
  iterate 3 refine tk ?_
  refine ck Tryz.call112 (fun w' hw => zineg (a) (u7) _ HZ7.out) ?_
  refine tk ?_
  refine wpPlan_callE rfl (by rfl) Tryz.call113 (by rfl) (fun w' hw => (zneg_any (a) (u7) _ _ HZ8.out (HF.out.r 4 rfl (HG0.out.trans hw))).mono ?_)
  rintro e vv13 ⟨⟨rv6, rfl, bx13⟩, hg0⟩
  obtain ⟨ao6, nn6, cc6, rfl⟩ := Rn.sl bx13
  refine ⟨_, rfl, hg0, ?_⟩
  replace hg0 := Gr.trans hw hg0; clear hw
  replace HG0 := Lib.hid (HG0.out.trans hg0)
  have HGS := Lib.hid hg0; clear hg0
  replace RN10 := Lib.hid (RN10.out.gr HGS.out)
  replace RN11 := Lib.hid (RN11.out.gr HGS.out)
  replace RN12 := Lib.hid (RN12.out.gr HGS.out)
  replace HB := Lib.hid (HB.out.trans (HGS.out.mono HB.out.size))
  clear HGS
  have RN13 := Lib.hid bx13; clear bx13
  clear lx6; have lx6 := fun w' (h : Gr _ w') => HF.out.c 0 rfl w' (HG0.out.trans h)
  clear lx7; have lx7 := fun w' (h : Gr _ w') => HF.out.c 1 rfl w' (HG0.out.trans h)
  clear lx8; have lx8 := fun w' (h : Gr _ w') => HF.out.c 2 rfl w' (HG0.out.trans h)
  clear lx9; have lx9 := fun w' (h : Gr _ w') => HF.out.c 3 rfl w' (HG0.out.trans h)
  simp only [Act.put, lA, lB, lC]
  refine ck Tryz.call107 (fun w' hw => samez_any (u7) (u7) _ _ (rfl) (RN13.out.gr hw) om om (Lib.hid (HT.out.gr (Gr.trans HB.out hw)))) ?_
  iterate 3 refine tk ?_
  refine ck Tryz.call114 (fun w' hw => zisign (a) (s) _ HSA.out) ?_
  refine tk ?_
  refine ck Tryz.call115 (fun w' hw => zrsign (a) (s) _ _ HSA.out (HF.out.r 4 rfl (HG0.out.trans hw))) ?_
  iterate 5 refine tk ?_
  refine ck Tryz.call101 (fun w' hw => zicmp (a) (b) (1) _ (by have e9 : ((a) : Int) > (b) := (by first | exact ok | exact eg0 _ | (rw [egcd_zero]; done) | (rw [egcd_zero]; simp; done) | exact elt _ _ (by assumption) | exact zback _ | exact eg_comb _ _ | exact eg_abs _ _ | exact idv0 _ _ | exact idv1 _ _ _ (by assumption) | exact idv2 _ _ _ | (simp only [← HZ7.out, ← HZ5.out, ← HZ3.out, ← HZ1.out] <;> first | exact ok | exact eg0 _ | (rw [egcd_zero]; done) | (rw [egcd_zero]; simp; done) | exact elt _ _ (by assumption) | exact zback _ | exact eg_comb _ _ | exact eg_abs _ _ | exact idv0 _ _ | exact idv1 _ _ _ (by assumption) | exact idv2 _ _ _)); exact sgs_gt e9) om om) ?_
  iterate 13 refine tk ?_
  refine ck Tryz.call70 (fun w' hw => abs_any (a) _) ?_
  refine ck Tryz.call73 (fun w' hw => nztexts (Int.natAbs (a)) tx _ HTX.out om (Lib.hid (HT.out.gr (Gr.trans HB.out hw)))) ?_
  iterate 2 refine tk ?_
  refine ck Tryz.call116 (fun w' hw => zrtext _ (Int.natAbs (a)) tx _ HTX.out (HF.out.r 4 rfl (HG0.out.trans hw)) (by omega)) ?_
  iterate 3 refine tk ?_
  refine ck Tryz.call23 (fun w' hw => worksz_any _ (Lib.hid (HT.out.gr (Gr.trans HB.out hw)))) ?_
  refine tk ?_
  refine wpPlan_nil (hT.out _ _ ?_)
  intro G vw4 hg hf
  simp only [puts, Act.put, lA, lB, lC, lD, lE, ↓reduceIte, Nat.reduceEqDiff, List.append_eq, List.cons_append, List.nil_append]
  have HG := Lib.hid (((((HF.out.gr (HG0.out.trans hg)).ar (RN10.out.gr hg)).ar (RN11.out.gr hg)).ar (RN12.out.gr hg)).ar (RN13.out.gr hg))
  simp only [List.zip_cons_cons, List.zip_nil_right, List.map_cons, List.map_nil, lF, lG] at HG
  clear hT T HF hg hf HG0 RN10 RN11 RN12 RN13 lx6 lx7 lx8 lx9 HB
  go_wp2
  refine hK.out _ _ ?_; clear hK K
  show Code.wp _ _ _ _ _
  refine fH (((((((((((HG.out).er 9).er 8).er 7).er 6).er 5).er 4).er 3).er 2).er 1).er 0) fun Wx5 HF => ?_
  clear HG
  clear hd1
  refine wp_ret ?_
  try simp only [Exit.then, Exit.inBlock]
  exact bodyPost_ret (v := .bool true) (by simp [results, Tryz.results15, go_sem]) rfl ⟨rfl, HF.out.1⟩

set_option maxRecDepth 100000 in
set_option maxHeartbeats 8000000 in
theorem sumz_eq (bbx : Bool) (vx : Value) (kx : Nat) (fx : Nat → Nat) (mx : Nat) (bby : Bool) (vy : Value) (ky : Nat) (fy : Nat → Nat) (my : Nat) (a : Int) (s : Int) (tx : ByteArray) (w : World) (HWx : Hid (Wa w vx kx fx)) (HFx : Hid (∀ i, i < kx → fx i < 4294967296)) (HVx : Hid (vl fx kx = mx)) (HAx : Hid ((if bbx then -((mx : Nat) : Int) else ((mx : Nat) : Int)) = a)) (HWy : Hid (Wa w vy ky fy)) (HFy : Hid (∀ i, i < ky → fy i < 4294967296)) (HVy : Hid (vl fy ky = my)) (HAy : Hid ((if bby then -((my : Nat) : Int) else ((my : Nat) : Int)) = a)) (hkx : kx ≤ 16) (hky : ky ≤ 16)  (HSA : Hid (sgI a = s)) (HTX : Hid ((⟨(Lib.decDigits (Int.natAbs a)).toArray⟩ : ByteArray) = tx)) (HT : Hid (Tab w)) :
    Calls Tryz.prog 15 #[.agg #[.bool bbx, vx], .agg #[.bool bby, vy]] w fun e w' => e = .returned (.bool true) ∧ Below w.heap.size w w' := by
  obtain ⟨ao_x, c_x, rfl⟩ := HWx.out.slice
  obtain ⟨ao_y, c_y, rfl⟩ := HWy.out.slice
  have hm_x : wl mx ≤ 16 := by rw [← HVx.out]; have := wl_le.2 (vl_lt HFx.out); omega
  have hb_x : wl (Int.natAbs (a)) ≤ 16 := by rw [zsize HAx.out]; exact hm_x
  have ht_x : tw (Int.natAbs (a)) ≤ 48 := by have := tw_wl (Int.natAbs (a)); omega
  have hm_y : wl my ≤ 16 := by rw [← HVy.out]; have := wl_le.2 (vl_lt HFy.out); omega
  have hb_y : wl (Int.natAbs (a)) ≤ 16 := by rw [zsize HAy.out]; exact hm_y
  have ht_y : tw (Int.natAbs (a)) ≤ 48 := by have := tw_wl (Int.natAbs (a)); omega
  go_enter Tryz.func15, Tryz.ntmps15
  have HF := Lib.hid (hp0 w)
  refine kS fun K hK => ?_
  refine wp_region_lit ?_
  go_wp2
  refine hK.out _ _ ?_; clear hK K
  show Code.wp _ _ _ _ _
  refine fH (((HF.out).al (b := w.heap.size) (by first | rfl | simp) (by decide)).al (b := w.heap.size + 1) (by first | rfl | simp) (by decide)) fun Wx0 HG => ?_
  clear HF; have HF := HG; clear HG
  generalize w.heap.size + 1 = gx1 at *
  refine wp_seq ?_
  have lx0 := HF.out.c 0 rfl
  have lx1 := HF.out.c 1 rfl
  refine kS fun K hK => ?_
  have HG0 : Hid (Gr Wx0 Wx0) := Lib.hid (Gr.refl _)
  refine sq 5 [(true, 0), (true, 1), (false, 2), (true, 3), (true, 4)] fun T hT => ?_
  iterate 2 refine tk ?_
  refine wpPlan_slice (cs := #[.bool (bbx), (.slice ao_x kx c_x), .bool (bby), (.slice ao_y ky c_y)]) (E := 25) (n := 2) rfl (by rfl) (fun w' hw => ?_) (fun gx3 vv3 hg0 yx3 bx3 => ?_)
  · go_simp
  clear yx3
  replace HG0 := Lib.hid (HG0.out.trans hg0)
  have HGS := Lib.hid hg0; clear hg0
  clear HGS
  have BX3 := Lib.hid bx3; clear bx3
  clear lx0; have lx0 := fun w' (h : Gr _ w') => HF.out.c 0 rfl w' (HG0.out.trans h)
  clear lx1; have lx1 := fun w' (h : Gr _ w') => HF.out.c 1 rfl w' (HG0.out.trans h)
  simp only [Act.put, lA, lB, lC]
  refine ck Tryz.call104 (fun w' hw => few2_ok _ _ _ _ _ _ _ _ 16 gx3 _ (BX3.out.gr hw) (by omega) (by omega)) ?_
  refine tk ?_
  refine wpPlan_nil (hT.out _ _ ?_)
  intro vw1 hg
  simp only [puts, Act.put, lA, lB, lC, lD, lE, ↓reduceIte, Nat.reduceEqDiff]
  have HG := Lib.hid (HF.out.gr (HG0.out.trans hg))
  clear hT T HF hg HG0 BX3 lx0 lx1
  go_wp2
  refine hK.out _ _ ?_; clear hK K
  show Code.wp _ _ _ _ _
  have HF := HG; clear HG
  refine wp_cond_false (by rfl) ?_
  refine wp_skip ?_
  show Code.wp _ _ _ _ _
  have HB := HPb HF
  have lx0 := HF.out.c 0 rfl
  have lx1 := HF.out.c 1 rfl
  refine kS fun K hK => ?_
  have HG0 : Hid (Gr vw1 vw1) := Lib.hid (Gr.refl _)
  refine wp_region_plan 12 [8, 9, 10, 11] [] (fun i => if i = 8 then 5 else if i = 9 then 6 else if i = 10 then 7 else 8) (fun i => if i = 8 then .cells #[.int .u64 0, .string ⟨#[]⟩, .bool false] 38 else if i = 9 then .cells #[.int .u64 0, .string ⟨#[]⟩, .bool false] 38 else if i = 10 then .cells #[.bool false, .slice none 0 0] 60 else .cells #[.bool false, .slice none 0 0] 60) [(true, 0), (true, 2), (true, 4), (true, 6), (true, 1), (true, 3), (false, 5), (false, 7)] (by kernel_rfl) (by kernel_rfl) (by intro i hi; simp only [List.mem_cons, List.not_mem_nil, or_false] at hi; rcases hi with rfl | rfl | rfl | rfl <;> exact ⟨_, rfl, rfl, rfl, by simp, fun ρ w => by kernel_rfl⟩) (fun i hi => by cases hi) (fun _ _ _ _ _ h => h) (fun T hT => ?_)
  iterate 4 refine tk ?_
  refine ck Tryz.call19 (fun w' hw => zlof bbx kx fx mx a ao_x c_x w' (Lib.hid (HWx.out.gr (Gr.trans HB.out hw))) HFx HVx HAx om om) ?_
  refine ck Tryz.call19 (fun w' hw => zlof bby ky fy my a ao_y c_y w' (Lib.hid (HWy.out.gr (Gr.trans HB.out hw))) HFy HVy HAy om om) ?_
  refine wpPlan_callE rfl (by rfl) Tryz.call105 (by rfl) (fun w' hw => ((zlref bbx kx fx mx a ao_x c_x w' (Lib.hid (HWx.out.gr (Gr.trans HB.out hw))) HFx HVx HAx om om)).mono ?_)
  rintro e vv4 ⟨⟨rv1, rfl, bx4⟩, hg0⟩
  obtain ⟨ao1, nn1, cc1, rfl⟩ := Rn.sl bx4
  refine ⟨_, rfl, hg0, ?_⟩
  replace hg0 := Gr.trans hw hg0; clear hw
  replace HG0 := Lib.hid (HG0.out.trans hg0)
  have HGS := Lib.hid hg0; clear hg0
  replace HB := Lib.hid (HB.out.trans (HGS.out.mono HB.out.size))
  clear HGS
  have RN4 := Lib.hid bx4; clear bx4
  clear lx0; have lx0 := fun w' (h : Gr _ w') => HF.out.c 0 rfl w' (HG0.out.trans h)
  clear lx1; have lx1 := fun w' (h : Gr _ w') => HF.out.c 1 rfl w' (HG0.out.trans h)
  simp only [Act.put, lA, lB, lC]
  refine wpPlan_callE rfl (by rfl) Tryz.call105 (by rfl) (fun w' hw => ((zlref bby ky fy my a ao_y c_y w' (Lib.hid (HWy.out.gr (Gr.trans HB.out hw))) HFy HVy HAy om om)).mono ?_)
  rintro e vv5 ⟨⟨rv2, rfl, bx5⟩, hg0⟩
  obtain ⟨ao2, nn2, cc2, rfl⟩ := Rn.sl bx5
  refine ⟨_, rfl, hg0, ?_⟩
  replace hg0 := Gr.trans hw hg0; clear hw
  replace HG0 := Lib.hid (HG0.out.trans hg0)
  have HGS := Lib.hid hg0; clear hg0
  replace RN4 := Lib.hid (RN4.out.gr HGS.out)
  replace HB := Lib.hid (HB.out.trans (HGS.out.mono HB.out.size))
  clear HGS
  have RN5 := Lib.hid bx5; clear bx5
  clear lx0; have lx0 := fun w' (h : Gr _ w') => HF.out.c 0 rfl w' (HG0.out.trans h)
  clear lx1; have lx1 := fun w' (h : Gr _ w') => HF.out.c 1 rfl w' (HG0.out.trans h)
  simp only [Act.put, lA, lB, lC]
  refine wpPlan_nil (hT.out _ _ ?_)
  intro G vw2 hg hf
  simp only [puts, Act.put, lA, lB, lC, lD, lE, ↓reduceIte, Nat.reduceEqDiff]
  have HG := Lib.hid (((HF.out.fr (HG0.out.trans hg) hf (zs := [(#[.int .u64 0, .string ⟨#[]⟩, .bool false], 38), (#[.int .u64 0, .string ⟨#[]⟩, .bool false], 38), (#[.bool false, .slice none 0 0], 60), (#[.bool false, .slice none 0 0], 60)]) rfl (by decide) (by decide)).ar (RN4.out.gr hg)).ar (RN5.out.gr hg))
  simp only [List.zip_cons_cons, List.zip_nil_right, List.map_cons, List.map_nil, lF, lG] at HG
  clear hT T HF hg hf HG0 RN4 RN5 lx0 lx1 HB
  generalize G 8 = gx6 at *
  generalize G 9 = gx7 at *
  generalize G 10 = gx8 at *
  generalize G 11 = gx9 at *
  have lx6 := HG.out.c 2 rfl; have fx6 := HG.out.f 2 rfl
  have lx7 := HG.out.c 3 rfl; have fx7 := HG.out.f 3 rfl
  have lx8 := HG.out.c 4 rfl; have fx8 := HG.out.f 4 rfl
  have lx9 := HG.out.c 5 rfl; have fx9 := HG.out.f 5 rfl
  have r0 := Gr.refl vw2
  obtain ⟨d6_7, d7_6⟩ := HG.out.ne 2 3 rfl rfl (by decide)
  obtain ⟨d6_8, d8_6⟩ := HG.out.ne 2 4 rfl rfl (by decide)
  obtain ⟨d6_9, d9_6⟩ := HG.out.ne 2 5 rfl rfl (by decide)
  obtain ⟨d7_8, d8_7⟩ := HG.out.ne 3 4 rfl rfl (by decide)
  obtain ⟨d7_9, d9_7⟩ := HG.out.ne 3 5 rfl rfl (by decide)
  obtain ⟨d8_9, d9_8⟩ := HG.out.ne 4 5 rfl rfl (by decide)
  go_wp2
  refine hK.out _ _ ?_; clear hK K
  show Code.wp _ _ _ _ _
  clear r0 lx6 fx6 lx7 fx7 lx8 fx8 lx9 fx9 d6_7 d7_6 d6_8 d8_6 d6_9 d9_6 d7_8 d8_7 d7_9 d9_7 d8_9 d9_8
  refine fH (((((((((HG.out).put2 2 0 rfl).put 2 2 _ rfl).put2 3 0 rfl).put 3 2 _ rfl).put2 4 0 rfl).put2 5 0 rfl).er 1).er 0) fun Wx3 HF => ?_
  clear HG
  have lx8 := HF.out.c 2 rfl
  have lx9 := HF.out.c 3 rfl
  refine kS fun K hK => ?_
  refine sq 4 [(true, 0), (true, 1), (true, 2), (true, 3)] fun T hT => ?_
  iterate 2 refine tk ?_
  refine ck Tryz.call106 (fun w' hw => zzcmp (a) (a) (0) _ _ _ (by have e9 : ((a) : Int) = (a) := (by first | exact ok | exact eg0 _ | (rw [egcd_zero]; done) | (rw [egcd_zero]; simp; done) | exact elt _ _ (by assumption) | exact zback _ | exact eg_comb _ _ | exact eg_abs _ _ | exact idv0 _ _ | exact idv1 _ _ _ (by assumption) | exact idv2 _ _ _); exact sgs_eq e9) (by omega) (by omega) (HF.out.r 4 rfl hw) (HF.out.r 5 rfl hw)) ?_
  refine tk ?_
  refine nlS hT HF fun vw3 HG => ?_
  clear hT T HF lx8 lx9
  go_wp2
  refine hK.out _ _ ?_; clear hK K
  show Code.wp _ _ _ _ _
  have HF := HG; clear HG
  have HB := HPb HF
  obtain ⟨u1, HZ1⟩ : ∃ z, Hid ((a) + (a) = z) := ⟨_, Lib.hid rfl⟩
  have su1 : wl (Int.natAbs (u1)) ≤ 17 := by rw [← HZ1.out]; have := wl_iadd (a) (a); omega
  have HZ2 : Hid ((a) + (a) = u1) := Lib.hid (by first | exact ok | exact eg0 _ | (rw [egcd_zero]; done) | (rw [egcd_zero]; simp; done) | exact elt _ _ (by assumption) | exact zback _ | exact eg_comb _ _ | exact eg_abs _ _ | exact idv0 _ _ | exact idv1 _ _ _ (by assumption) | exact idv2 _ _ _ | (simp only [← HZ1.out] <;> first | exact ok | exact eg0 _ | (rw [egcd_zero]; done) | (rw [egcd_zero]; simp; done) | exact elt _ _ (by assumption) | exact zback _ | exact eg_comb _ _ | exact eg_abs _ _ | exact idv0 _ _ | exact idv1 _ _ _ (by assumption) | exact idv2 _ _ _))
  have su2 : tw (Int.natAbs (u1)) ≤ 49 := by have e := HZ2.out; first | omega | (rw [← e]; have := tw_iadd (a) (a); omega)
  have HZ3 : Hid ((a) - (a) = 0) := Lib.hid (by first | exact ok | exact eg0 _ | (rw [egcd_zero]; done) | (rw [egcd_zero]; simp; done) | exact elt _ _ (by assumption) | exact zback _ | exact eg_comb _ _ | exact eg_abs _ _ | exact idv0 _ _ | exact idv1 _ _ _ (by assumption) | exact idv2 _ _ _ | (simp only [← HZ1.out] <;> first | exact ok | exact eg0 _ | (rw [egcd_zero]; done) | (rw [egcd_zero]; simp; done) | exact elt _ _ (by assumption) | exact zback _ | exact eg_comb _ _ | exact eg_abs _ _ | exact idv0 _ _ | exact idv1 _ _ _ (by assumption) | exact idv2 _ _ _))
  have su3 : wl (Int.natAbs (0)) ≤ 17 := by have e := HZ3.out; first | omega | (rw [← e]; have := wl_isub (a) (a); omega) | exact wl_le.2 (by decide +kernel)
  have HZ4 : Hid ((a) - (a) = 0) := Lib.hid (by first | exact ok | exact eg0 _ | (rw [egcd_zero]; done) | (rw [egcd_zero]; simp; done) | exact elt _ _ (by assumption) | exact zback _ | exact eg_comb _ _ | exact eg_abs _ _ | exact idv0 _ _ | exact idv1 _ _ _ (by assumption) | exact idv2 _ _ _ | (simp only [← HZ1.out] <;> first | exact ok | exact eg0 _ | (rw [egcd_zero]; done) | (rw [egcd_zero]; simp; done) | exact elt _ _ (by assumption) | exact zback _ | exact eg_comb _ _ | exact eg_abs _ _ | exact idv0 _ _ | exact idv1 _ _ _ (by assumption) | exact idv2 _ _ _))
  have su4 : tw (Int.natAbs (0)) ≤ 49 := by have e := HZ4.out; first | omega | (rw [← e]; have := tw_isub (a) (a); omega) | exact tw_le.2 (by decide +kernel)
  obtain ⟨u5, HZ5⟩ : ∃ z, Hid ((a) * (a) = z) := ⟨_, Lib.hid rfl⟩
  have su5 : wl (Int.natAbs (u5)) ≤ 32 := by rw [← HZ5.out]; have := wl_imul (a) (a); omega
  have HZ6 : Hid ((a) * (a) = u5) := Lib.hid (by first | exact ok | exact eg0 _ | (rw [egcd_zero]; done) | (rw [egcd_zero]; simp; done) | exact elt _ _ (by assumption) | exact zback _ | exact eg_comb _ _ | exact eg_abs _ _ | exact idv0 _ _ | exact idv1 _ _ _ (by assumption) | exact idv2 _ _ _ | (simp only [← HZ5.out, ← HZ1.out] <;> first | exact ok | exact eg0 _ | (rw [egcd_zero]; done) | (rw [egcd_zero]; simp; done) | exact elt _ _ (by assumption) | exact zback _ | exact eg_comb _ _ | exact eg_abs _ _ | exact idv0 _ _ | exact idv1 _ _ _ (by assumption) | exact idv2 _ _ _))
  have su6 : tw (Int.natAbs (u5)) ≤ 96 := by have e := HZ6.out; first | omega | (rw [← e]; have := tw_imul (a) (a); omega)
  obtain ⟨u7, HZ7⟩ : ∃ z, Hid (-(a) = z) := ⟨_, Lib.hid rfl⟩
  have su7 : wl (Int.natAbs (u7)) ≤ 16 := by rw [← HZ7.out]; rw [Int.natAbs_neg]; omega
  have HZ8 : Hid (-(a) = u7) := Lib.hid (by first | exact ok | exact eg0 _ | (rw [egcd_zero]; done) | (rw [egcd_zero]; simp; done) | exact elt _ _ (by assumption) | exact zback _ | exact eg_comb _ _ | exact eg_abs _ _ | exact idv0 _ _ | exact idv1 _ _ _ (by assumption) | exact idv2 _ _ _ | (simp only [← HZ7.out, ← HZ5.out, ← HZ1.out] <;> first | exact ok | exact eg0 _ | (rw [egcd_zero]; done) | (rw [egcd_zero]; simp; done) | exact elt _ _ (by assumption) | exact zback _ | exact eg_comb _ _ | exact eg_abs _ _ | exact idv0 _ _ | exact idv1 _ _ _ (by assumption) | exact idv2 _ _ _))
  have su8 : tw (Int.natAbs (u7)) ≤ 48 := by have e := HZ8.out; first | omega | (rw [← e]; rw [Int.natAbs_neg]; omega)
  have lx6 := HF.out.c 0 rfl
  have lx7 := HF.out.c 1 rfl
  have lx8 := HF.out.c 2 rfl
  have lx9 := HF.out.c 3 rfl
  refine kS fun K hK => ?_
  have HG0 : Hid (Gr vw3 vw3) := Lib.hid (Gr.refl _)
  refine wp_region_planQ 71 [] [] (fun _ => 0) (fun _ => .cells #[] 0) [(true, 0), (true, 1), (true, 2), (true, 3), (true, 4), (true, 5), (true, 6), (true, 7), (true, 8), (false, 9), (true, 10), (true, 11), (true, 12), (true, 13), (true, 14), (true, 15), (true, 16), (true, 17), (false, 18), (true, 19), (true, 20), (true, 21), (true, 22), (true, 23), (true, 24), (true, 25), (true, 26), (false, 27), (true, 28), (true, 29), (true, 30), (true, 31), (true, 32), (true, 33), (false, 34), (true, 35), (true, 36), (true, 37), (true, 38), (true, 39), (true, 40), (true, 41), (true, 42), (true, 43), (true, 44), (true, 45), (true, 46), (true, 47), (true, 48), (true, 49), (true, 50), (true, 51), (true, 52), (true, 53), (true, 54), (true, 55), (true, 56), (true, 57), (true, 58), (true, 59), (true, 60), (true, 61), (true, 62), (true, 63), (true, 64), (true, 65), (true, 66), (true, 67), (true, 68), (true, 69), (true, 70)] (by kernel_rfl) (by kernel_rfl) (fun i hi => by cases hi) (fun i hi => by cases hi) (fun _ _ _ _ _ h => h) (fun T hT => ?_)
  iterate 2 refine tk ?_
  refine ck Tryz.call107 (fun w' hw => samez_any (a) (a) _ _ (rfl) (HF.out.r 4 rfl (HG0.out.trans hw)) om om (Lib.hid (HT.out.gr (Gr.trans HB.out hw)))) ?_
  iterate 3 refine tk ?_
  refine ck Tryz.call102 (fun w' hw => ziadd (a) (a) (u1) _ HZ1.out om om) ?_
  iterate 2 refine tk ?_
  refine wpPlan_callE rfl (by rfl) Tryz.call108 (by rfl) (fun w' hw => (zadd_any (a) (a) (u1) _ _ _ HZ2.out (by omega) (by omega) (HF.out.r 4 rfl (HG0.out.trans hw)) (HF.out.r 5 rfl (HG0.out.trans hw))).mono ?_)
  rintro e vv10 ⟨⟨rv3, rfl, bx10⟩, hg0⟩
  obtain ⟨ao3, nn3, cc3, rfl⟩ := Rn.sl bx10
  refine ⟨_, rfl, hg0, ?_⟩
  replace hg0 := Gr.trans hw hg0; clear hw
  replace HG0 := Lib.hid (HG0.out.trans hg0)
  have HGS := Lib.hid hg0; clear hg0
  replace HB := Lib.hid (HB.out.trans (HGS.out.mono HB.out.size))
  clear HGS
  have RN10 := Lib.hid bx10; clear bx10
  clear lx6; have lx6 := fun w' (h : Gr _ w') => HF.out.c 0 rfl w' (HG0.out.trans h)
  clear lx7; have lx7 := fun w' (h : Gr _ w') => HF.out.c 1 rfl w' (HG0.out.trans h)
  clear lx8; have lx8 := fun w' (h : Gr _ w') => HF.out.c 2 rfl w' (HG0.out.trans h)
  clear lx9; have lx9 := fun w' (h : Gr _ w') => HF.out.c 3 rfl w' (HG0.out.trans h)
  simp only [Act.put, lA, lB, lC]
  refine ck Tryz.call107 (fun w' hw => samez_any (u1) (u1) _ _ (rfl) (RN10.out.gr hw) om om (Lib.hid (HT.out.gr (Gr.trans HB.out hw)))) ?_
  iterate 4 refine tk ?_
  refine ck Tryz.call109 (fun w' hw => zisub (a) (a) (0) _ HZ3.out om om) ?_
  iterate 2 refine tk ?_
  refine wpPlan_callE rfl (by rfl) Tryz.call110 (by rfl) (fun w' hw => (zsub_any (a) (a) (0) _ _ _ HZ4.out (by omega) (by omega) (HF.out.r 4 rfl (HG0.out.trans hw)) (HF.out.r 5 rfl (HG0.out.trans hw))).mono ?_)
  rintro e vv11 ⟨⟨rv4, rfl, bx11⟩, hg0⟩
  obtain ⟨ao4, nn4, cc4, rfl⟩ := Rn.sl bx11
  refine ⟨_, rfl, hg0, ?_⟩
  replace hg0 := Gr.trans hw hg0; clear hw
  replace HG0 := Lib.hid (HG0.out.trans hg0)
  have HGS := Lib.hid hg0; clear hg0
  replace RN10 := Lib.hid (RN10.out.gr HGS.out)
  replace HB := Lib.hid (HB.out.trans (HGS.out.mono HB.out.size))
  clear HGS
  have RN11 := Lib.hid bx11; clear bx11
  clear lx6; have lx6 := fun w' (h : Gr _ w') => HF.out.c 0 rfl w' (HG0.out.trans h)
  clear lx7; have lx7 := fun w' (h : Gr _ w') => HF.out.c 1 rfl w' (HG0.out.trans h)
  clear lx8; have lx8 := fun w' (h : Gr _ w') => HF.out.c 2 rfl w' (HG0.out.trans h)
  clear lx9; have lx9 := fun w' (h : Gr _ w') => HF.out.c 3 rfl w' (HG0.out.trans h)
  simp only [Act.put, lA, lB, lC]
  refine ck Tryz.call107 (fun w' hw => samez_any (0) (0) _ _ (rfl) (RN11.out.gr hw) om om (Lib.hid (HT.out.gr (Gr.trans HB.out hw)))) ?_
  iterate 4 refine tk ?_
  refine ck Tryz.call94 (fun w' hw => zimul (a) (a) (u5) _ HZ5.out om om) ?_
  iterate 2 refine tk ?_
  refine wpPlan_callE rfl (by rfl) Tryz.call111 (by rfl) (fun w' hw => (zmul_any (a) (a) (u5) _ _ _ HZ6.out (by omega) (by omega) (HF.out.r 4 rfl (HG0.out.trans hw)) (HF.out.r 5 rfl (HG0.out.trans hw))).mono ?_)
  rintro e vv12 ⟨⟨rv5, rfl, bx12⟩, hg0⟩
  obtain ⟨ao5, nn5, cc5, rfl⟩ := Rn.sl bx12
  refine ⟨_, rfl, hg0, ?_⟩
  replace hg0 := Gr.trans hw hg0; clear hw
  replace HG0 := Lib.hid (HG0.out.trans hg0)
  have HGS := Lib.hid hg0; clear hg0
  replace RN10 := Lib.hid (RN10.out.gr HGS.out)
  replace RN11 := Lib.hid (RN11.out.gr HGS.out)
  replace HB := Lib.hid (HB.out.trans (HGS.out.mono HB.out.size))
  clear HGS
  have RN12 := Lib.hid bx12; clear bx12
  clear lx6; have lx6 := fun w' (h : Gr _ w') => HF.out.c 0 rfl w' (HG0.out.trans h)
  clear lx7; have lx7 := fun w' (h : Gr _ w') => HF.out.c 1 rfl w' (HG0.out.trans h)
  clear lx8; have lx8 := fun w' (h : Gr _ w') => HF.out.c 2 rfl w' (HG0.out.trans h)
  clear lx9; have lx9 := fun w' (h : Gr _ w') => HF.out.c 3 rfl w' (HG0.out.trans h)
  simp only [Act.put, lA, lB, lC]
  refine ck Tryz.call107 (fun w' hw => samez_any (u5) (u5) _ _ (rfl) (RN12.out.gr hw) om om (Lib.hid (HT.out.gr (Gr.trans HB.out hw)))) ?_
  iterate 3 refine tk ?_
  refine ck Tryz.call112 (fun w' hw => zineg (a) (u7) _ HZ7.out) ?_
  refine tk ?_
  refine wpPlan_callE rfl (by rfl) Tryz.call113 (by rfl) (fun w' hw => (zneg_any (a) (u7) _ _ HZ8.out (HF.out.r 4 rfl (HG0.out.trans hw))).mono ?_)
  rintro e vv13 ⟨⟨rv6, rfl, bx13⟩, hg0⟩
  obtain ⟨ao6, nn6, cc6, rfl⟩ := Rn.sl bx13
  refine ⟨_, rfl, hg0, ?_⟩
  replace hg0 := Gr.trans hw hg0; clear hw
  replace HG0 := Lib.hid (HG0.out.trans hg0)
  have HGS := Lib.hid hg0; clear hg0
  replace RN10 := Lib.hid (RN10.out.gr HGS.out)
  replace RN11 := Lib.hid (RN11.out.gr HGS.out)
  replace RN12 := Lib.hid (RN12.out.gr HGS.out)
  replace HB := Lib.hid (HB.out.trans (HGS.out.mono HB.out.size))
  clear HGS
  have RN13 := Lib.hid bx13; clear bx13
  clear lx6; have lx6 := fun w' (h : Gr _ w') => HF.out.c 0 rfl w' (HG0.out.trans h)
  clear lx7; have lx7 := fun w' (h : Gr _ w') => HF.out.c 1 rfl w' (HG0.out.trans h)
  clear lx8; have lx8 := fun w' (h : Gr _ w') => HF.out.c 2 rfl w' (HG0.out.trans h)
  clear lx9; have lx9 := fun w' (h : Gr _ w') => HF.out.c 3 rfl w' (HG0.out.trans h)
  simp only [Act.put, lA, lB, lC]
  refine ck Tryz.call107 (fun w' hw => samez_any (u7) (u7) _ _ (rfl) (RN13.out.gr hw) om om (Lib.hid (HT.out.gr (Gr.trans HB.out hw)))) ?_
  iterate 3 refine tk ?_
  refine ck Tryz.call114 (fun w' hw => zisign (a) (s) _ HSA.out) ?_
  refine tk ?_
  refine ck Tryz.call115 (fun w' hw => zrsign (a) (s) _ _ HSA.out (HF.out.r 4 rfl (HG0.out.trans hw))) ?_
  iterate 5 refine tk ?_
  refine ck Tryz.call101 (fun w' hw => zicmp (a) (a) (0) _ (by have e9 : ((a) : Int) = (a) := (by first | exact ok | exact eg0 _ | (rw [egcd_zero]; done) | (rw [egcd_zero]; simp; done) | exact elt _ _ (by assumption) | exact zback _ | exact eg_comb _ _ | exact eg_abs _ _ | exact idv0 _ _ | exact idv1 _ _ _ (by assumption) | exact idv2 _ _ _ | (simp only [← HZ7.out, ← HZ5.out, ← HZ1.out] <;> first | exact ok | exact eg0 _ | (rw [egcd_zero]; done) | (rw [egcd_zero]; simp; done) | exact elt _ _ (by assumption) | exact zback _ | exact eg_comb _ _ | exact eg_abs _ _ | exact idv0 _ _ | exact idv1 _ _ _ (by assumption) | exact idv2 _ _ _)); exact sgs_eq e9) om om) ?_
  iterate 13 refine tk ?_
  refine ck Tryz.call70 (fun w' hw => abs_any (a) _) ?_
  refine ck Tryz.call73 (fun w' hw => nztexts (Int.natAbs (a)) tx _ HTX.out om (Lib.hid (HT.out.gr (Gr.trans HB.out hw)))) ?_
  iterate 2 refine tk ?_
  refine ck Tryz.call116 (fun w' hw => zrtext _ (Int.natAbs (a)) tx _ HTX.out (HF.out.r 4 rfl (HG0.out.trans hw)) (by omega)) ?_
  iterate 3 refine tk ?_
  refine ck Tryz.call23 (fun w' hw => worksz_any _ (Lib.hid (HT.out.gr (Gr.trans HB.out hw)))) ?_
  refine tk ?_
  refine wpPlan_nil (hT.out _ _ ?_)
  intro G vw4 hg hf
  simp only [puts, Act.put, lA, lB, lC, lD, lE, ↓reduceIte, Nat.reduceEqDiff, List.append_eq, List.cons_append, List.nil_append]
  have HG := Lib.hid (((((HF.out.gr (HG0.out.trans hg)).ar (RN10.out.gr hg)).ar (RN11.out.gr hg)).ar (RN12.out.gr hg)).ar (RN13.out.gr hg))
  simp only [List.zip_cons_cons, List.zip_nil_right, List.map_cons, List.map_nil, lF, lG] at HG
  clear hT T HF hg hf HG0 RN10 RN11 RN12 RN13 lx6 lx7 lx8 lx9 HB
  go_wp2
  refine hK.out _ _ ?_; clear hK K
  show Code.wp _ _ _ _ _
  refine fH (((((((((((HG.out).er 9).er 8).er 7).er 6).er 5).er 4).er 3).er 2).er 1).er 0) fun Wx5 HF => ?_
  clear HG
  refine wp_ret ?_
  try simp only [Exit.then, Exit.inBlock]
  exact bodyPost_ret (v := .bool true) (by simp [results, Tryz.results15, go_sem]) rfl ⟨rfl, HF.out.1⟩

set_option maxRecDepth 100000 in
set_option maxHeartbeats 4000000 in
theorem sumz_big1 (bbx : Bool) (vx : Value) (kx : Nat) (fx : Nat → Nat) (mx : Nat) (bby : Bool) (vy : Value) (ky : Nat) (fy : Nat → Nat) (my : Nat) (a b : Int)  (w : World) (HWx : Hid (Wa w vx kx fx)) (HFx : Hid (∀ i, i < kx → fx i < 4294967296)) (HVx : Hid (vl fx kx = mx)) (HAx : Hid ((if bbx then -((mx : Nat) : Int) else ((mx : Nat) : Int)) = a)) (HWy : Hid (Wa w vy ky fy)) (HFy : Hid (∀ i, i < ky → fy i < 4294967296)) (HVy : Hid (vl fy ky = my)) (HAy : Hid ((if bby then -((my : Nat) : Int) else ((my : Nat) : Int)) = b))  (hkx : 16 < kx) (HT : Hid (Tab w)) :
    Calls Tryz.prog 15 #[.agg #[.bool bbx, vx], .agg #[.bool bby, vy]] w fun e w' => e = .returned (.bool true) ∧ Below w.heap.size w w' := by
  obtain ⟨ao_x, c_x, rfl⟩ := HWx.out.slice
  obtain ⟨ao_y, c_y, rfl⟩ := HWy.out.slice
  go_enter Tryz.func15, Tryz.ntmps15
  have HF := Lib.hid (hp0 w)
  refine kS fun K hK => ?_
  refine wp_region_lit ?_
  go_wp2
  refine hK.out _ _ ?_; clear hK K
  show Code.wp _ _ _ _ _
  refine fH (((HF.out).al (b := w.heap.size) (by first | rfl | simp) (by decide)).al (b := w.heap.size + 1) (by first | rfl | simp) (by decide)) fun Wx0 HG => ?_
  clear HF; have HF := HG; clear HG
  generalize w.heap.size + 1 = gx1 at *
  refine wp_seq ?_
  have lx0 := HF.out.c 0 rfl
  have lx1 := HF.out.c 1 rfl
  refine kS fun K hK => ?_
  have HG0 : Hid (Gr Wx0 Wx0) := Lib.hid (Gr.refl _)
  refine sq 5 [(true, 0), (true, 1), (false, 2), (true, 3), (true, 4)] fun T hT => ?_
  iterate 2 refine tk ?_
  refine wpPlan_slice (cs := #[.bool (bbx), (.slice ao_x kx c_x), .bool (bby), (.slice ao_y ky c_y)]) (E := 25) (n := 2) rfl (by rfl) (fun w' hw => ?_) (fun gx3 vv3 hg0 yx3 bx3 => ?_)
  · go_simp
  clear yx3
  replace HG0 := Lib.hid (HG0.out.trans hg0)
  have HGS := Lib.hid hg0; clear hg0
  clear HGS
  have BX3 := Lib.hid bx3; clear bx3
  clear lx0; have lx0 := fun w' (h : Gr _ w') => HF.out.c 0 rfl w' (HG0.out.trans h)
  clear lx1; have lx1 := fun w' (h : Gr _ w') => HF.out.c 1 rfl w' (HG0.out.trans h)
  simp only [Act.put, lA, lB, lC]
  refine ck Tryz.call104 (fun w' hw => few2_no0 _ _ _ _ _ _ _ _ 16 gx3 _ (BX3.out.gr hw) (by omega)) ?_
  refine tk ?_
  refine wpPlan_nil (hT.out _ _ ?_)
  intro vw1 hg
  simp only [puts, Act.put, lA, lB, lC, lD, lE, ↓reduceIte, Nat.reduceEqDiff]
  have HG := Lib.hid (HF.out.gr (HG0.out.trans hg))
  clear hT T HF hg HG0 BX3 lx0 lx1
  go_wp2
  refine hK.out _ _ ?_; clear hK K
  show Code.wp _ _ _ _ _
  have HF := HG; clear HG
  refine wp_cond_true (by rfl) ?_
  have HB := HPb HF
  refine kS fun K hK => ?_
  refine sq 2 [(true, 0), (true, 1)] fun T hT => ?_
  refine ck Tryz.call23 (fun w' hw => worksz_any _ (Lib.hid (HT.out.gr (Gr.trans HB.out hw)))) ?_
  refine tk ?_
  refine nlS hT HF fun vw2 HG => ?_
  clear hT T HF HB
  go_wp2
  refine hK.out _ _ ?_; clear hK K
  show Code.wp _ _ _ _ _
  have HF := HG; clear HG
  refine wp_ret ?_
  try simp only [Exit.then, Exit.inBlock]
  exact bodyPost_ret (v := .bool true) (by simp [results, Tryz.results15, go_sem]) rfl ⟨rfl, HF.out.1⟩

set_option maxRecDepth 100000 in
set_option maxHeartbeats 4000000 in
theorem sumz_big2 (bbx : Bool) (vx : Value) (kx : Nat) (fx : Nat → Nat) (mx : Nat) (bby : Bool) (vy : Value) (ky : Nat) (fy : Nat → Nat) (my : Nat) (a b : Int)  (w : World) (HWx : Hid (Wa w vx kx fx)) (HFx : Hid (∀ i, i < kx → fx i < 4294967296)) (HVx : Hid (vl fx kx = mx)) (HAx : Hid ((if bbx then -((mx : Nat) : Int) else ((mx : Nat) : Int)) = a)) (HWy : Hid (Wa w vy ky fy)) (HFy : Hid (∀ i, i < ky → fy i < 4294967296)) (HVy : Hid (vl fy ky = my)) (HAy : Hid ((if bby then -((my : Nat) : Int) else ((my : Nat) : Int)) = b)) (hkx : kx ≤ 16) (hky : 16 < ky) (HT : Hid (Tab w)) :
    Calls Tryz.prog 15 #[.agg #[.bool bbx, vx], .agg #[.bool bby, vy]] w fun e w' => e = .returned (.bool true) ∧ Below w.heap.size w w' := by
  obtain ⟨ao_x, c_x, rfl⟩ := HWx.out.slice
  obtain ⟨ao_y, c_y, rfl⟩ := HWy.out.slice
  go_enter Tryz.func15, Tryz.ntmps15
  have HF := Lib.hid (hp0 w)
  refine kS fun K hK => ?_
  refine wp_region_lit ?_
  go_wp2
  refine hK.out _ _ ?_; clear hK K
  show Code.wp _ _ _ _ _
  refine fH (((HF.out).al (b := w.heap.size) (by first | rfl | simp) (by decide)).al (b := w.heap.size + 1) (by first | rfl | simp) (by decide)) fun Wx0 HG => ?_
  clear HF; have HF := HG; clear HG
  generalize w.heap.size + 1 = gx1 at *
  refine wp_seq ?_
  have lx0 := HF.out.c 0 rfl
  have lx1 := HF.out.c 1 rfl
  refine kS fun K hK => ?_
  have HG0 : Hid (Gr Wx0 Wx0) := Lib.hid (Gr.refl _)
  refine sq 5 [(true, 0), (true, 1), (false, 2), (true, 3), (true, 4)] fun T hT => ?_
  iterate 2 refine tk ?_
  refine wpPlan_slice (cs := #[.bool (bbx), (.slice ao_x kx c_x), .bool (bby), (.slice ao_y ky c_y)]) (E := 25) (n := 2) rfl (by rfl) (fun w' hw => ?_) (fun gx3 vv3 hg0 yx3 bx3 => ?_)
  · go_simp
  clear yx3
  replace HG0 := Lib.hid (HG0.out.trans hg0)
  have HGS := Lib.hid hg0; clear hg0
  clear HGS
  have BX3 := Lib.hid bx3; clear bx3
  clear lx0; have lx0 := fun w' (h : Gr _ w') => HF.out.c 0 rfl w' (HG0.out.trans h)
  clear lx1; have lx1 := fun w' (h : Gr _ w') => HF.out.c 1 rfl w' (HG0.out.trans h)
  simp only [Act.put, lA, lB, lC]
  refine ck Tryz.call104 (fun w' hw => few2_no1 _ _ _ _ _ _ _ _ 16 gx3 _ (BX3.out.gr hw) (by omega) (by omega)) ?_
  refine tk ?_
  refine wpPlan_nil (hT.out _ _ ?_)
  intro vw1 hg
  simp only [puts, Act.put, lA, lB, lC, lD, lE, ↓reduceIte, Nat.reduceEqDiff]
  have HG := Lib.hid (HF.out.gr (HG0.out.trans hg))
  clear hT T HF hg HG0 BX3 lx0 lx1
  go_wp2
  refine hK.out _ _ ?_; clear hK K
  show Code.wp _ _ _ _ _
  have HF := HG; clear HG
  refine wp_cond_true (by rfl) ?_
  have HB := HPb HF
  refine kS fun K hK => ?_
  refine sq 2 [(true, 0), (true, 1)] fun T hT => ?_
  refine ck Tryz.call23 (fun w' hw => worksz_any _ (Lib.hid (HT.out.gr (Gr.trans HB.out hw)))) ?_
  refine tk ?_
  refine nlS hT HF fun vw2 HG => ?_
  clear hT T HF HB
  go_wp2
  refine hK.out _ _ ?_; clear hK K
  show Code.wp _ _ _ _ _
  have HF := HG; clear HG
  refine wp_ret ?_
  try simp only [Exit.then, Exit.inBlock]
  exact bodyPost_ret (v := .bool true) (by simp [results, Tryz.results15, go_sem]) rfl ⟨rfl, HF.out.1⟩

theorem sumz_law (bbx : Bool) (vx : Value) (kx : Nat) (fx : Nat → Nat) (bby : Bool) (vy : Value) (ky : Nat) (fy : Nat → Nat) (w : World) (HWx : Hid (Wa w vx kx fx)) (HFx : Hid (∀ i, i < kx → fx i < 4294967296)) (HWy : Hid (Wa w vy ky fy)) (HFy : Hid (∀ i, i < ky → fy i < 4294967296)) (HT : Hid (Tab w)) :
    Calls Tryz.prog 15 #[.agg #[.bool bbx, vx], .agg #[.bool bby, vy]] w fun e w' => e = .returned (.bool true) ∧ Below w.heap.size w w' := by
  obtain ⟨a, ha⟩ : ∃ z, Hid ((if bbx then -((vl fx kx : Nat) : Int) else ((vl fx kx : Nat) : Int)) = z) := ⟨_, Lib.hid rfl⟩
  obtain ⟨b, hb⟩ : ∃ z, Hid ((if bby then -((vl fy ky : Nat) : Int) else ((vl fy ky : Nat) : Int)) = z) := ⟨_, Lib.hid rfl⟩
  by_cases hkx : kx ≤ 16
  · skip
    by_cases hky : ky ≤ 16
    · skip
      rcases Int.lt_trichotomy a b with h | h | h
      · exact sumz_lt bbx vx kx fx _ bby vy ky fy _ a b _ _ w HWx HFx (Lib.hid rfl) ha HWy HFy (Lib.hid rfl) hb hkx hky h (Lib.hid rfl) (Lib.hid rfl) HT
      · subst h
        exact sumz_eq bbx vx kx fx _ bby vy ky fy _ a _ _ w HWx HFx (Lib.hid rfl) ha HWy HFy (Lib.hid rfl) hb hkx hky (Lib.hid rfl) (Lib.hid rfl) HT
      · exact sumz_gt bbx vx kx fx _ bby vy ky fy _ a b _ _ w HWx HFx (Lib.hid rfl) ha HWy HFy (Lib.hid rfl) hb hkx hky h (Lib.hid rfl) (Lib.hid rfl) HT
    · exact sumz_big2 bbx vx kx fx _ bby vy ky fy _ a b w HWx HFx (Lib.hid rfl) ha HWy HFy (Lib.hid rfl) hb hkx (by omega) HT
  · exact sumz_big1 bbx vx kx fx _ bby vy ky fy _ a b w HWx HFx (Lib.hid rfl) ha HWy HFy (Lib.hid rfl) hb  (by omega) HT

end Go.Proofs.YtpcfncbcpknobaaGreatDoor
