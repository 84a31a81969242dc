
/- IntsRings: the law's walk. -/
import Derived.Test.YtpcfncbcpknobaaGreatDoorWorksZ
namespace Go.Proofs.YtpcfncbcpknobaaGreatDoor
open Go.RowKit
set_option linter.unusedSimpArgs false
set_option linter.unusedVariables false
attribute [local go_sem ↓] Go.wp_at_zero Go.wp_at_succ
attribute [local go_sem ↓] eq_nat eq_nat_zero eq_int
set_option maxRecDepth 100000 in
set_option maxHeartbeats 8000000 in
theorem ringz_main (bbx : Bool) (vx : Value) (kx : Nat) (fx : Nat → Nat) (mx : Nat) (bby : Bool) (vy : Value) (ky : Nat) (fy : Nat → Nat) (my : Nat) (bbz : Bool) (vz : Value) (kz : Nat) (fz : Nat → Nat) (mz : Nat) (a b c : Int) (s t p c0 : Int) (w : World) (HWx : Hid (Wa w vx kx fx)) (HFx : Hid (∀ i, i < kx → fx i < 4294967296)) (HVx : Hid (vl fx kx = mx)) (HAx : Hid ((if bbx then -((mx : Nat) : Int) else ((mx : Nat) : Int)) = a)) (HWy : Hid (Wa w vy ky fy)) (HFy : Hid (∀ i, i < ky → fy i < 4294967296)) (HVy : Hid (vl fy ky = my)) (HAy : Hid ((if bby then -((my : Nat) : Int) else ((my : Nat) : Int)) = b)) (HWz : Hid (Wa w vz kz fz)) (HFz : Hid (∀ i, i < kz → fz i < 4294967296)) (HVz : Hid (vl fz kz = mz)) (HAz : Hid ((if bbz then -((mz : Nat) : Int) else ((mz : Nat) : Int)) = c)) (hkx : kx ≤ 12) (hky : ky ≤ 12) (hkz : kz ≤ 12) (HS : Hid (sgI a = s)) (HS2 : Hid (sgI b = t)) (HP : Hid (s * t = p)) (hp1 : -1 ≤ p) (hp2 : p ≤ 1) (HC0 : Hid (sgI (a - b) = c0)) (HT : Hid (Tab w)) :
    Calls Tryz.prog 18 #[.agg #[.bool bbx, vx], .agg #[.bool bby, vy], .agg #[.bool bbz, vz]] w fun e w' => e = .returned (.bool true) ∧ Below w.heap.size w w' := by
  obtain ⟨ao_x, c_x, rfl⟩ := HWx.out.slice
  obtain ⟨ao_y, c_y, rfl⟩ := HWy.out.slice
  obtain ⟨ao_z, c_z, rfl⟩ := HWz.out.slice
  have hm_x : wl mx ≤ 12 := by rw [← HVx.out]; have := wl_le.2 (vl_lt HFx.out); omega
  have hb_x : wl (Int.natAbs (a)) ≤ 12 := by rw [zsize HAx.out]; exact hm_x
  have ht_x : tw (Int.natAbs (a)) ≤ 36 := by have := tw_wl (Int.natAbs (a)); omega
  have hm_y : wl my ≤ 12 := by rw [← HVy.out]; have := wl_le.2 (vl_lt HFy.out); omega
  have hb_y : wl (Int.natAbs (b)) ≤ 12 := by rw [zsize HAy.out]; exact hm_y
  have ht_y : tw (Int.natAbs (b)) ≤ 36 := by have := tw_wl (Int.natAbs (b)); omega
  have hm_z : wl mz ≤ 12 := by rw [← HVz.out]; have := wl_le.2 (vl_lt HFz.out); omega
  have hb_z : wl (Int.natAbs (c)) ≤ 12 := by rw [zsize HAz.out]; exact hm_z
  have ht_z : tw (Int.natAbs (c)) ≤ 36 := by have := tw_wl (Int.natAbs (c)); omega
  go_enter Tryz.func18, Tryz.ntmps18
  have HF := Lib.hid (hp0 w)
  refine kS fun K hK => ?_
  refine wp_region_lit ?_
  go_wp2
  refine hK.out _ _ ?_; clear hK K
  show Code.wp _ _ _ _ _
  refine fH ((((HF.out).al (b := w.heap.size) (by first | rfl | simp) (by decide)).al (b := w.heap.size + 1) (by first | rfl | simp) (by decide)).al (b := w.heap.size + 1 + 1) (by first | rfl | simp) (by decide)) fun Wx0 HG => ?_
  clear HF; have HF := HG; clear HG
  generalize w.heap.size + 1 + 1 = gx2 at *
  generalize w.heap.size + 1 = gx1 at *
  refine wp_seq ?_
  have lx0 := HF.out.c 0 rfl
  have lx1 := HF.out.c 1 rfl
  have lx2 := HF.out.c 2 rfl
  refine kS fun K hK => ?_
  have HG0 : Hid (Gr Wx0 Wx0) := Lib.hid (Gr.refl _)
  refine sq 6 [(true, 0), (true, 1), (true, 2), (false, 3), (true, 4), (true, 5)] fun T hT => ?_
  iterate 3 refine tk ?_
  refine wpPlan_slice (cs := #[.bool (bbx), (.slice ao_x kx c_x), .bool (bby), (.slice ao_y ky c_y), .bool (bbz), (.slice ao_z kz c_z)]) (E := 25) (n := 3) rfl (by rfl) (fun w' hw => ?_) (fun gx4 vv4 hg0 yx4 bx4 => ?_)
  · go_simp
  clear yx4
  replace HG0 := Lib.hid (HG0.out.trans hg0)
  have HGS := Lib.hid hg0; clear hg0
  clear HGS
  have BX4 := Lib.hid bx4; clear bx4
  clear lx0; have lx0 := fun w' (h : Gr _ w') => HF.out.c 0 rfl w' (HG0.out.trans h)
  clear lx1; have lx1 := fun w' (h : Gr _ w') => HF.out.c 1 rfl w' (HG0.out.trans h)
  clear lx2; have lx2 := fun w' (h : Gr _ w') => HF.out.c 2 rfl w' (HG0.out.trans h)
  simp only [Act.put, lA, lB, lC]
  refine ck Tryz.call104 (fun w' hw => few3_ok _ _ _ _ _ _ _ _ _ _ _ _ 12 gx4 _ (BX4.out.gr hw) (by omega) (by omega) (by omega)) ?_
  refine tk ?_
  refine wpPlan_nil (hT.out _ _ ?_)
  intro vw1 hg
  simp only [puts, Act.put, lA, lB, lC, lD, lE, ↓reduceIte, Nat.reduceEqDiff]
  have HG := Lib.hid (HF.out.gr (HG0.out.trans hg))
  clear hT T HF hg HG0 BX4 lx0 lx1 lx2
  go_wp2
  refine hK.out _ _ ?_; clear hK K
  show Code.wp _ _ _ _ _
  have HF := HG; clear HG
  refine wp_cond_false (by rfl) ?_
  refine wp_skip ?_
  show Code.wp _ _ _ _ _
  have HB := HPb HF
  have lx0 := HF.out.c 0 rfl
  have lx1 := HF.out.c 1 rfl
  have lx2 := HF.out.c 2 rfl
  refine kS fun K hK => ?_
  refine wp_region_plan 9 [6, 7, 8] [] (fun i => if i = 6 then 7 else if i = 7 then 8 else 9) (fun i => if i = 6 then .cells #[.int .u64 0, .string ⟨#[]⟩, .bool false] 38 else if i = 7 then .cells #[.int .u64 0, .string ⟨#[]⟩, .bool false] 38 else .cells #[.int .u64 0, .string ⟨#[]⟩, .bool false] 38) [(true, 0), (true, 2), (true, 4), (true, 1), (true, 3), (true, 5)] (by kernel_rfl) (by kernel_rfl) (by intro i hi; simp only [List.mem_cons, List.not_mem_nil, or_false] at hi; rcases hi with rfl | rfl | rfl <;> exact ⟨_, rfl, rfl, rfl, by simp, fun ρ w => by kernel_rfl⟩) (fun i hi => by cases hi) (fun _ _ _ _ _ h => h) (fun T hT => ?_)
  iterate 3 refine tk ?_
  refine ck Tryz.call19 (fun w' hw => zlof bbx kx fx mx a ao_x c_x w' (Lib.hid (HWx.out.gr (Gr.trans HB.out hw))) HFx HVx HAx om om) ?_
  refine ck Tryz.call19 (fun w' hw => zlof bby ky fy my b ao_y c_y w' (Lib.hid (HWy.out.gr (Gr.trans HB.out hw))) HFy HVy HAy om om) ?_
  refine ck Tryz.call19 (fun w' hw => zlof bbz kz fz mz c ao_z c_z w' (Lib.hid (HWz.out.gr (Gr.trans HB.out hw))) HFz HVz HAz om om) ?_
  refine wpPlan_nil (hT.out _ _ ?_)
  intro G vw2 hg hf
  simp only [puts, Act.put, lA, lB, lC, lD, lE, ↓reduceIte, Nat.reduceEqDiff]
  have HG := Lib.hid (HF.out.fr hg hf (zs := [(#[.int .u64 0, .string ⟨#[]⟩, .bool false], 38), (#[.int .u64 0, .string ⟨#[]⟩, .bool false], 38), (#[.int .u64 0, .string ⟨#[]⟩, .bool false], 38)]) rfl (by decide) (by decide))
  simp only [List.zip_cons_cons, List.zip_nil_right, List.map_cons, List.map_nil, lF, lG] at HG
  clear hT T HF hg hf lx0 lx1 lx2 HB
  generalize G 6 = gx5 at *
  generalize G 7 = gx6 at *
  generalize G 8 = gx7 at *
  have lx5 := HG.out.c 3 rfl; have fx5 := HG.out.f 3 rfl
  have lx6 := HG.out.c 4 rfl; have fx6 := HG.out.f 4 rfl
  have lx7 := HG.out.c 5 rfl; have fx7 := HG.out.f 5 rfl
  have r0 := Gr.refl vw2
  obtain ⟨d5_6, d6_5⟩ := HG.out.ne 3 4 rfl rfl (by decide)
  obtain ⟨d5_7, d7_5⟩ := HG.out.ne 3 5 rfl rfl (by decide)
  obtain ⟨d6_7, d7_6⟩ := HG.out.ne 4 5 rfl rfl (by decide)
  go_wp2
  refine hK.out _ _ ?_; clear hK K
  show Code.wp _ _ _ _ _
  clear r0 lx5 fx5 lx6 fx6 lx7 fx7 d5_6 d6_5 d5_7 d7_5 d6_7 d7_6
  refine fH ((((((((((HG.out).put2 3 0 rfl).put 3 2 _ rfl).put2 4 0 rfl).put 4 2 _ rfl).put2 5 0 rfl).put 5 2 _ rfl).er 2).er 1).er 0) fun Wx3 HF => ?_
  clear HG
  refine wp_seq ?_
  obtain ⟨u1, HZ1⟩ : ∃ z, Hid ((a) + (b) = z) := ⟨_, Lib.hid rfl⟩
  have su1 : wl (Int.natAbs (u1)) ≤ 13 := by rw [← HZ1.out]; have := wl_iadd (a) (b); omega
  have HZ2 : Hid ((b) + (a) = u1) := Lib.hid (by first | exact ok | exact Int.mul_comm _ _ | exact Int.add_comm _ _ | exact Int.add_assoc _ _ _ | exact Int.mul_assoc _ _ _ | exact Int.mul_add _ _ _ | exact zback _ | exact Int.sub_self _ | (simp only [← HZ1.out] <;> first | exact ok | exact Int.mul_comm _ _ | exact Int.add_comm _ _ | exact Int.add_assoc _ _ _ | exact Int.mul_assoc _ _ _ | exact Int.mul_add _ _ _ | exact zback _ | exact Int.sub_self _))
  have su2 : wl (Int.natAbs (u1)) ≤ 13 := by have e := HZ2.out; first | omega | (rw [← e]; have := wl_iadd (b) (a); omega)
  obtain ⟨u3, HZ3⟩ : ∃ z, Hid ((a) * (b) = z) := ⟨_, Lib.hid rfl⟩
  have su3 : wl (Int.natAbs (u3)) ≤ 24 := by rw [← HZ3.out]; have := wl_imul (a) (b); omega
  have HZ4 : Hid ((b) * (a) = u3) := Lib.hid (by first | exact ok | exact Int.mul_comm _ _ | exact Int.add_comm _ _ | exact Int.add_assoc _ _ _ | exact Int.mul_assoc _ _ _ | exact Int.mul_add _ _ _ | exact zback _ | exact Int.sub_self _ | (simp only [← HZ3.out, ← HZ1.out] <;> first | exact ok | exact Int.mul_comm _ _ | exact Int.add_comm _ _ | exact Int.add_assoc _ _ _ | exact Int.mul_assoc _ _ _ | exact Int.mul_add _ _ _ | exact zback _ | exact Int.sub_self _))
  have su4 : wl (Int.natAbs (u3)) ≤ 24 := by have e := HZ4.out; first | omega | (rw [← e]; have := wl_imul (b) (a); omega)
  have HZ5 : Hid ((a) + (b) = u1) := Lib.hid (by first | exact ok | exact Int.mul_comm _ _ | exact Int.add_comm _ _ | exact Int.add_assoc _ _ _ | exact Int.mul_assoc _ _ _ | exact Int.mul_add _ _ _ | exact zback _ | exact Int.sub_self _ | (simp only [← HZ3.out, ← HZ1.out] <;> first | exact ok | exact Int.mul_comm _ _ | exact Int.add_comm _ _ | exact Int.add_assoc _ _ _ | exact Int.mul_assoc _ _ _ | exact Int.mul_add _ _ _ | exact zback _ | exact Int.sub_self _))
  have su5 : wl (Int.natAbs (u1)) ≤ 13 := by have e := HZ5.out; first | omega | (rw [← e]; have := wl_iadd (a) (b); omega)
  obtain ⟨u6, HZ6⟩ : ∃ z, Hid ((u1) + (c) = z) := ⟨_, Lib.hid rfl⟩
  have su6 : wl (Int.natAbs (u6)) ≤ 14 := by rw [← HZ6.out]; have := wl_iadd (u1) (c); omega
  obtain ⟨u7, HZ7⟩ : ∃ z, Hid ((b) + (c) = z) := ⟨_, Lib.hid rfl⟩
  have su7 : wl (Int.natAbs (u7)) ≤ 13 := by rw [← HZ7.out]; have := wl_iadd (b) (c); omega
  have HZ8 : Hid ((a) + (u7) = u6) := Lib.hid (by first | exact ok | exact Int.mul_comm _ _ | exact Int.add_comm _ _ | exact Int.add_assoc _ _ _ | exact Int.mul_assoc _ _ _ | exact Int.mul_add _ _ _ | exact zback _ | exact Int.sub_self _ | (simp only [← HZ7.out, ← HZ6.out, ← HZ3.out, ← HZ1.out] <;> first | exact ok | exact Int.mul_comm _ _ | exact Int.add_comm _ _ | exact Int.add_assoc _ _ _ | exact Int.mul_assoc _ _ _ | exact Int.mul_add _ _ _ | exact zback _ | exact Int.sub_self _))
  have su8 : wl (Int.natAbs (u6)) ≤ 14 := by have e := HZ8.out; first | omega | (rw [← e]; have := wl_iadd (a) (u7); omega)
  have HZ9 : Hid ((a) * (b) = u3) := Lib.hid (by first | exact ok | exact Int.mul_comm _ _ | exact Int.add_comm _ _ | exact Int.add_assoc _ _ _ | exact Int.mul_assoc _ _ _ | exact Int.mul_add _ _ _ | exact zback _ | exact Int.sub_self _ | (simp only [← HZ7.out, ← HZ6.out, ← HZ3.out, ← HZ1.out] <;> first | exact ok | exact Int.mul_comm _ _ | exact Int.add_comm _ _ | exact Int.add_assoc _ _ _ | exact Int.mul_assoc _ _ _ | exact Int.mul_add _ _ _ | exact zback _ | exact Int.sub_self _))
  have su9 : wl (Int.natAbs (u3)) ≤ 24 := by have e := HZ9.out; first | omega | (rw [← e]; have := wl_imul (a) (b); omega)
  obtain ⟨u10, HZ10⟩ : ∃ z, Hid ((u3) * (c) = z) := ⟨_, Lib.hid rfl⟩
  have su10 : wl (Int.natAbs (u10)) ≤ 36 := by rw [← HZ10.out]; have := wl_imul (u3) (c); omega
  obtain ⟨u11, HZ11⟩ : ∃ z, Hid ((b) * (c) = z) := ⟨_, Lib.hid rfl⟩
  have su11 : wl (Int.natAbs (u11)) ≤ 24 := by rw [← HZ11.out]; have := wl_imul (b) (c); omega
  have HZ12 : Hid ((a) * (u11) = u10) := Lib.hid (by first | exact ok | exact Int.mul_comm _ _ | exact Int.add_comm _ _ | exact Int.add_assoc _ _ _ | exact Int.mul_assoc _ _ _ | exact Int.mul_add _ _ _ | exact zback _ | exact Int.sub_self _ | (simp only [← HZ11.out, ← HZ10.out, ← HZ7.out, ← HZ6.out, ← HZ3.out, ← HZ1.out] <;> first | exact ok | exact Int.mul_comm _ _ | exact Int.add_comm _ _ | exact Int.add_assoc _ _ _ | exact Int.mul_assoc _ _ _ | exact Int.mul_add _ _ _ | exact zback _ | exact Int.sub_self _))
  have su12 : wl (Int.natAbs (u10)) ≤ 36 := by have e := HZ12.out; first | omega | (rw [← e]; have := wl_imul (a) (u11); omega)
  have HZ13 : Hid ((b) + (c) = u7) := Lib.hid (by first | exact ok | exact Int.mul_comm _ _ | exact Int.add_comm _ _ | exact Int.add_assoc _ _ _ | exact Int.mul_assoc _ _ _ | exact Int.mul_add _ _ _ | exact zback _ | exact Int.sub_self _ | (simp only [← HZ11.out, ← HZ10.out, ← HZ7.out, ← HZ6.out, ← HZ3.out, ← HZ1.out] <;> first | exact ok | exact Int.mul_comm _ _ | exact Int.add_comm _ _ | exact Int.add_assoc _ _ _ | exact Int.mul_assoc _ _ _ | exact Int.mul_add _ _ _ | exact zback _ | exact Int.sub_self _))
  have su13 : wl (Int.natAbs (u7)) ≤ 13 := by have e := HZ13.out; first | omega | (rw [← e]; have := wl_iadd (b) (c); omega)
  obtain ⟨u14, HZ14⟩ : ∃ z, Hid ((a) * (u7) = z) := ⟨_, Lib.hid rfl⟩
  have su14 : wl (Int.natAbs (u14)) ≤ 25 := by rw [← HZ14.out]; have := wl_imul (a) (u7); omega
  have HZ15 : Hid ((a) * (b) = u3) := Lib.hid (by first | exact ok | exact Int.mul_comm _ _ | exact Int.add_comm _ _ | exact Int.add_assoc _ _ _ | exact Int.mul_assoc _ _ _ | exact Int.mul_add _ _ _ | exact zback _ | exact Int.sub_self _ | (simp only [← HZ14.out, ← HZ11.out, ← HZ10.out, ← HZ7.out, ← HZ6.out, ← HZ3.out, ← HZ1.out] <;> first | exact ok | exact Int.mul_comm _ _ | exact Int.add_comm _ _ | exact Int.add_assoc _ _ _ | exact Int.mul_assoc _ _ _ | exact Int.mul_add _ _ _ | exact zback _ | exact Int.sub_self _))
  have su15 : wl (Int.natAbs (u3)) ≤ 24 := by have e := HZ15.out; first | omega | (rw [← e]; have := wl_imul (a) (b); omega)
  obtain ⟨u16, HZ16⟩ : ∃ z, Hid ((a) * (c) = z) := ⟨_, Lib.hid rfl⟩
  have su16 : wl (Int.natAbs (u16)) ≤ 24 := by rw [← HZ16.out]; have := wl_imul (a) (c); omega
  have HZ17 : Hid ((u3) + (u16) = u14) := Lib.hid (by first | exact ok | exact Int.mul_comm _ _ | exact Int.add_comm _ _ | exact Int.add_assoc _ _ _ | exact Int.mul_assoc _ _ _ | exact Int.mul_add _ _ _ | exact zback _ | exact Int.sub_self _ | (simp only [← HZ16.out, ← HZ14.out, ← HZ11.out, ← HZ10.out, ← HZ7.out, ← HZ6.out, ← HZ3.out, ← HZ1.out] <;> first | exact ok | exact Int.mul_comm _ _ | exact Int.add_comm _ _ | exact Int.add_assoc _ _ _ | exact Int.mul_assoc _ _ _ | exact Int.mul_add _ _ _ | exact zback _ | exact Int.sub_self _))
  have su17 : wl (Int.natAbs (u14)) ≤ 25 := by have e := HZ17.out; first | omega | (rw [← e]; have := wl_iadd (u3) (u16); omega)
  have lx5 := HF.out.c 0 rfl
  have lx6 := HF.out.c 1 rfl
  have lx7 := HF.out.c 2 rfl
  refine kS fun K hK => ?_
  refine pd 56 [(true, 0), (true, 1), (true, 3), (true, 4), (true, 2), (true, 5), (true, 6), (true, 7), (true, 8), (true, 9), (true, 11), (true, 12), (true, 10), (true, 13), (true, 14), (true, 15), (true, 16), (true, 17), (true, 18), (true, 20), (true, 22), (true, 23), (true, 24), (true, 19), (true, 21), (true, 25), (true, 26), (true, 27), (true, 28), (true, 29), (true, 30), (true, 31), (true, 33), (true, 35), (true, 36), (true, 37), (true, 32), (true, 34), (true, 38), (true, 39), (true, 40), (true, 41), (true, 42), (true, 43), (true, 44), (true, 45), (true, 48), (true, 49), (true, 51), (true, 52), (true, 46), (true, 47), (true, 50), (true, 53), (true, 54), (true, 55)] fun T hT => ?_
  iterate 4 refine tk ?_
  refine ck Tryz.call102 (fun w' hw => ziadd (a) (b) (u1) _ HZ1.out om om) ?_
  refine ck Tryz.call102 (fun w' hw => ziadd (b) (a) (u1) _ HZ2.out om om) ?_
  iterate 6 refine tk ?_
  refine ck Tryz.call94 (fun w' hw => zimul (a) (b) (u3) _ HZ3.out om om) ?_
  refine ck Tryz.call94 (fun w' hw => zimul (b) (a) (u3) _ HZ4.out om om) ?_
  iterate 9 refine tk ?_
  refine ck Tryz.call102 (fun w' hw => ziadd (a) (b) (u1) _ HZ5.out om om) ?_
  refine ck Tryz.call102 (fun w' hw => ziadd (u1) (c) (u6) _ HZ6.out om om) ?_
  refine ck Tryz.call102 (fun w' hw => ziadd (b) (c) (u7) _ HZ7.out om om) ?_
  refine ck Tryz.call102 (fun w' hw => ziadd (a) (u7) (u6) _ HZ8.out om om) ?_
  iterate 9 refine tk ?_
  refine ck Tryz.call94 (fun w' hw => zimul (a) (b) (u3) _ HZ9.out om om) ?_
  refine ck Tryz.call94 (fun w' hw => zimul (u3) (c) (u10) _ HZ10.out om om) ?_
  refine ck Tryz.call94 (fun w' hw => zimul (b) (c) (u11) _ HZ11.out om om) ?_
  refine ck Tryz.call94 (fun w' hw => zimul (a) (u11) (u10) _ HZ12.out om om) ?_
  iterate 10 refine tk ?_
  refine ck Tryz.call102 (fun w' hw => ziadd (b) (c) (u7) _ HZ13.out om om) ?_
  refine ck Tryz.call94 (fun w' hw => zimul (a) (u7) (u14) _ HZ14.out om om) ?_
  refine ck Tryz.call94 (fun w' hw => zimul (a) (b) (u3) _ HZ15.out om om) ?_
  refine ck Tryz.call94 (fun w' hw => zimul (a) (c) (u16) _ HZ16.out om om) ?_
  refine ck Tryz.call102 (fun w' hw => ziadd (u3) (u16) (u14) _ HZ17.out om om) ?_
  refine tk ?_
  refine nlD hT HF fun vw3 HG => ?_
  clear hT T HF lx5 lx6 lx7
  go_wp2
  refine hK.out _ _ ?_; clear hK K
  show Code.wp _ _ _ _ _
  have HF := HG; clear HG
  refine wp_cond_false (by rfl) ?_
  refine wp_skip ?_
  show Code.wp _ _ _ _ _
  refine wp_seq ?_
  have HZ18 : Hid ((a) - (a) = 0) := Lib.hid (by first | exact ok | exact Int.mul_comm _ _ | exact Int.add_comm _ _ | exact Int.add_assoc _ _ _ | exact Int.mul_assoc _ _ _ | exact Int.mul_add _ _ _ | exact zback _ | exact Int.sub_self _ | (simp only [← HZ16.out, ← HZ14.out, ← HZ11.out, ← HZ10.out, ← HZ7.out, ← HZ6.out, ← HZ3.out, ← HZ1.out] <;> first | exact ok | exact Int.mul_comm _ _ | exact Int.add_comm _ _ | exact Int.add_assoc _ _ _ | exact Int.mul_assoc _ _ _ | exact Int.mul_add _ _ _ | exact zback _ | exact Int.sub_self _))
  have su18 : wl (Int.natAbs (0)) ≤ 13 := by have e := HZ18.out; first | omega | (rw [← e]; have := wl_isub (a) (a); omega) | exact wl_le.2 (by decide +kernel)
  have HZ19 : Hid ((a) + (b) = u1) := Lib.hid (by first | exact ok | exact Int.mul_comm _ _ | exact Int.add_comm _ _ | exact Int.add_assoc _ _ _ | exact Int.mul_assoc _ _ _ | exact Int.mul_add _ _ _ | exact zback _ | exact Int.sub_self _ | (simp only [← HZ16.out, ← HZ14.out, ← HZ11.out, ← HZ10.out, ← HZ7.out, ← HZ6.out, ← HZ3.out, ← HZ1.out] <;> first | exact ok | exact Int.mul_comm _ _ | exact Int.add_comm _ _ | exact Int.add_assoc _ _ _ | exact Int.mul_assoc _ _ _ | exact Int.mul_add _ _ _ | exact zback _ | exact Int.sub_self _))
  have su19 : wl (Int.natAbs (u1)) ≤ 13 := by have e := HZ19.out; first | omega | (rw [← e]; have := wl_iadd (a) (b); omega)
  have HZ20 : Hid ((u1) - (b) = a) := Lib.hid (by first | exact ok | exact Int.mul_comm _ _ | exact Int.add_comm _ _ | exact Int.add_assoc _ _ _ | exact Int.mul_assoc _ _ _ | exact Int.mul_add _ _ _ | exact zback _ | exact Int.sub_self _ | (simp only [← HZ16.out, ← HZ14.out, ← HZ11.out, ← HZ10.out, ← HZ7.out, ← HZ6.out, ← HZ3.out, ← HZ1.out] <;> first | exact ok | exact Int.mul_comm _ _ | exact Int.add_comm _ _ | exact Int.add_assoc _ _ _ | exact Int.mul_assoc _ _ _ | exact Int.mul_add _ _ _ | exact zback _ | exact Int.sub_self _))
  have su20 : wl (Int.natAbs (a)) ≤ 14 := by have e := HZ20.out; first | omega | (rw [← e]; have := wl_isub (u1) (b); omega)
  obtain ⟨u21, HZ21⟩ : ∃ z, Hid (-(a) = z) := ⟨_, Lib.hid rfl⟩
  have su21 : wl (Int.natAbs (u21)) ≤ 12 := by rw [← HZ21.out]; rw [Int.natAbs_neg]; omega
  have HZ22 : Hid (-(u21) = a) := Lib.hid (by first | exact ok | exact Int.mul_comm _ _ | exact Int.add_comm _ _ | exact Int.add_assoc _ _ _ | exact Int.mul_assoc _ _ _ | exact Int.mul_add _ _ _ | exact zback _ | exact Int.sub_self _ | (simp only [← HZ21.out, ← HZ16.out, ← HZ14.out, ← HZ11.out, ← HZ10.out, ← HZ7.out, ← HZ6.out, ← HZ3.out, ← HZ1.out] <;> first | exact ok | exact Int.mul_comm _ _ | exact Int.add_comm _ _ | exact Int.add_assoc _ _ _ | exact Int.mul_assoc _ _ _ | exact Int.mul_add _ _ _ | exact zback _ | exact Int.sub_self _))
  have su22 : wl (Int.natAbs (a)) ≤ 12 := by have e := HZ22.out; first | omega | (rw [← e]; rw [Int.natAbs_neg]; omega)
  obtain ⟨u23, HZ23⟩ : ∃ z, Hid ((a) - (b) = z) := ⟨_, Lib.hid rfl⟩
  have su23 : wl (Int.natAbs (u23)) ≤ 13 := by rw [← HZ23.out]; have := wl_isub (a) (b); omega
  obtain ⟨u24, HZ24⟩ : ∃ z, Hid ((b) - (a) = z) := ⟨_, Lib.hid rfl⟩
  have su24 : wl (Int.natAbs (u24)) ≤ 13 := by rw [← HZ24.out]; have := wl_isub (b) (a); omega
  have HZ25 : Hid (-(u24) = u23) := Lib.hid (by first | exact ok | exact Int.mul_comm _ _ | exact Int.add_comm _ _ | exact Int.add_assoc _ _ _ | exact Int.mul_assoc _ _ _ | exact Int.mul_add _ _ _ | exact zback _ | exact Int.sub_self _ | (simp only [← HZ24.out, ← HZ23.out, ← HZ21.out, ← HZ16.out, ← HZ14.out, ← HZ11.out, ← HZ10.out, ← HZ7.out, ← HZ6.out, ← HZ3.out, ← HZ1.out] <;> first | exact ok | exact Int.mul_comm _ _ | exact Int.add_comm _ _ | exact Int.add_assoc _ _ _ | exact Int.mul_assoc _ _ _ | exact Int.mul_add _ _ _ | exact zback _ | exact Int.sub_self _))
  have su25 : wl (Int.natAbs (u23)) ≤ 13 := by have e := HZ25.out; first | omega | (rw [← e]; rw [Int.natAbs_neg]; omega)
  have su26 : wl (Int.natAbs (0)) ≤ 1 := wl_le.2 (by decide +kernel)
  have HZ27 : Hid ((a) + (0) = a) := Lib.hid (by first | exact ok | exact Int.mul_comm _ _ | exact Int.add_comm _ _ | exact Int.add_assoc _ _ _ | exact Int.mul_assoc _ _ _ | exact Int.mul_add _ _ _ | exact zback _ | exact Int.sub_self _ | (simp only [← HZ24.out, ← HZ23.out, ← HZ21.out, ← HZ16.out, ← HZ14.out, ← HZ11.out, ← HZ10.out, ← HZ7.out, ← HZ6.out, ← HZ3.out, ← HZ1.out] <;> first | exact ok | exact Int.mul_comm _ _ | exact Int.add_comm _ _ | exact Int.add_assoc _ _ _ | exact Int.mul_assoc _ _ _ | exact Int.mul_add _ _ _ | exact zback _ | exact Int.sub_self _))
  have su27 : wl (Int.natAbs (a)) ≤ 13 := by have e := HZ27.out; first | omega | (rw [← e]; have := wl_iadd (a) (0); omega)
  have su28 : wl (Int.natAbs (1)) ≤ 1 := wl_le.2 (by decide +kernel)
  have HZ29 : Hid ((a) * (1) = a) := Lib.hid (by first | exact ok | exact Int.mul_comm _ _ | exact Int.add_comm _ _ | exact Int.add_assoc _ _ _ | exact Int.mul_assoc _ _ _ | exact Int.mul_add _ _ _ | exact zback _ | exact Int.sub_self _ | (simp only [← HZ24.out, ← HZ23.out, ← HZ21.out, ← HZ16.out, ← HZ14.out, ← HZ11.out, ← HZ10.out, ← HZ7.out, ← HZ6.out, ← HZ3.out, ← HZ1.out] <;> first | exact ok | exact Int.mul_comm _ _ | exact Int.add_comm _ _ | exact Int.add_assoc _ _ _ | exact Int.mul_assoc _ _ _ | exact Int.mul_add _ _ _ | exact zback _ | exact Int.sub_self _))
  have su29 : wl (Int.natAbs (a)) ≤ 13 := by have e := HZ29.out; first | omega | (rw [← e]; have := wl_imul (a) (1); omega)
  have su30 : wl (Int.natAbs (-1)) ≤ 1 := wl_le.2 (by decide +kernel)
  have HZ31 : Hid ((a) * (-1) = u21) := Lib.hid (by first | exact ok | exact Int.mul_comm _ _ | exact Int.add_comm _ _ | exact Int.add_assoc _ _ _ | exact Int.mul_assoc _ _ _ | exact Int.mul_add _ _ _ | exact zback _ | exact Int.sub_self _ | (simp only [← HZ24.out, ← HZ23.out, ← HZ21.out, ← HZ16.out, ← HZ14.out, ← HZ11.out, ← HZ10.out, ← HZ7.out, ← HZ6.out, ← HZ3.out, ← HZ1.out] <;> first | exact ok | exact Int.mul_comm _ _ | exact Int.add_comm _ _ | exact Int.add_assoc _ _ _ | exact Int.mul_assoc _ _ _ | exact Int.mul_add _ _ _ | exact zback _ | exact Int.sub_self _))
  have su31 : wl (Int.natAbs (u21)) ≤ 13 := by have e := HZ31.out; first | omega | (rw [← e]; have := wl_imul (a) (-1); omega)
  have HZ32 : Hid (-(a) = u21) := Lib.hid (by first | exact ok | exact Int.mul_comm _ _ | exact Int.add_comm _ _ | exact Int.add_assoc _ _ _ | exact Int.mul_assoc _ _ _ | exact Int.mul_add _ _ _ | exact zback _ | exact Int.sub_self _ | (simp only [← HZ24.out, ← HZ23.out, ← HZ21.out, ← HZ16.out, ← HZ14.out, ← HZ11.out, ← HZ10.out, ← HZ7.out, ← HZ6.out, ← HZ3.out, ← HZ1.out] <;> first | exact ok | exact Int.mul_comm _ _ | exact Int.add_comm _ _ | exact Int.add_assoc _ _ _ | exact Int.mul_assoc _ _ _ | exact Int.mul_add _ _ _ | exact zback _ | exact Int.sub_self _))
  have su32 : wl (Int.natAbs (u21)) ≤ 12 := by have e := HZ32.out; first | omega | (rw [← e]; rw [Int.natAbs_neg]; omega)
  have lx5 := HF.out.c 0 rfl
  have lx6 := HF.out.c 1 rfl
  refine kS fun K hK => ?_
  refine pd 52 [(true, 0), (true, 1), (true, 2), (true, 3), (true, 4), (true, 5), (true, 6), (true, 7), (true, 9), (true, 11), (true, 8), (true, 10), (true, 12), (true, 13), (true, 14), (true, 15), (true, 18), (true, 16), (true, 17), (true, 19), (true, 20), (true, 21), (true, 22), (true, 23), (true, 25), (true, 26), (true, 24), (true, 27), (true, 28), (true, 29), (true, 30), (true, 31), (true, 32), (true, 35), (true, 33), (true, 34), (true, 36), (true, 37), (true, 38), (true, 39), (true, 42), (true, 40), (true, 41), (true, 43), (true, 44), (true, 45), (true, 46), (true, 49), (true, 47), (true, 48), (true, 50), (true, 51)] fun T hT => ?_
  iterate 2 refine tk ?_
  refine ck Tryz.call109 (fun w' hw => zisub (a) (a) (0) _ HZ18.out om om) ?_
  refine ck Tryz.call119 (fun w' hw => is_any (0) (0) true _ (Lib.hid (decide_eq_true (by decide))) (by decide) (by decide)) ?_
  iterate 6 refine tk ?_
  refine ck Tryz.call102 (fun w' hw => ziadd (a) (b) (u1) _ HZ19.out om om) ?_
  refine ck Tryz.call109 (fun w' hw => zisub (u1) (b) (a) _ HZ20.out om om) ?_
  iterate 5 refine tk ?_
  refine ck Tryz.call112 (fun w' hw => zineg (a) (u21) _ HZ21.out) ?_
  refine ck Tryz.call112 (fun w' hw => zineg (u21) (a) _ HZ22.out) ?_
  iterate 7 refine tk ?_
  refine ck Tryz.call109 (fun w' hw => zisub (a) (b) (u23) _ HZ23.out om om) ?_
  refine ck Tryz.call109 (fun w' hw => zisub (b) (a) (u24) _ HZ24.out om om) ?_
  refine ck Tryz.call112 (fun w' hw => zineg (u24) (u23) _ HZ25.out) ?_
  iterate 5 refine tk ?_
  refine ck Tryz.call93 (fun w' hw => iof_any (0) _ (by decide) (by decide)) ?_
  refine ck Tryz.call102 (fun w' hw => ziadd (a) (0) (a) _ HZ27.out om om) ?_
  iterate 5 refine tk ?_
  refine ck Tryz.call93 (fun w' hw => iof_any (1) _ (by decide) (by decide)) ?_
  refine ck Tryz.call94 (fun w' hw => zimul (a) (1) (a) _ HZ29.out om om) ?_
  iterate 5 refine tk ?_
  refine ck Tryz.call93 (fun w' hw => iof_any (-1) _ (by decide) (by decide)) ?_
  refine ck Tryz.call94 (fun w' hw => zimul (a) (-1) (u21) _ HZ31.out om om) ?_
  refine ck Tryz.call112 (fun w' hw => zineg (a) (u21) _ HZ32.out) ?_
  refine tk ?_
  refine nlD hT HF fun vw4 HG => ?_
  clear hT T HF lx5 lx6
  go_wp2
  refine hK.out _ _ ?_; clear hK K
  show Code.wp _ _ _ _ _
  have HF := HG; clear HG
  refine wp_cond_false (by rfl) ?_
  refine wp_skip ?_
  show Code.wp _ _ _ _ _
  have HB := HPb HF
  have HZ33 : Hid ((a) * (b) = u3) := Lib.hid (by first | exact ok | exact Int.mul_comm _ _ | exact Int.add_comm _ _ | exact Int.add_assoc _ _ _ | exact Int.mul_assoc _ _ _ | exact Int.mul_add _ _ _ | exact zback _ | exact Int.sub_self _ | (simp only [← HZ24.out, ← HZ23.out, ← HZ21.out, ← HZ16.out, ← HZ14.out, ← HZ11.out, ← HZ10.out, ← HZ7.out, ← HZ6.out, ← HZ3.out, ← HZ1.out] <;> first | exact ok | exact Int.mul_comm _ _ | exact Int.add_comm _ _ | exact Int.add_assoc _ _ _ | exact Int.mul_assoc _ _ _ | exact Int.mul_add _ _ _ | exact zback _ | exact Int.sub_self _))
  have su33 : wl (Int.natAbs (u3)) ≤ 24 := by have e := HZ33.out; first | omega | (rw [← e]; have := wl_imul (a) (b); omega)
  have hmul : s * t = p := HP.out
  have hmw : IntKind.i64.wrap p = p := by rw [IntKind.wrap_i64]; omega
  have HZ34 : Hid ((a) - (b) = u23) := Lib.hid (by first | exact ok | exact Int.mul_comm _ _ | exact Int.add_comm _ _ | exact Int.add_assoc _ _ _ | exact Int.mul_assoc _ _ _ | exact Int.mul_add _ _ _ | exact zback _ | exact Int.sub_self _ | (simp only [← HZ24.out, ← HZ23.out, ← HZ21.out, ← HZ16.out, ← HZ14.out, ← HZ11.out, ← HZ10.out, ← HZ7.out, ← HZ6.out, ← HZ3.out, ← HZ1.out] <;> first | exact ok | exact Int.mul_comm _ _ | exact Int.add_comm _ _ | exact Int.add_assoc _ _ _ | exact Int.mul_assoc _ _ _ | exact Int.mul_add _ _ _ | exact zback _ | exact Int.sub_self _))
  have su34 : wl (Int.natAbs (u23)) ≤ 13 := by have e := HZ34.out; first | omega | (rw [← e]; have := wl_isub (a) (b); omega)
  obtain ⟨u35, HZ35⟩ : ∃ z, Hid ((a) + (c) = z) := ⟨_, Lib.hid rfl⟩
  have su35 : wl (Int.natAbs (u35)) ≤ 13 := by rw [← HZ35.out]; have := wl_iadd (a) (c); omega
  have HZ36 : Hid ((b) + (c) = u7) := Lib.hid (by first | exact ok | exact Int.mul_comm _ _ | exact Int.add_comm _ _ | exact Int.add_assoc _ _ _ | exact Int.mul_assoc _ _ _ | exact Int.mul_add _ _ _ | exact zback _ | exact Int.sub_self _ | (simp only [← HZ35.out, ← HZ24.out, ← HZ23.out, ← HZ21.out, ← HZ16.out, ← HZ14.out, ← HZ11.out, ← HZ10.out, ← HZ7.out, ← HZ6.out, ← HZ3.out, ← HZ1.out] <;> first | exact ok | exact Int.mul_comm _ _ | exact Int.add_comm _ _ | exact Int.add_assoc _ _ _ | exact Int.mul_assoc _ _ _ | exact Int.mul_add _ _ _ | exact zback _ | exact Int.sub_self _))
  have su36 : wl (Int.natAbs (u7)) ≤ 13 := by have e := HZ36.out; first | omega | (rw [← e]; have := wl_iadd (b) (c); omega)
  obtain ⟨u37, HZ37⟩ : ∃ z, Hid ((a) * (a) = z) := ⟨_, Lib.hid rfl⟩
  have su37 : wl (Int.natAbs (u37)) ≤ 24 := by rw [← HZ37.out]; have := wl_imul (a) (a); omega
  obtain ⟨t38, HT38⟩ : ∃ z, Hid (sgI (u37) = z) := ⟨_, Lib.hid rfl⟩
  have ht38 : 0 ≤ t38 := by rw [← HT38.out]; exact sgI_nonneg (by simp only [← HZ37.out, ← HZ35.out, ← HZ24.out, ← HZ23.out, ← HZ21.out, ← HZ16.out, ← HZ14.out, ← HZ11.out, ← HZ10.out, ← HZ7.out, ← HZ6.out, ← HZ3.out, ← HZ1.out]; exact sqn _)
  have hd1 : 0 ≤ t38 := by first | exact ok | exact Int.mul_comm _ _ | exact Int.add_comm _ _ | exact Int.add_assoc _ _ _ | exact Int.mul_assoc _ _ _ | exact Int.mul_add _ _ _ | exact zback _ | exact Int.sub_self _ | (simp only [← HZ37.out, ← HZ35.out, ← HZ24.out, ← HZ23.out, ← HZ21.out, ← HZ16.out, ← HZ14.out, ← HZ11.out, ← HZ10.out, ← HZ7.out, ← HZ6.out, ← HZ3.out, ← HZ1.out] <;> first | exact ok | exact Int.mul_comm _ _ | exact Int.add_comm _ _ | exact Int.add_assoc _ _ _ | exact Int.mul_assoc _ _ _ | exact Int.mul_add _ _ _ | exact zback _ | exact Int.sub_self _)
  have hsl : decide (s < 0) = decide (a < 0) := by rw [← HS.out]; simp only [sgI_neg]
  have HZ39 : Hid ((if decide (a < 0) then -((Int.natAbs (a) : Nat) : Int) else ((Int.natAbs (a) : Nat) : Int)) = a) := Lib.hid (by first | exact ok | exact Int.mul_comm _ _ | exact Int.add_comm _ _ | exact Int.add_assoc _ _ _ | exact Int.mul_assoc _ _ _ | exact Int.mul_add _ _ _ | exact zback _ | exact Int.sub_self _ | (simp only [← HZ37.out, ← HZ35.out, ← HZ24.out, ← HZ23.out, ← HZ21.out, ← HZ16.out, ← HZ14.out, ← HZ11.out, ← HZ10.out, ← HZ7.out, ← HZ6.out, ← HZ3.out, ← HZ1.out] <;> first | exact ok | exact Int.mul_comm _ _ | exact Int.add_comm _ _ | exact Int.add_assoc _ _ _ | exact Int.mul_assoc _ _ _ | exact Int.mul_add _ _ _ | exact zback _ | exact Int.sub_self _))
  have su39 : wl (Int.natAbs (a)) ≤ 12 := by have e := HZ39.out; first | omega | (rw [← e]; split <;> simp <;> omega)
  have lx5 := HF.out.c 0 rfl
  have lx6 := HF.out.c 1 rfl
  have lx7 := HF.out.c 2 rfl
  refine kS fun K hK => ?_
  refine pd 53 [(true, 0), (true, 1), (true, 4), (true, 6), (true, 2), (true, 3), (true, 5), (true, 7), (true, 8), (true, 9), (true, 10), (true, 11), (true, 12), (true, 14), (true, 15), (true, 13), (true, 16), (true, 17), (true, 18), (true, 19), (true, 20), (true, 21), (true, 22), (true, 24), (true, 25), (true, 28), (true, 29), (true, 23), (true, 26), (true, 27), (true, 30), (true, 31), (true, 32), (true, 33), (true, 34), (true, 35), (true, 36), (true, 37), (true, 38), (true, 39), (true, 40), (true, 41), (true, 44), (true, 47), (true, 42), (true, 43), (true, 45), (true, 46), (true, 48), (true, 49), (true, 50), (true, 51), (true, 52)] fun T hT => ?_
  iterate 4 refine tk ?_
  refine ck Tryz.call94 (fun w' hw => zimul (a) (b) (u3) _ HZ33.out om om) ?_
  refine ck Tryz.call114 (fun w' hw => zisign (u3) (p) _ (by rw [← HP.out, ← HS.out, ← HS2.out]; simp only [← HZ24.out, ← HZ23.out, ← HZ21.out, ← HZ16.out, ← HZ14.out, ← HZ11.out, ← HZ10.out, ← HZ7.out, ← HZ6.out, ← HZ3.out, ← HZ1.out]; exact sgI_mul _ _)) ?_
  refine ck Tryz.call114 (fun w' hw => zisign (a) (s) _ HS.out) ?_
  refine ck Tryz.call114 (fun w' hw => zisign (b) (t) _ HS2.out) ?_
  iterate 7 refine tk ?_
  refine ck Tryz.call101 (fun w' hw => zicmp (a) (b) (c0) _ HC0.out om om) ?_
  refine ck Tryz.call109 (fun w' hw => zisub (a) (b) (u23) _ HZ34.out om om) ?_
  refine ck Tryz.call114 (fun w' hw => zisign (u23) (c0) _ (by rw [← HC0.out]; simp only [← HZ24.out, ← HZ23.out, ← HZ21.out, ← HZ16.out, ← HZ14.out, ← HZ11.out, ← HZ10.out, ← HZ7.out, ← HZ6.out, ← HZ3.out, ← HZ1.out])) ?_
  iterate 9 refine tk ?_
  refine ck Tryz.call102 (fun w' hw => ziadd (a) (c) (u35) _ HZ35.out om om) ?_
  refine ck Tryz.call102 (fun w' hw => ziadd (b) (c) (u7) _ HZ36.out om om) ?_
  refine ck Tryz.call101 (fun w' hw => zicmp (u35) (u7) (c0) _ (by rw [← HC0.out]; congr 1; simp only [← HZ35.out, ← HZ24.out, ← HZ23.out, ← HZ21.out, ← HZ16.out, ← HZ14.out, ← HZ11.out, ← HZ10.out, ← HZ7.out, ← HZ6.out, ← HZ3.out, ← HZ1.out]; omega) om om) ?_
  refine ck Tryz.call101 (fun w' hw => zicmp (a) (b) (c0) _ HC0.out om om) ?_
  iterate 5 refine tk ?_
  refine ck Tryz.call94 (fun w' hw => zimul (a) (a) (u37) _ HZ37.out om om) ?_
  refine ck Tryz.call114 (fun w' hw => zisign (u37) (t38) _ HT38.out) ?_
  iterate 6 refine tk ?_
  refine ck Tryz.call114 (fun w' hw => zisign (a) (s) _ HS.out) ?_
  refine tk ?_
  refine ck Tryz.call70 (fun w' hw => abs_any (a) _) ?_
  refine ck Tryz.call95 (fun w' hw => from_any (decide (a < 0)) (Int.natAbs (a)) (a) _ HZ39.out) ?_
  iterate 3 refine tk ?_
  refine ck Tryz.call23 (fun w' hw => worksz_any _ (Lib.hid (HT.out.gr (Gr.trans HB.out hw)))) ?_
  refine tk ?_
  refine nlD hT HF fun vw5 HG => ?_
  clear hT T HF lx5 lx6 lx7 HB
  go_wp2
  refine hK.out _ _ ?_; clear hK K
  show Code.wp _ _ _ _ _
  refine fH ((((HG.out).er 2).er 1).er 0) fun Wx8 HF => ?_
  clear HG
  clear hmul hmw ht38 hd1 hsl
  refine wp_ret ?_
  try simp only [Exit.then, Exit.inBlock]
  exact bodyPost_ret (v := .bool true) (by simp [results, Tryz.results18, go_sem]) rfl ⟨rfl, HF.out.1⟩

set_option maxRecDepth 100000 in
set_option maxHeartbeats 4000000 in
theorem ringz_big1 (bbx : Bool) (vx : Value) (kx : Nat) (fx : Nat → Nat) (mx : Nat) (bby : Bool) (vy : Value) (ky : Nat) (fy : Nat → Nat) (my : Nat) (bbz : Bool) (vz : Value) (kz : Nat) (fz : Nat → Nat) (mz : Nat) (a b c : Int)  (w : World) (HWx : Hid (Wa w vx kx fx)) (HFx : Hid (∀ i, i < kx → fx i < 4294967296)) (HVx : Hid (vl fx kx = mx)) (HAx : Hid ((if bbx then -((mx : Nat) : Int) else ((mx : Nat) : Int)) = a)) (HWy : Hid (Wa w vy ky fy)) (HFy : Hid (∀ i, i < ky → fy i < 4294967296)) (HVy : Hid (vl fy ky = my)) (HAy : Hid ((if bby then -((my : Nat) : Int) else ((my : Nat) : Int)) = b)) (HWz : Hid (Wa w vz kz fz)) (HFz : Hid (∀ i, i < kz → fz i < 4294967296)) (HVz : Hid (vl fz kz = mz)) (HAz : Hid ((if bbz then -((mz : Nat) : Int) else ((mz : Nat) : Int)) = c))  (hkx : 12 < kx) (HT : Hid (Tab w)) :
    Calls Tryz.prog 18 #[.agg #[.bool bbx, vx], .agg #[.bool bby, vy], .agg #[.bool bbz, vz]] w fun e w' => e = .returned (.bool true) ∧ Below w.heap.size w w' := by
  obtain ⟨ao_x, c_x, rfl⟩ := HWx.out.slice
  obtain ⟨ao_y, c_y, rfl⟩ := HWy.out.slice
  obtain ⟨ao_z, c_z, rfl⟩ := HWz.out.slice
  go_enter Tryz.func18, Tryz.ntmps18
  have HF := Lib.hid (hp0 w)
  refine kS fun K hK => ?_
  refine wp_region_lit ?_
  go_wp2
  refine hK.out _ _ ?_; clear hK K
  show Code.wp _ _ _ _ _
  refine fH ((((HF.out).al (b := w.heap.size) (by first | rfl | simp) (by decide)).al (b := w.heap.size + 1) (by first | rfl | simp) (by decide)).al (b := w.heap.size + 1 + 1) (by first | rfl | simp) (by decide)) fun Wx0 HG => ?_
  clear HF; have HF := HG; clear HG
  generalize w.heap.size + 1 + 1 = gx2 at *
  generalize w.heap.size + 1 = gx1 at *
  refine wp_seq ?_
  have lx0 := HF.out.c 0 rfl
  have lx1 := HF.out.c 1 rfl
  have lx2 := HF.out.c 2 rfl
  refine kS fun K hK => ?_
  have HG0 : Hid (Gr Wx0 Wx0) := Lib.hid (Gr.refl _)
  refine sq 6 [(true, 0), (true, 1), (true, 2), (false, 3), (true, 4), (true, 5)] fun T hT => ?_
  iterate 3 refine tk ?_
  refine wpPlan_slice (cs := #[.bool (bbx), (.slice ao_x kx c_x), .bool (bby), (.slice ao_y ky c_y), .bool (bbz), (.slice ao_z kz c_z)]) (E := 25) (n := 3) rfl (by rfl) (fun w' hw => ?_) (fun gx4 vv4 hg0 yx4 bx4 => ?_)
  · go_simp
  clear yx4
  replace HG0 := Lib.hid (HG0.out.trans hg0)
  have HGS := Lib.hid hg0; clear hg0
  clear HGS
  have BX4 := Lib.hid bx4; clear bx4
  clear lx0; have lx0 := fun w' (h : Gr _ w') => HF.out.c 0 rfl w' (HG0.out.trans h)
  clear lx1; have lx1 := fun w' (h : Gr _ w') => HF.out.c 1 rfl w' (HG0.out.trans h)
  clear lx2; have lx2 := fun w' (h : Gr _ w') => HF.out.c 2 rfl w' (HG0.out.trans h)
  simp only [Act.put, lA, lB, lC]
  refine ck Tryz.call104 (fun w' hw => few3_no0 _ _ _ _ _ _ _ _ _ _ _ _ 12 gx4 _ (BX4.out.gr hw) (by omega)) ?_
  refine tk ?_
  refine wpPlan_nil (hT.out _ _ ?_)
  intro vw1 hg
  simp only [puts, Act.put, lA, lB, lC, lD, lE, ↓reduceIte, Nat.reduceEqDiff]
  have HG := Lib.hid (HF.out.gr (HG0.out.trans hg))
  clear hT T HF hg HG0 BX4 lx0 lx1 lx2
  go_wp2
  refine hK.out _ _ ?_; clear hK K
  show Code.wp _ _ _ _ _
  have HF := HG; clear HG
  refine wp_cond_true (by rfl) ?_
  have HB := HPb HF
  refine kS fun K hK => ?_
  refine sq 2 [(true, 0), (true, 1)] fun T hT => ?_
  refine ck Tryz.call23 (fun w' hw => worksz_any _ (Lib.hid (HT.out.gr (Gr.trans HB.out hw)))) ?_
  refine tk ?_
  refine nlS hT HF fun vw2 HG => ?_
  clear hT T HF HB
  go_wp2
  refine hK.out _ _ ?_; clear hK K
  show Code.wp _ _ _ _ _
  have HF := HG; clear HG
  refine wp_ret ?_
  try simp only [Exit.then, Exit.inBlock]
  exact bodyPost_ret (v := .bool true) (by simp [results, Tryz.results18, go_sem]) rfl ⟨rfl, HF.out.1⟩

set_option maxRecDepth 100000 in
set_option maxHeartbeats 4000000 in
theorem ringz_big2 (bbx : Bool) (vx : Value) (kx : Nat) (fx : Nat → Nat) (mx : Nat) (bby : Bool) (vy : Value) (ky : Nat) (fy : Nat → Nat) (my : Nat) (bbz : Bool) (vz : Value) (kz : Nat) (fz : Nat → Nat) (mz : Nat) (a b c : Int)  (w : World) (HWx : Hid (Wa w vx kx fx)) (HFx : Hid (∀ i, i < kx → fx i < 4294967296)) (HVx : Hid (vl fx kx = mx)) (HAx : Hid ((if bbx then -((mx : Nat) : Int) else ((mx : Nat) : Int)) = a)) (HWy : Hid (Wa w vy ky fy)) (HFy : Hid (∀ i, i < ky → fy i < 4294967296)) (HVy : Hid (vl fy ky = my)) (HAy : Hid ((if bby then -((my : Nat) : Int) else ((my : Nat) : Int)) = b)) (HWz : Hid (Wa w vz kz fz)) (HFz : Hid (∀ i, i < kz → fz i < 4294967296)) (HVz : Hid (vl fz kz = mz)) (HAz : Hid ((if bbz then -((mz : Nat) : Int) else ((mz : Nat) : Int)) = c)) (hkx : kx ≤ 12) (hky : 12 < ky) (HT : Hid (Tab w)) :
    Calls Tryz.prog 18 #[.agg #[.bool bbx, vx], .agg #[.bool bby, vy], .agg #[.bool bbz, vz]] w fun e w' => e = .returned (.bool true) ∧ Below w.heap.size w w' := by
  obtain ⟨ao_x, c_x, rfl⟩ := HWx.out.slice
  obtain ⟨ao_y, c_y, rfl⟩ := HWy.out.slice
  obtain ⟨ao_z, c_z, rfl⟩ := HWz.out.slice
  go_enter Tryz.func18, Tryz.ntmps18
  have HF := Lib.hid (hp0 w)
  refine kS fun K hK => ?_
  refine wp_region_lit ?_
  go_wp2
  refine hK.out _ _ ?_; clear hK K
  show Code.wp _ _ _ _ _
  refine fH ((((HF.out).al (b := w.heap.size) (by first | rfl | simp) (by decide)).al (b := w.heap.size + 1) (by first | rfl | simp) (by decide)).al (b := w.heap.size + 1 + 1) (by first | rfl | simp) (by decide)) fun Wx0 HG => ?_
  clear HF; have HF := HG; clear HG
  generalize w.heap.size + 1 + 1 = gx2 at *
  generalize w.heap.size + 1 = gx1 at *
  refine wp_seq ?_
  have lx0 := HF.out.c 0 rfl
  have lx1 := HF.out.c 1 rfl
  have lx2 := HF.out.c 2 rfl
  refine kS fun K hK => ?_
  have HG0 : Hid (Gr Wx0 Wx0) := Lib.hid (Gr.refl _)
  refine sq 6 [(true, 0), (true, 1), (true, 2), (false, 3), (true, 4), (true, 5)] fun T hT => ?_
  iterate 3 refine tk ?_
  refine wpPlan_slice (cs := #[.bool (bbx), (.slice ao_x kx c_x), .bool (bby), (.slice ao_y ky c_y), .bool (bbz), (.slice ao_z kz c_z)]) (E := 25) (n := 3) rfl (by rfl) (fun w' hw => ?_) (fun gx4 vv4 hg0 yx4 bx4 => ?_)
  · go_simp
  clear yx4
  replace HG0 := Lib.hid (HG0.out.trans hg0)
  have HGS := Lib.hid hg0; clear hg0
  clear HGS
  have BX4 := Lib.hid bx4; clear bx4
  clear lx0; have lx0 := fun w' (h : Gr _ w') => HF.out.c 0 rfl w' (HG0.out.trans h)
  clear lx1; have lx1 := fun w' (h : Gr _ w') => HF.out.c 1 rfl w' (HG0.out.trans h)
  clear lx2; have lx2 := fun w' (h : Gr _ w') => HF.out.c 2 rfl w' (HG0.out.trans h)
  simp only [Act.put, lA, lB, lC]
  refine ck Tryz.call104 (fun w' hw => few3_no1 _ _ _ _ _ _ _ _ _ _ _ _ 12 gx4 _ (BX4.out.gr hw) (by omega) (by omega)) ?_
  refine tk ?_
  refine wpPlan_nil (hT.out _ _ ?_)
  intro vw1 hg
  simp only [puts, Act.put, lA, lB, lC, lD, lE, ↓reduceIte, Nat.reduceEqDiff]
  have HG := Lib.hid (HF.out.gr (HG0.out.trans hg))
  clear hT T HF hg HG0 BX4 lx0 lx1 lx2
  go_wp2
  refine hK.out _ _ ?_; clear hK K
  show Code.wp _ _ _ _ _
  have HF := HG; clear HG
  refine wp_cond_true (by rfl) ?_
  have HB := HPb HF
  refine kS fun K hK => ?_
  refine sq 2 [(true, 0), (true, 1)] fun T hT => ?_
  refine ck Tryz.call23 (fun w' hw => worksz_any _ (Lib.hid (HT.out.gr (Gr.trans HB.out hw)))) ?_
  refine tk ?_
  refine nlS hT HF fun vw2 HG => ?_
  clear hT T HF HB
  go_wp2
  refine hK.out _ _ ?_; clear hK K
  show Code.wp _ _ _ _ _
  have HF := HG; clear HG
  refine wp_ret ?_
  try simp only [Exit.then, Exit.inBlock]
  exact bodyPost_ret (v := .bool true) (by simp [results, Tryz.results18, go_sem]) rfl ⟨rfl, HF.out.1⟩

set_option maxRecDepth 100000 in
set_option maxHeartbeats 4000000 in
theorem ringz_big3 (bbx : Bool) (vx : Value) (kx : Nat) (fx : Nat → Nat) (mx : Nat) (bby : Bool) (vy : Value) (ky : Nat) (fy : Nat → Nat) (my : Nat) (bbz : Bool) (vz : Value) (kz : Nat) (fz : Nat → Nat) (mz : Nat) (a b c : Int)  (w : World) (HWx : Hid (Wa w vx kx fx)) (HFx : Hid (∀ i, i < kx → fx i < 4294967296)) (HVx : Hid (vl fx kx = mx)) (HAx : Hid ((if bbx then -((mx : Nat) : Int) else ((mx : Nat) : Int)) = a)) (HWy : Hid (Wa w vy ky fy)) (HFy : Hid (∀ i, i < ky → fy i < 4294967296)) (HVy : Hid (vl fy ky = my)) (HAy : Hid ((if bby then -((my : Nat) : Int) else ((my : Nat) : Int)) = b)) (HWz : Hid (Wa w vz kz fz)) (HFz : Hid (∀ i, i < kz → fz i < 4294967296)) (HVz : Hid (vl fz kz = mz)) (HAz : Hid ((if bbz then -((mz : Nat) : Int) else ((mz : Nat) : Int)) = c)) (hkx : kx ≤ 12) (hky : ky ≤ 12) (hkz : 12 < kz) (HT : Hid (Tab w)) :
    Calls Tryz.prog 18 #[.agg #[.bool bbx, vx], .agg #[.bool bby, vy], .agg #[.bool bbz, vz]] w fun e w' => e = .returned (.bool true) ∧ Below w.heap.size w w' := by
  obtain ⟨ao_x, c_x, rfl⟩ := HWx.out.slice
  obtain ⟨ao_y, c_y, rfl⟩ := HWy.out.slice
  obtain ⟨ao_z, c_z, rfl⟩ := HWz.out.slice
  go_enter Tryz.func18, Tryz.ntmps18
  have HF := Lib.hid (hp0 w)
  refine kS fun K hK => ?_
  refine wp_region_lit ?_
  go_wp2
  refine hK.out _ _ ?_; clear hK K
  show Code.wp _ _ _ _ _
  refine fH ((((HF.out).al (b := w.heap.size) (by first | rfl | simp) (by decide)).al (b := w.heap.size + 1) (by first | rfl | simp) (by decide)).al (b := w.heap.size + 1 + 1) (by first | rfl | simp) (by decide)) fun Wx0 HG => ?_
  clear HF; have HF := HG; clear HG
  generalize w.heap.size + 1 + 1 = gx2 at *
  generalize w.heap.size + 1 = gx1 at *
  refine wp_seq ?_
  have lx0 := HF.out.c 0 rfl
  have lx1 := HF.out.c 1 rfl
  have lx2 := HF.out.c 2 rfl
  refine kS fun K hK => ?_
  have HG0 : Hid (Gr Wx0 Wx0) := Lib.hid (Gr.refl _)
  refine sq 6 [(true, 0), (true, 1), (true, 2), (false, 3), (true, 4), (true, 5)] fun T hT => ?_
  iterate 3 refine tk ?_
  refine wpPlan_slice (cs := #[.bool (bbx), (.slice ao_x kx c_x), .bool (bby), (.slice ao_y ky c_y), .bool (bbz), (.slice ao_z kz c_z)]) (E := 25) (n := 3) rfl (by rfl) (fun w' hw => ?_) (fun gx4 vv4 hg0 yx4 bx4 => ?_)
  · go_simp
  clear yx4
  replace HG0 := Lib.hid (HG0.out.trans hg0)
  have HGS := Lib.hid hg0; clear hg0
  clear HGS
  have BX4 := Lib.hid bx4; clear bx4
  clear lx0; have lx0 := fun w' (h : Gr _ w') => HF.out.c 0 rfl w' (HG0.out.trans h)
  clear lx1; have lx1 := fun w' (h : Gr _ w') => HF.out.c 1 rfl w' (HG0.out.trans h)
  clear lx2; have lx2 := fun w' (h : Gr _ w') => HF.out.c 2 rfl w' (HG0.out.trans h)
  simp only [Act.put, lA, lB, lC]
  refine ck Tryz.call104 (fun w' hw => few3_no2 _ _ _ _ _ _ _ _ _ _ _ _ 12 gx4 _ (BX4.out.gr hw) (by omega) (by omega) (by omega)) ?_
  refine tk ?_
  refine wpPlan_nil (hT.out _ _ ?_)
  intro vw1 hg
  simp only [puts, Act.put, lA, lB, lC, lD, lE, ↓reduceIte, Nat.reduceEqDiff]
  have HG := Lib.hid (HF.out.gr (HG0.out.trans hg))
  clear hT T HF hg HG0 BX4 lx0 lx1 lx2
  go_wp2
  refine hK.out _ _ ?_; clear hK K
  show Code.wp _ _ _ _ _
  have HF := HG; clear HG
  refine wp_cond_true (by rfl) ?_
  have HB := HPb HF
  refine kS fun K hK => ?_
  refine sq 2 [(true, 0), (true, 1)] fun T hT => ?_
  refine ck Tryz.call23 (fun w' hw => worksz_any _ (Lib.hid (HT.out.gr (Gr.trans HB.out hw)))) ?_
  refine tk ?_
  refine nlS hT HF fun vw2 HG => ?_
  clear hT T HF HB
  go_wp2
  refine hK.out _ _ ?_; clear hK K
  show Code.wp _ _ _ _ _
  have HF := HG; clear HG
  refine wp_ret ?_
  try simp only [Exit.then, Exit.inBlock]
  exact bodyPost_ret (v := .bool true) (by simp [results, Tryz.results18, go_sem]) rfl ⟨rfl, HF.out.1⟩

theorem ringz_law (bbx : Bool) (vx : Value) (kx : Nat) (fx : Nat → Nat) (bby : Bool) (vy : Value) (ky : Nat) (fy : Nat → Nat) (bbz : Bool) (vz : Value) (kz : Nat) (fz : Nat → Nat) (w : World) (HWx : Hid (Wa w vx kx fx)) (HFx : Hid (∀ i, i < kx → fx i < 4294967296)) (HWy : Hid (Wa w vy ky fy)) (HFy : Hid (∀ i, i < ky → fy i < 4294967296)) (HWz : Hid (Wa w vz kz fz)) (HFz : Hid (∀ i, i < kz → fz i < 4294967296)) (HT : Hid (Tab w)) :
    Calls Tryz.prog 18 #[.agg #[.bool bbx, vx], .agg #[.bool bby, vy], .agg #[.bool bbz, vz]] w fun e w' => e = .returned (.bool true) ∧ Below w.heap.size w w' := by
  obtain ⟨a, ha⟩ : ∃ z, Hid ((if bbx then -((vl fx kx : Nat) : Int) else ((vl fx kx : Nat) : Int)) = z) := ⟨_, Lib.hid rfl⟩
  obtain ⟨b, hb⟩ : ∃ z, Hid ((if bby then -((vl fy ky : Nat) : Int) else ((vl fy ky : Nat) : Int)) = z) := ⟨_, Lib.hid rfl⟩
  obtain ⟨c, hc⟩ : ∃ z, Hid ((if bbz then -((vl fz kz : Nat) : Int) else ((vl fz kz : Nat) : Int)) = z) := ⟨_, Lib.hid rfl⟩
  by_cases hkx : kx ≤ 12
  · skip
    by_cases hky : ky ≤ 12
    · skip
      by_cases hkz : kz ≤ 12
      · skip
        have hp : -1 ≤ sgI a * sgI b ∧ sgI a * sgI b ≤ 1 := by rw [← sgI_mul]; exact sgI_one _
        exact ringz_main bbx vx kx fx _ bby vy ky fy _ bbz vz kz fz _ a b c _ _ _ _ w HWx HFx (Lib.hid rfl) ha HWy HFy (Lib.hid rfl) hb HWz HFz (Lib.hid rfl) hc hkx hky hkz (Lib.hid rfl) (Lib.hid rfl) (Lib.hid rfl) hp.1 hp.2 (Lib.hid rfl) HT
      · exact ringz_big3 bbx vx kx fx _ bby vy ky fy _ bbz vz kz fz _ a b c w HWx HFx (Lib.hid rfl) ha HWy HFy (Lib.hid rfl) hb HWz HFz (Lib.hid rfl) hc hkx hky (by omega) HT
    · exact ringz_big2 bbx vx kx fx _ bby vy ky fy _ bbz vz kz fz _ a b c w HWx HFx (Lib.hid rfl) ha HWy HFy (Lib.hid rfl) hb HWz HFz (Lib.hid rfl) hc hkx (by omega) HT
  · exact ringz_big1 bbx vx kx fx _ bby vy ky fy _ bbz vz kz fz _ a b c w HWx HFx (Lib.hid rfl) ha HWy HFy (Lib.hid rfl) hb HWz HFz (Lib.hid rfl) hc  (by omega) HT

end Go.Proofs.YtpcfncbcpknobaaGreatDoor
