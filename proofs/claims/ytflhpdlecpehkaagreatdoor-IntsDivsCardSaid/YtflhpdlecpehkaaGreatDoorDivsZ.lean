
/- IntsDivs: the law's walk. -/
import Derived.Test.YtflhpdlecpehkaaGreatDoorSh
import Derived.Test.YtflhpdlecpehkaaGreatDoorWorksZ
namespace Go.Proofs.YtflhpdlecpehkaaGreatDoor
open Go.RowKit
set_option linter.unusedSimpArgs false
set_option linter.unusedVariables false
attribute [local go_sem ↓] Go.wp_at_zero Go.wp_at_succ
attribute [local go_sem ↓] eq_nat eq_nat_zero eq_int
set_option maxRecDepth 100000 in
set_option maxHeartbeats 4000000 in
theorem divz_zero (bbx : Bool) (vx : Value) (kx : Nat) (fx : Nat → Nat) (mx : Nat) (bby : Bool) (vy : Value) (ky : Nat) (fy : Nat → Nat) (my : Nat) (a : Int)  (w : World) (HWx : Hid (Wa w vx kx fx)) (HFx : Hid (∀ i, i < kx → fx i < 4294967296)) (HVx : Hid (vl fx kx = mx)) (HAx : Hid ((if bbx then -((mx : Nat) : Int) else ((mx : Nat) : Int)) = a)) (HWy : Hid (Wa w vy ky fy)) (HFy : Hid (∀ i, i < ky → fy i < 4294967296)) (HVy : Hid (vl fy ky = my)) (HAy : Hid ((if bby then -((my : Nat) : Int) else ((my : Nat) : Int)) = 0)) (hkx : kx ≤ 10) (hky : ky ≤ 10) (HT : Hid (Tab w)) :
    Calls Tryz.prog 3 #[.agg #[.bool bbx, vx], .agg #[.bool bby, vy]] w fun e w' => e = .returned (.bool true) ∧ Below w.heap.size w w' := by
  obtain ⟨ao_x, c_x, rfl⟩ := HWx.out.slice
  obtain ⟨ao_y, c_y, rfl⟩ := HWy.out.slice
  have hm_x : wl mx ≤ 10 := by rw [← HVx.out]; have := wl_le.2 (vl_lt HFx.out); omega
  have hb_x : wl (Int.natAbs (a)) ≤ 10 := by rw [zsize HAx.out]; exact hm_x
  have ht_x : tw (Int.natAbs (a)) ≤ 30 := by have := tw_wl (Int.natAbs (a)); omega
  have hm_y : wl my ≤ 10 := by rw [← HVy.out]; have := wl_le.2 (vl_lt HFy.out); omega
  have hb_y : wl (Int.natAbs (0)) ≤ 10 := by rw [zsize HAy.out]; exact hm_y
  have ht_y : tw (Int.natAbs (0)) ≤ 30 := by have := tw_wl (Int.natAbs (0)); omega
  go_enter Tryz.func3, Tryz.ntmps3
  refine sK fun K hK => ?_
  refine wp_region_lit ?_
  go_wp2
  refine hK.out _ _ ?_; clear hK K
  show Code.wp _ _ _ _ _
  refine forgetW (fun w2 => Bx w2 (w.heap.size) 24 #[.bool (bbx), (.slice ao_x kx c_x)] ∧ Bx w2 (w.heap.size + 1) 24 #[.bool (bby), (.slice ao_y ky c_y)] ∧ Below w.heap.size w w2) ⟨(Bx.at rfl).alloc _, Bx.at (by simp), ((Below.refl _ _).alloc (Nat.le_refl _) _).alloc (by simp) _⟩ ?_
  rintro Wx ⟨bx0, bx1, HB⟩
  replace HB := Lib.hid HB
  refine wp_seq ?_
  have lx0 := bx0.cells
  have lx1 := bx1.cells
  have BX0 := Lib.hid bx0
  have BX1 := Lib.hid bx1
  clear bx0 bx1
  refine sK fun K hK => ?_
  have HS0 := Lib.hid (HB.out.size)
  have MX0 : w.heap.size < Wx.heap.size := BX0.out.lt
  have MX1 : w.heap.size + 1 < Wx.heap.size := BX1.out.lt
  refine wp_region_seqplan 5 [(true, 0), (true, 1), (false, 2), (true, 3), (true, 4)] (by rfl) (by simp) (fun T hT => ?_)
  iterate 2 (refine wpPlan_takeL (v := ?_) rfl (by rfl) (fun w' hw => ?_) ?_; rotate_left; go_simp; with_reducible rfl; simp only [Act.put, rA, rB, rC])
  refine wpPlan_slice (cs := #[.bool (bbx), (.slice ao_x kx c_x), .bool (bby), (.slice ao_y ky c_y)]) (E := 24) (n := 2) rfl (by rfl) (fun w' hw => ?_) (fun gx2 vv1 hg0 yx2 bx2 => ?_)
  · go_simp
  have HG0 := Lib.hid hg0; clear hg0
  replace yx2 : w.heap.size ≤ gx2 := by first | exact Nat.le_trans HS0.out yx2 | exact Nat.le_trans HB.out.size yx2
  have BX2 := Lib.hid bx2; clear bx2
  replace BX0 := bG BX0 HG0
  replace BX1 := bG BX1 HG0
  replace HB := Lib.hid (HB.out.trans (HG0.out.mono HB.out.size))
  clear HG0
  clear lx0; have lx0 := BX0.out.cells
  clear lx1; have lx1 := BX1.out.cells
  simp only [Act.put, rA, rB, rC]
  refine wpPlan_callL rfl (by rfl) Tryz.call6 (fun w' hw => few2_ok _ _ _ _ _ _ _ _ 10 gx2 _ (BX2.out.gr hw) (by omega) (by omega)) (by rfl) ?_
  simp only [Act.put, rA, rB, rC]
  refine wpPlan_takeL (v := ?_) rfl (by rfl) (fun w' hw => ?_) ?_; rotate_left; go_simp; with_reducible rfl; simp only [Act.put, rA, rB, rC]
  refine wpPlan_nil (hT.out _ _ ?_); clear hT T
  intro vw1 hg
  simp only [puts, Act.put, rA, rB, rC, rD, rE, ↓reduceIte, Nat.reduceEqDiff]
  clear lx0 lx1
  clear BX2
  have HG := Lib.hid (hg)
  clear hg
  replace BX0 := bG BX0 HG
  replace BX1 := bG BX1 HG
  have r0 := Gr.refl vw1
  go_wp2
  refine hK.out _ _ ?_; clear hK K
  show Code.wp _ _ _ _ _
  clear r0
  refine forgetW (fun w2 => Bx w2 (w.heap.size) 24 #[.bool (bbx), (.slice ao_x kx c_x)] ∧ Bx w2 (w.heap.size + 1) 24 #[.bool (bby), (.slice ao_y ky c_y)] ∧ Below w.heap.size w w2) ⟨BX0.out, BX1.out, HB.out.trans (HG.out.mono HB.out.size)⟩ ?_
  clear HB HG BX0 BX1
  rintro Wx1 ⟨bx0, bx1, HB⟩
  replace HB := Lib.hid HB
  refine wp_cond_false (by rfl) ?_
  refine wp_skip ?_
  show Code.wp _ _ _ _ _
  have lx0 := bx0.cells
  have lx1 := bx1.cells
  have BX0 := Lib.hid bx0
  have BX1 := Lib.hid bx1
  clear bx0 bx1
  refine sK fun K hK => ?_
  have HS0 := Lib.hid (HB.out.size)
  have MX0 : w.heap.size < Wx1.heap.size := BX0.out.lt
  have MX1 : w.heap.size + 1 < Wx1.heap.size := BX1.out.lt
  refine wp_region_plan 12 [8, 9, 10, 11] [] (fun i => if i = 8 then 5 else if i = 9 then 6 else if i = 10 then 7 else 8) (fun i => if i = 8 then .cells #[.int .u64 0, .string ⟨#[]⟩, .bool false] 33 else if i = 9 then .cells #[.int .u64 0, .string ⟨#[]⟩, .bool false] 33 else if i = 10 then .cells #[.bool false, .slice none 0 0] 38 else .cells #[.bool false, .slice none 0 0] 38) [(true, 0), (true, 2), (true, 4), (true, 6), (true, 1), (true, 3), (false, 5), (false, 7)] (by kernel_rfl) (by kernel_rfl) (by intro i hi; simp only [List.mem_cons, List.not_mem_nil, or_false] at hi; rcases hi with rfl | rfl | rfl | rfl <;> exact ⟨_, rfl, rfl, rfl, by simp, fun ρ w => by kernel_rfl⟩) (fun i hi => by cases hi) (fun _ _ _ _ _ h => h) (fun T hT => ?_)
  iterate 4 (refine wpPlan_takeL (v := ?_) rfl (by rfl) (fun w' hw => ?_) ?_; rotate_left; go_simp; with_reducible rfl; simp only [Act.put, rA, rB, rC])
  refine wpPlan_callL rfl (by rfl) Tryz.call8 (fun w' hw => zlof bbx kx fx mx a ao_x c_x w' (Lib.hid (HWx.out.gr (Gr.trans HB.out hw))) HFx HVx HAx (by first | omega | exact wlc (by decide)) (by first | omega | exact wlc (by decide))) (by rfl) ?_
  simp only [Act.put, rA, rB, rC]
  refine wpPlan_callL rfl (by rfl) Tryz.call8 (fun w' hw => zlof bby ky fy my 0 ao_y c_y w' (Lib.hid (HWy.out.gr (Gr.trans HB.out hw))) HFy HVy HAy (by first | omega | exact wlc (by decide)) (by first | omega | exact wlc (by decide))) (by rfl) ?_
  simp only [Act.put, rA, rB, rC]
  refine wpPlan_callE rfl (by rfl) Tryz.call9 (by rfl) (fun w' hw => ((zlref bbx kx fx mx a ao_x c_x w' (Lib.hid (HWx.out.gr (Gr.trans HB.out hw))) HFx HVx HAx (by first | omega | exact wlc (by decide)) (by first | omega | exact wlc (by decide)))).mono ?_)
  rintro e vv1 ⟨⟨rv1, rfl, bx3⟩, hg0⟩
  obtain ⟨ao1, nn1, cc1, rfl⟩ := Rn.sl bx3
  refine ⟨_, rfl, hg0, ?_⟩
  replace hg0 := Gr.trans hw hg0; clear hw
  have HG0 := Lib.hid hg0; clear hg0
  replace BX0 := bG BX0 HG0
  replace BX1 := bG BX1 HG0
  replace HB := Lib.hid (HB.out.trans (HG0.out.mono HB.out.size))
  have BX3 := Lib.hid bx3; clear bx3
  clear HG0
  clear lx0; have lx0 := BX0.out.cells
  clear lx1; have lx1 := BX1.out.cells
  simp only [Act.put, rA, rB, rC]
  refine wpPlan_callE rfl (by rfl) Tryz.call9 (by rfl) (fun w' hw => ((zlref bby ky fy my 0 ao_y c_y w' (Lib.hid (HWy.out.gr (Gr.trans HB.out hw))) HFy HVy HAy (by first | omega | exact wlc (by decide)) (by first | omega | exact wlc (by decide)))).mono ?_)
  rintro e vv2 ⟨⟨rv2, rfl, bx4⟩, hg0⟩
  obtain ⟨ao2, nn2, cc2, rfl⟩ := Rn.sl bx4
  refine ⟨_, rfl, hg0, ?_⟩
  replace hg0 := Gr.trans hw hg0; clear hw
  have HG0 := Lib.hid hg0; clear hg0
  replace BX0 := bG BX0 HG0
  replace BX1 := bG BX1 HG0
  replace BX3 := rG BX3 HG0
  replace HB := Lib.hid (HB.out.trans (HG0.out.mono HB.out.size))
  have BX4 := Lib.hid bx4; clear bx4
  clear HG0
  clear lx0; have lx0 := BX0.out.cells
  clear lx1; have lx1 := BX1.out.cells
  simp only [Act.put, rA, rB, rC]
  refine wpPlan_nil (hT.out _ _ ?_); clear hT T
  intro G vw2 hg hf
  simp only [puts, Act.put, rA, rB, rC, rD, rE, ↓reduceIte, Nat.reduceEqDiff]
  clear lx0 lx1
  have HG := Lib.hid (hg)
  clear hg
  have bx5 := Bx.of_fresh hf (i := 8) (by decide) rfl
  have yx5 := (hf.1 8 (by decide)).1
  have bx6 := Bx.of_fresh hf (i := 9) (by decide) rfl
  have yx6 := (hf.1 9 (by decide)).1
  have dx5_6 : G 8 ≠ G 9 := fun e => absurd (hf.2 8 (by decide) 9 (by decide) e) (by decide)
  have bx7 := Bx.of_fresh hf (i := 10) (by decide) rfl
  have yx7 := (hf.1 10 (by decide)).1
  have dx5_7 : G 8 ≠ G 10 := fun e => absurd (hf.2 8 (by decide) 10 (by decide) e) (by decide)
  have dx6_7 : G 9 ≠ G 10 := fun e => absurd (hf.2 9 (by decide) 10 (by decide) e) (by decide)
  have bx8 := Bx.of_fresh hf (i := 11) (by decide) rfl
  have yx8 := (hf.1 11 (by decide)).1
  have dx5_8 : G 8 ≠ G 11 := fun e => absurd (hf.2 8 (by decide) 11 (by decide) e) (by decide)
  have dx6_8 : G 9 ≠ G 11 := fun e => absurd (hf.2 9 (by decide) 11 (by decide) e) (by decide)
  have dx7_8 : G 10 ≠ G 11 := fun e => absurd (hf.2 10 (by decide) 11 (by decide) e) (by decide)
  clear hf
  generalize G 8 = gx5 at *
  generalize G 9 = gx6 at *
  generalize G 10 = gx7 at *
  generalize G 11 = gx8 at *
  have qx0_5 : w.heap.size < gx5 := Nat.lt_of_lt_of_le MX0 yx5
  have qx0_6 : w.heap.size < gx6 := Nat.lt_of_lt_of_le MX0 yx6
  have qx0_7 : w.heap.size < gx7 := Nat.lt_of_lt_of_le MX0 yx7
  have qx0_8 : w.heap.size < gx8 := Nat.lt_of_lt_of_le MX0 yx8
  have qx1_5 : w.heap.size + 1 < gx5 := Nat.lt_of_lt_of_le MX1 yx5
  have qx1_6 : w.heap.size + 1 < gx6 := Nat.lt_of_lt_of_le MX1 yx6
  have qx1_7 : w.heap.size + 1 < gx7 := Nat.lt_of_lt_of_le MX1 yx7
  have qx1_8 : w.heap.size + 1 < gx8 := Nat.lt_of_lt_of_le MX1 yx8
  replace yx5 : w.heap.size ≤ gx5 := Nat.le_trans HS0.out yx5
  replace yx6 : w.heap.size ≤ gx6 := Nat.le_trans HS0.out yx6
  replace yx7 : w.heap.size ≤ gx7 := Nat.le_trans HS0.out yx7
  replace yx8 : w.heap.size ≤ gx8 := Nat.le_trans HS0.out yx8
  replace BX0 := bG BX0 HG
  replace BX1 := bG BX1 HG
  replace BX3 := rG BX3 HG
  replace BX4 := rG BX4 HG
  have lx5 := bx5.cells; have fx5 := bx5.free
  have lx6 := bx6.cells; have fx6 := bx6.free
  have lx7 := bx7.cells; have fx7 := bx7.free
  have lx8 := bx8.cells; have fx8 := bx8.free
  have r0 := Gr.refl vw2
  have BX5 := Lib.hid bx5; clear bx5
  have BX6 := Lib.hid bx6; clear bx6
  have BX7 := Lib.hid bx7; clear bx7
  have BX8 := Lib.hid bx8; clear bx8
  go_wp2
  refine hK.out _ _ ?_; clear hK K
  show Code.wp _ _ _ _ _
  clear lx5 fx5
  clear lx6 fx6
  clear lx7 fx7
  clear lx8 fx8
  clear r0
  refine forgetW (fun w2 => Rn w2 (.slice ao1 nn1 cc1) (Int.natAbs (a)) ∧ Rn w2 (.slice ao2 nn2 cc2) (Int.natAbs (0)) ∧ Bx w2 gx5 33 #[.int .u64 (lo (Int.natAbs (a))), .string (bg (Int.natAbs (a))), .bool (decide ((a) < 0))] ∧ Bx w2 gx6 33 #[.int .u64 (lo (Int.natAbs (0))), .string (bg (Int.natAbs (0))), .bool (decide ((0) < 0))] ∧ Bx w2 gx7 38 #[.bool (decide ((a) < 0)), (.slice ao1 nn1 cc1)] ∧ Bx w2 gx8 38 #[.bool (decide ((0) < 0)), (.slice ao2 nn2 cc2)] ∧ Below w.heap.size w w2) ⟨ro2 (ro2 (ro3 (ro3 (BX3.out) (Rn.ne BX3.out BX5.out (by decide))) (Rn.ne BX3.out BX6.out (by decide))) (Rn.ne BX3.out BX7.out (by decide))) (Rn.ne BX3.out BX8.out (by decide)), ro2 (ro2 (ro3 (ro3 (BX4.out) (Rn.ne BX4.out BX5.out (by decide))) (Rn.ne BX4.out BX6.out (by decide))) (Rn.ne BX4.out BX7.out (by decide))) (Rn.ne BX4.out BX8.out (by decide)), (so2 (so2 (so3 ((((BX5.out).set 0 _).set 1 _).set 2 _) (by show gx5 ≠ gx6; omega)) (by show gx5 ≠ gx7; omega)) (by show gx5 ≠ gx8; omega)).eq (by simp only [rA, rB, rC]), (so2 (so2 ((((so3 (BX6.out) (by show gx6 ≠ gx5; omega)).set 0 _).set 1 _).set 2 _) (by show gx6 ≠ gx7; omega)) (by show gx6 ≠ gx8; omega)).eq (by first | (simp only [List.setIfInBounds_toArray, List.set_cons_zero, List.set_cons_succ]; done) | simp [lo_zero, bg_zero]), (so2 (((so3 (so3 (BX7.out) (by show gx7 ≠ gx5; omega)) (by show gx7 ≠ gx6; omega)).set 0 _).set 1 _) (by show gx7 ≠ gx8; omega)).eq (by simp only [rA, rB, rC]), (((so2 (so3 (so3 (BX8.out) (by show gx8 ≠ gx5; omega)) (by show gx8 ≠ gx6; omega)) (by show gx8 ≠ gx7; omega)).set 0 _).set 1 _).eq (by first | (simp only [List.setIfInBounds_toArray, List.set_cons_zero, List.set_cons_succ]; done) | simp), sc2 (sc2 (sc3 (sc3 (HB.out.trans (HG.out.mono HB.out.size)) (by show w.heap.size ≤ gx5; omega)) (by show w.heap.size ≤ gx6; omega)) (by show w.heap.size ≤ gx7; omega)) (by show w.heap.size ≤ gx8; omega)⟩ ?_
  clear HB HG BX0 BX1 BX3 BX4 BX5 BX6 BX7 BX8
  rintro Wx3 ⟨bx3, bx4, bx5, bx6, bx7, bx8, HB⟩
  replace HB := Lib.hid HB
  obtain ⟨u1, HZ1⟩ : ∃ z, Hid ((egcd (a) (0)).1 = z) := ⟨_, Lib.hid rfl⟩
  have su1 : wl (Int.natAbs (u1)) ≤ 14 := by rw [← HZ1.out]; have := wl_egcd (a := a) (b := 0) (M := 10) (by first | omega | exact wlc (by decide)) (by first | omega | exact wlc (by decide)) (by decide); omega
  obtain ⟨u2, HZ2⟩ : ∃ z, Hid ((egcd (a) (0)).2.1 = z) := ⟨_, Lib.hid rfl⟩
  have su2 : wl (Int.natAbs (u2)) ≤ 14 := by rw [← HZ2.out]; have := wl_egcd (a := a) (b := 0) (M := 10) (by first | omega | exact wlc (by decide)) (by first | omega | exact wlc (by decide)) (by decide); omega
  have HZ3 : Hid ((egcd (a) (0)).2.2 = 0) := Lib.hid (by first | rfl | omega | (simp; done) | exact eg0 _ | (rw [egcd_zero]; done) | (rw [egcd_zero]; simp; done) | exact elt _ _ (by assumption) | exact zback _ | exact eg_comb _ _ | exact eg_abs _ _ | exact idv0 _ _ | exact idv1 _ _ _ (by assumption) | exact idv2 _ _ _ | (simp only [← HZ2.out, ← HZ1.out] <;> first | rfl | omega | (simp; done) | exact eg0 _ | (rw [egcd_zero]; done) | (rw [egcd_zero]; simp; done) | exact elt _ _ (by assumption) | exact zback _ | exact eg_comb _ _ | exact eg_abs _ _ | exact idv0 _ _ | exact idv1 _ _ _ (by assumption) | exact idv2 _ _ _ | grind))
  have su3 : wl (Int.natAbs (0)) ≤ 14 := by have e := HZ3.out; first | omega | (rw [← e]; have := wl_egcd (a := a) (b := 0) (M := 10) (by first | omega | exact wlc (by decide)) (by first | omega | exact wlc (by decide)) (by decide); omega) | exact wl_le.2 (by decide +kernel)
  have lx5 := bx5.cells
  have lx6 := bx6.cells
  have BX3 := Lib.hid bx3
  have BX4 := Lib.hid bx4
  have BX5 := Lib.hid bx5
  have BX6 := Lib.hid bx6
  have BX7 := Lib.hid bx7
  have BX8 := Lib.hid bx8
  clear bx3 bx4 bx5 bx6 bx7 bx8
  refine sK fun K hK => ?_
  refine wp_region_seqplan 7 [(true, 0), (true, 1), (true, 2), (true, 3), (true, 4), (true, 5), (true, 6)] (by rfl) (by simp) (fun T hT => ?_)
  iterate 2 (refine wpPlan_takeL (v := ?_) rfl (by rfl) (fun w' hw => ?_) ?_; rotate_left; go_simp; with_reducible rfl; simp only [Act.put, rA, rB, rC])
  refine wpPlan_callL rfl (by rfl) Tryz.call10 (fun w' hw => zigcd (a) (0) (u1) (u2) (0) _ HZ1.out HZ2.out HZ3.out (by first | omega | exact wlc (by decide)) (by first | omega | exact wlc (by decide))) (by rfl) ?_
  simp only [Act.put, rA, rB, rC]
  iterate 4 (refine wpPlan_takeL (v := ?_) rfl (by rfl) (fun w' hw => ?_) ?_; rotate_left; go_simp; with_reducible rfl; simp only [Act.put, rA, rB, rC])
  refine wpPlan_nil (hT.out _ _ ?_); clear hT T
  intro vw3 hg
  simp only [puts, Act.put, rA, rB, rC, rD, rE, ↓reduceIte, Nat.reduceEqDiff]
  clear lx5 lx6
  have HG := Lib.hid (hg)
  clear hg
  replace BX3 := rG BX3 HG
  replace BX4 := rG BX4 HG
  replace BX5 := bG BX5 HG
  replace BX6 := bG BX6 HG
  replace BX7 := bG BX7 HG
  replace BX8 := bG BX8 HG
  have r0 := Gr.refl vw3
  go_wp2
  refine hK.out _ _ ?_; clear hK K
  show Code.wp _ _ _ _ _
  clear r0
  have hsz : w.heap.size ≤ vw3.heap.size := Nat.le_trans HB.out.size HG.out.size
  have mx5 : gx5 < vw3.heap.size := BX5.out.lt
  have mx6 : gx6 < vw3.heap.size := BX6.out.lt
  have mx7 : gx7 < vw3.heap.size := BX7.out.lt
  have mx8 : gx8 < vw3.heap.size := BX8.out.lt
  refine forgetW (fun w2 => Rn w2 (.slice ao1 nn1 cc1) (Int.natAbs (a)) ∧ Rn w2 (.slice ao2 nn2 cc2) (Int.natAbs (0)) ∧ Bx w2 gx5 33 #[.int .u64 (lo (Int.natAbs (a))), .string (bg (Int.natAbs (a))), .bool (decide ((a) < 0))] ∧ Bx w2 gx6 33 #[.int .u64 (lo (Int.natAbs (0))), .string (bg (Int.natAbs (0))), .bool (decide ((0) < 0))] ∧ Bx w2 gx7 38 #[.bool (decide ((a) < 0)), (.slice ao1 nn1 cc1)] ∧ Bx w2 gx8 38 #[.bool (decide ((0) < 0)), (.slice ao2 nn2 cc2)] ∧ Bx w2 (vw3.heap.size) 33 #[.int .u64 (lo (Int.natAbs (u1))), .string (bg (Int.natAbs (u1))), .bool (decide ((u1) < 0))] ∧ Bx w2 (vw3.heap.size + 1) 33 #[.int .u64 (lo (Int.natAbs (u2))), .string (bg (Int.natAbs (u2))), .bool (decide ((u2) < 0))] ∧ Bx w2 (vw3.heap.size + 1 + 1) 33 #[.int .u64 (lo (Int.natAbs (0))), .string (bg (Int.natAbs (0))), .bool (decide ((0) < 0))] ∧ Below w.heap.size w w2) ⟨(((BX3.out).alloc _).alloc _).alloc _, (((BX4.out).alloc _).alloc _).alloc _, (((BX5.out).alloc _).alloc _).alloc _, (((BX6.out).alloc _).alloc _).alloc _, (((BX7.out).alloc _).alloc _).alloc _, (((BX8.out).alloc _).alloc _).alloc _, (((Bx.at (by simp) : Bx _ (vw3.heap.size) _ _)).alloc _).alloc _, ((Bx.at (by simp) : Bx _ (vw3.heap.size + 1) _ _)).alloc _, (Bx.at (by simp) : Bx _ (vw3.heap.size + 1 + 1) _ _), (((HB.out.trans (HG.out.mono HB.out.size)).alloc (by first | omega | (simp; omega)) _).alloc (by first | omega | (simp; omega)) _).alloc (by first | omega | (simp; omega)) _⟩ ?_
  clear HB HG BX3 BX4 BX5 BX6 BX7 BX8
  rintro Wx4 ⟨bx3, bx4, bx5, bx6, bx7, bx8, bx9, bx10, bx11, HB⟩
  replace HB := Lib.hid HB
  have qx9_10 : vw3.heap.size < vw3.heap.size + 1 := by omega
  have qx9_11 : vw3.heap.size < vw3.heap.size + 1 + 1 := by omega
  have qx10_11 : vw3.heap.size + 1 < vw3.heap.size + 1 + 1 := by omega
  have yx11 : w.heap.size ≤ vw3.heap.size + 1 + 1 := by omega
  have qx5_11 : gx5 < vw3.heap.size + 1 + 1 := by omega
  have qx6_11 : gx6 < vw3.heap.size + 1 + 1 := by omega
  have qx7_11 : gx7 < vw3.heap.size + 1 + 1 := by omega
  have qx8_11 : gx8 < vw3.heap.size + 1 + 1 := by omega
  generalize hx11 : vw3.heap.size + 1 + 1 = gx11 at *
  clear hx11
  have yx10 : w.heap.size ≤ vw3.heap.size + 1 := by omega
  have qx5_10 : gx5 < vw3.heap.size + 1 := by omega
  have qx6_10 : gx6 < vw3.heap.size + 1 := by omega
  have qx7_10 : gx7 < vw3.heap.size + 1 := by omega
  have qx8_10 : gx8 < vw3.heap.size + 1 := by omega
  generalize hx10 : vw3.heap.size + 1 = gx10 at *
  clear hx10
  have yx9 : w.heap.size ≤ vw3.heap.size := by omega
  have qx5_9 : gx5 < vw3.heap.size := by omega
  have qx6_9 : gx6 < vw3.heap.size := by omega
  have qx7_9 : gx7 < vw3.heap.size := by omega
  have qx8_9 : gx8 < vw3.heap.size := by omega
  generalize hx9 : vw3.heap.size = gx9 at *
  clear hx9
  clear hsz mx5 mx6 mx7 mx8
  have HZ4 : Hid ((egcd (a) (0)).1 = u1) := Lib.hid (by first | rfl | omega | (simp; done) | exact eg0 _ | (rw [egcd_zero]; done) | (rw [egcd_zero]; simp; done) | exact elt _ _ (by assumption) | exact zback _ | exact eg_comb _ _ | exact eg_abs _ _ | exact idv0 _ _ | exact idv1 _ _ _ (by assumption) | exact idv2 _ _ _ | (simp only [← HZ2.out, ← HZ1.out] <;> first | rfl | omega | (simp; done) | exact eg0 _ | (rw [egcd_zero]; done) | (rw [egcd_zero]; simp; done) | exact elt _ _ (by assumption) | exact zback _ | exact eg_comb _ _ | exact eg_abs _ _ | exact idv0 _ _ | exact idv1 _ _ _ (by assumption) | exact idv2 _ _ _ | grind))
  have su4 : tw (Int.natAbs (u1)) ≤ 34 := by have e := HZ4.out; first | omega | (rw [← e]; have := tw_egcd' (a := a) (b := 0) (M := 30) (by first | omega | exact wlc (by decide)) (by first | omega | exact wlc (by decide)); omega)
  have HZ5 : Hid ((egcd (a) (0)).2.1 = u2) := Lib.hid (by first | rfl | omega | (simp; done) | exact eg0 _ | (rw [egcd_zero]; done) | (rw [egcd_zero]; simp; done) | exact elt _ _ (by assumption) | exact zback _ | exact eg_comb _ _ | exact eg_abs _ _ | exact idv0 _ _ | exact idv1 _ _ _ (by assumption) | exact idv2 _ _ _ | (simp only [← HZ2.out, ← HZ1.out] <;> first | rfl | omega | (simp; done) | exact eg0 _ | (rw [egcd_zero]; done) | (rw [egcd_zero]; simp; done) | exact elt _ _ (by assumption) | exact zback _ | exact eg_comb _ _ | exact eg_abs _ _ | exact idv0 _ _ | exact idv1 _ _ _ (by assumption) | exact idv2 _ _ _ | grind))
  have su5 : tw (Int.natAbs (u2)) ≤ 34 := by have e := HZ5.out; first | omega | (rw [← e]; have := tw_egcd' (a := a) (b := 0) (M := 30) (by first | omega | exact wlc (by decide)) (by first | omega | exact wlc (by decide)); omega)
  have HZ6 : Hid ((egcd (a) (0)).2.2 = 0) := Lib.hid (by first | rfl | omega | (simp; done) | exact eg0 _ | (rw [egcd_zero]; done) | (rw [egcd_zero]; simp; done) | exact elt _ _ (by assumption) | exact zback _ | exact eg_comb _ _ | exact eg_abs _ _ | exact idv0 _ _ | exact idv1 _ _ _ (by assumption) | exact idv2 _ _ _ | (simp only [← HZ2.out, ← HZ1.out] <;> first | rfl | omega | (simp; done) | exact eg0 _ | (rw [egcd_zero]; done) | (rw [egcd_zero]; simp; done) | exact elt _ _ (by assumption) | exact zback _ | exact eg_comb _ _ | exact eg_abs _ _ | exact idv0 _ _ | exact idv1 _ _ _ (by assumption) | exact idv2 _ _ _ | grind))
  have su6 : tw (Int.natAbs (0)) ≤ 34 := by have e := HZ6.out; first | omega | (rw [← e]; have := tw_egcd' (a := a) (b := 0) (M := 30) (by first | omega | exact wlc (by decide)) (by first | omega | exact wlc (by decide)); omega) | exact tw_le.2 (by decide +kernel)
  have lx7 := bx7.cells
  have lx8 := bx8.cells
  have BX3 := Lib.hid bx3
  have BX4 := Lib.hid bx4
  have BX5 := Lib.hid bx5
  have BX6 := Lib.hid bx6
  have BX7 := Lib.hid bx7
  have BX8 := Lib.hid bx8
  have BX9 := Lib.hid bx9
  have BX10 := Lib.hid bx10
  have BX11 := Lib.hid bx11
  clear bx3 bx4 bx5 bx6 bx7 bx8 bx9 bx10 bx11
  refine sK fun K hK => ?_
  have HS0 := Lib.hid (HB.out.size)
  have MX5 : gx5 < Wx4.heap.size := BX5.out.lt
  have MX6 : gx6 < Wx4.heap.size := BX6.out.lt
  have MX7 : gx7 < Wx4.heap.size := BX7.out.lt
  have MX8 : gx8 < Wx4.heap.size := BX8.out.lt
  have MX9 : gx9 < Wx4.heap.size := BX9.out.lt
  have MX10 : gx10 < Wx4.heap.size := BX10.out.lt
  have MX11 : gx11 < Wx4.heap.size := BX11.out.lt
  refine wp_region_seqplan 7 [(true, 0), (true, 1), (false, 2), (true, 3), (true, 4), (true, 5), (true, 6)] (by rfl) (by simp) (fun T hT => ?_)
  iterate 2 (refine wpPlan_takeL (v := ?_) rfl (by rfl) (fun w' hw => ?_) ?_; rotate_left; go_simp; with_reducible rfl; simp only [Act.put, rA, rB, rC])
  refine wpPlan_callE rfl (by rfl) Tryz.call11 (by rfl) (fun w' hw => (zzgcd (a) (0) (u1) (u2) (0) _ _ _ HZ4.out HZ5.out HZ6.out (by omega) (by omega) (BX3.out.gr hw) (BX4.out.gr hw)).mono ?_)
  rintro e vv1 ⟨⟨rv3, rv4, rv5, rfl, bx12, bx13, bx14⟩, hg0⟩
  obtain ⟨ao3, nn3, cc3, rfl⟩ := Rn.sl bx12
  obtain ⟨ao4, nn4, cc4, rfl⟩ := Rn.sl bx13
  obtain ⟨ao5, nn5, cc5, rfl⟩ := Rn.sl bx14
  refine ⟨_, rfl, hg0, ?_⟩
  replace hg0 := Gr.trans hw hg0; clear hw
  have HG0 := Lib.hid hg0; clear hg0
  replace BX3 := rG BX3 HG0
  replace BX4 := rG BX4 HG0
  replace BX5 := bG BX5 HG0
  replace BX6 := bG BX6 HG0
  replace BX7 := bG BX7 HG0
  replace BX8 := bG BX8 HG0
  replace BX9 := bG BX9 HG0
  replace BX10 := bG BX10 HG0
  replace BX11 := bG BX11 HG0
  replace HB := Lib.hid (HB.out.trans (HG0.out.mono HB.out.size))
  have BX12 := Lib.hid bx12; clear bx12
  have BX13 := Lib.hid bx13; clear bx13
  have BX14 := Lib.hid bx14; clear bx14
  clear HG0
  clear lx7; have lx7 := BX7.out.cells
  clear lx8; have lx8 := BX8.out.cells
  simp only [Act.put, rA, rB, rC]
  iterate 4 (refine wpPlan_takeL (v := ?_) rfl (by rfl) (fun w' hw => ?_) ?_; rotate_left; go_simp; with_reducible rfl; simp only [Act.put, rA, rB, rC])
  refine wpPlan_nil (hT.out _ _ ?_); clear hT T
  intro vw4 hg
  simp only [puts, Act.put, rA, rB, rC, rD, rE, ↓reduceIte, Nat.reduceEqDiff]
  clear lx7 lx8
  have HG := Lib.hid (hg)
  clear hg
  replace BX3 := rG BX3 HG
  replace BX4 := rG BX4 HG
  replace BX5 := bG BX5 HG
  replace BX6 := bG BX6 HG
  replace BX7 := bG BX7 HG
  replace BX8 := bG BX8 HG
  replace BX9 := bG BX9 HG
  replace BX10 := bG BX10 HG
  replace BX11 := bG BX11 HG
  replace BX12 := rG BX12 HG
  replace BX13 := rG BX13 HG
  replace BX14 := rG BX14 HG
  have r0 := Gr.refl vw4
  go_wp2
  refine hK.out _ _ ?_; clear hK K
  show Code.wp _ _ _ _ _
  clear r0
  have hsz : w.heap.size ≤ vw4.heap.size := Nat.le_trans HB.out.size HG.out.size
  have mx5 : gx5 < vw4.heap.size := BX5.out.lt
  have mx6 : gx6 < vw4.heap.size := BX6.out.lt
  have mx7 : gx7 < vw4.heap.size := BX7.out.lt
  have mx8 : gx8 < vw4.heap.size := BX8.out.lt
  have mx9 : gx9 < vw4.heap.size := BX9.out.lt
  have mx10 : gx10 < vw4.heap.size := BX10.out.lt
  have mx11 : gx11 < vw4.heap.size := BX11.out.lt
  refine forgetW (fun w2 => Rn w2 (.slice ao1 nn1 cc1) (Int.natAbs (a)) ∧ Rn w2 (.slice ao2 nn2 cc2) (Int.natAbs (0)) ∧ Bx w2 gx5 33 #[.int .u64 (lo (Int.natAbs (a))), .string (bg (Int.natAbs (a))), .bool (decide ((a) < 0))] ∧ Bx w2 gx6 33 #[.int .u64 (lo (Int.natAbs (0))), .string (bg (Int.natAbs (0))), .bool (decide ((0) < 0))] ∧ Bx w2 gx7 38 #[.bool (decide ((a) < 0)), (.slice ao1 nn1 cc1)] ∧ Bx w2 gx8 38 #[.bool (decide ((0) < 0)), (.slice ao2 nn2 cc2)] ∧ Bx w2 gx9 33 #[.int .u64 (lo (Int.natAbs (u1))), .string (bg (Int.natAbs (u1))), .bool (decide ((u1) < 0))] ∧ Bx w2 gx10 33 #[.int .u64 (lo (Int.natAbs (u2))), .string (bg (Int.natAbs (u2))), .bool (decide ((u2) < 0))] ∧ Bx w2 gx11 33 #[.int .u64 (lo (Int.natAbs (0))), .string (bg (Int.natAbs (0))), .bool (decide ((0) < 0))] ∧ Rn w2 (.slice ao3 nn3 cc3) (Int.natAbs (u1)) ∧ Rn w2 (.slice ao4 nn4 cc4) (Int.natAbs (u2)) ∧ Rn w2 (.slice ao5 nn5 cc5) (Int.natAbs (0)) ∧ Bx w2 (vw4.heap.size) 38 #[.bool (decide ((u1) < 0)), (.slice ao3 nn3 cc3)] ∧ Bx w2 (vw4.heap.size + 1) 38 #[.bool (decide ((u2) < 0)), (.slice ao4 nn4 cc4)] ∧ Bx w2 (vw4.heap.size + 1 + 1) 38 #[.bool (decide ((0) < 0)), (.slice ao5 nn5 cc5)] ∧ Below w.heap.size w w2) ⟨(((BX3.out).alloc _).alloc _).alloc _, (((BX4.out).alloc _).alloc _).alloc _, (((BX5.out).alloc _).alloc _).alloc _, (((BX6.out).alloc _).alloc _).alloc _, (((BX7.out).alloc _).alloc _).alloc _, (((BX8.out).alloc _).alloc _).alloc _, (((BX9.out).alloc _).alloc _).alloc _, (((BX10.out).alloc _).alloc _).alloc _, (((BX11.out).alloc _).alloc _).alloc _, (((BX12.out).alloc _).alloc _).alloc _, (((BX13.out).alloc _).alloc _).alloc _, (((BX14.out).alloc _).alloc _).alloc _, (((Bx.at (by simp) : Bx _ (vw4.heap.size) _ _)).alloc _).alloc _, ((Bx.at (by simp) : Bx _ (vw4.heap.size + 1) _ _)).alloc _, (Bx.at (by simp) : Bx _ (vw4.heap.size + 1 + 1) _ _), (((HB.out.trans (HG.out.mono HB.out.size)).alloc (by first | omega | (simp; omega)) _).alloc (by first | omega | (simp; omega)) _).alloc (by first | omega | (simp; omega)) _⟩ ?_
  clear HB HG BX3 BX4 BX5 BX6 BX7 BX8 BX9 BX10 BX11 BX12 BX13 BX14
  rintro Wx5 ⟨bx3, bx4, bx5, bx6, bx7, bx8, bx9, bx10, bx11, bx12, bx13, bx14, bx15, bx16, bx17, HB⟩
  replace HB := Lib.hid HB
  have qx15_16 : vw4.heap.size < vw4.heap.size + 1 := by omega
  have qx15_17 : vw4.heap.size < vw4.heap.size + 1 + 1 := by omega
  have qx16_17 : vw4.heap.size + 1 < vw4.heap.size + 1 + 1 := by omega
  have yx17 : w.heap.size ≤ vw4.heap.size + 1 + 1 := by omega
  have qx5_17 : gx5 < vw4.heap.size + 1 + 1 := by omega
  have qx6_17 : gx6 < vw4.heap.size + 1 + 1 := by omega
  have qx7_17 : gx7 < vw4.heap.size + 1 + 1 := by omega
  have qx8_17 : gx8 < vw4.heap.size + 1 + 1 := by omega
  have qx9_17 : gx9 < vw4.heap.size + 1 + 1 := by omega
  have qx10_17 : gx10 < vw4.heap.size + 1 + 1 := by omega
  have qx11_17 : gx11 < vw4.heap.size + 1 + 1 := by omega
  generalize hx17 : vw4.heap.size + 1 + 1 = gx17 at *
  clear hx17
  have yx16 : w.heap.size ≤ vw4.heap.size + 1 := by omega
  have qx5_16 : gx5 < vw4.heap.size + 1 := by omega
  have qx6_16 : gx6 < vw4.heap.size + 1 := by omega
  have qx7_16 : gx7 < vw4.heap.size + 1 := by omega
  have qx8_16 : gx8 < vw4.heap.size + 1 := by omega
  have qx9_16 : gx9 < vw4.heap.size + 1 := by omega
  have qx10_16 : gx10 < vw4.heap.size + 1 := by omega
  have qx11_16 : gx11 < vw4.heap.size + 1 := by omega
  generalize hx16 : vw4.heap.size + 1 = gx16 at *
  clear hx16
  have yx15 : w.heap.size ≤ vw4.heap.size := by omega
  have qx5_15 : gx5 < vw4.heap.size := by omega
  have qx6_15 : gx6 < vw4.heap.size := by omega
  have qx7_15 : gx7 < vw4.heap.size := by omega
  have qx8_15 : gx8 < vw4.heap.size := by omega
  have qx9_15 : gx9 < vw4.heap.size := by omega
  have qx10_15 : gx10 < vw4.heap.size := by omega
  have qx11_15 : gx11 < vw4.heap.size := by omega
  generalize hx15 : vw4.heap.size = gx15 at *
  clear hx15
  clear hsz mx5 mx6 mx7 mx8 mx9 mx10 mx11
  refine wp_seq ?_
  have lx9 := bx9.cells
  have lx10 := bx10.cells
  have lx11 := bx11.cells
  have lx15 := bx15.cells
  have lx16 := bx16.cells
  have lx17 := bx17.cells
  have BX3 := Lib.hid bx3
  have BX4 := Lib.hid bx4
  have BX5 := Lib.hid bx5
  have BX6 := Lib.hid bx6
  have BX7 := Lib.hid bx7
  have BX8 := Lib.hid bx8
  have BX9 := Lib.hid bx9
  have BX10 := Lib.hid bx10
  have BX11 := Lib.hid bx11
  have BX12 := Lib.hid bx12
  have BX13 := Lib.hid bx13
  have BX14 := Lib.hid bx14
  have BX15 := Lib.hid bx15
  have BX16 := Lib.hid bx16
  have BX17 := Lib.hid bx17
  clear bx3 bx4 bx5 bx6 bx7 bx8 bx9 bx10 bx11 bx12 bx13 bx14 bx15 bx16 bx17
  refine sK fun K hK => ?_
  refine wp_region_seqplan 16 [(true, 0), (true, 1), (true, 2), (true, 3), (true, 4), (true, 5), (true, 6), (true, 7), (true, 8), (true, 9), (true, 10), (true, 11), (true, 12), (true, 13), (true, 14), (true, 15)] (by rfl) (by simp) (fun T hT => ?_)
  iterate 2 (refine wpPlan_takeL (v := ?_) rfl (by rfl) (fun w' hw => ?_) ?_; rotate_left; go_simp; with_reducible rfl; simp only [Act.put, rA, rB, rC])
  refine wpPlan_callL rfl (by rfl) Tryz.call12 (fun w' hw => samez_any (u1) (u1) _ _ (rfl) (BX12.out.gr hw) (by first | omega | exact wlc (by decide)) (by first | omega | exact wlc (by decide)) (Lib.hid (HT.out.gr (Gr.trans HB.out hw)))) (by rfl) ?_
  simp only [Act.put, rA, rB, rC]
  iterate 4 (refine wpPlan_takeL (v := ?_) rfl (by rfl) (fun w' hw => ?_) ?_; rotate_left; go_simp; with_reducible rfl; simp only [Act.put, rA, rB, rC])
  refine wpPlan_callL rfl (by rfl) Tryz.call12 (fun w' hw => samez_any (u2) (u2) _ _ (rfl) (BX13.out.gr hw) (by first | omega | exact wlc (by decide)) (by first | omega | exact wlc (by decide)) (Lib.hid (HT.out.gr (Gr.trans HB.out hw)))) (by rfl) ?_
  simp only [Act.put, rA, rB, rC]
  iterate 5 (refine wpPlan_takeL (v := ?_) rfl (by rfl) (fun w' hw => ?_) ?_; rotate_left; go_simp; with_reducible rfl; simp only [Act.put, rA, rB, rC])
  refine wpPlan_callL rfl (by rfl) Tryz.call12 (fun w' hw => samez_any (0) (0) _ _ (rfl) (BX14.out.gr hw) (by first | omega | exact wlc (by decide)) (by first | omega | exact wlc (by decide)) (Lib.hid (HT.out.gr (Gr.trans HB.out hw)))) (by rfl) ?_
  simp only [Act.put, rA, rB, rC]
  iterate 2 (refine wpPlan_takeL (v := ?_) rfl (by rfl) (fun w' hw => ?_) ?_; rotate_left; go_simp; with_reducible rfl; simp only [Act.put, rA, rB, rC])
  refine wpPlan_nil (hT.out _ _ ?_); clear hT T
  intro vw5 hg
  simp only [puts, Act.put, rA, rB, rC, rD, rE, ↓reduceIte, Nat.reduceEqDiff]
  clear lx9 lx10 lx11 lx15 lx16 lx17
  have HG := Lib.hid (hg)
  clear hg
  replace BX3 := rG BX3 HG
  replace BX4 := rG BX4 HG
  replace BX5 := bG BX5 HG
  replace BX6 := bG BX6 HG
  replace BX7 := bG BX7 HG
  replace BX8 := bG BX8 HG
  replace BX9 := bG BX9 HG
  replace BX10 := bG BX10 HG
  replace BX11 := bG BX11 HG
  replace BX12 := rG BX12 HG
  replace BX13 := rG BX13 HG
  replace BX14 := rG BX14 HG
  replace BX15 := bG BX15 HG
  replace BX16 := bG BX16 HG
  replace BX17 := bG BX17 HG
  have r0 := Gr.refl vw5
  go_wp2
  refine hK.out _ _ ?_; clear hK K
  show Code.wp _ _ _ _ _
  clear r0
  refine forgetW (fun w2 => Rn w2 (.slice ao1 nn1 cc1) (Int.natAbs (a)) ∧ Rn w2 (.slice ao2 nn2 cc2) (Int.natAbs (0)) ∧ Bx w2 gx5 33 #[.int .u64 (lo (Int.natAbs (a))), .string (bg (Int.natAbs (a))), .bool (decide ((a) < 0))] ∧ Bx w2 gx6 33 #[.int .u64 (lo (Int.natAbs (0))), .string (bg (Int.natAbs (0))), .bool (decide ((0) < 0))] ∧ Bx w2 gx7 38 #[.bool (decide ((a) < 0)), (.slice ao1 nn1 cc1)] ∧ Bx w2 gx8 38 #[.bool (decide ((0) < 0)), (.slice ao2 nn2 cc2)] ∧ Below w.heap.size w w2) ⟨BX3.out, BX4.out, BX5.out, BX6.out, BX7.out, BX8.out, HB.out.trans (HG.out.mono HB.out.size)⟩ ?_
  clear HB HG BX3 BX4 BX5 BX6 BX7 BX8 BX9 BX10 BX11 BX12 BX13 BX14 BX15 BX16 BX17
  rintro Wx6 ⟨bx3, bx4, bx5, bx6, bx7, bx8, HB⟩
  replace HB := Lib.hid HB
  refine wp_cond_false (by rfl) ?_
  refine wp_skip ?_
  show Code.wp _ _ _ _ _
  have lx5 := bx5.cells
  have lx6 := bx6.cells
  have BX3 := Lib.hid bx3
  have BX4 := Lib.hid bx4
  have BX5 := Lib.hid bx5
  have BX6 := Lib.hid bx6
  have BX7 := Lib.hid bx7
  have BX8 := Lib.hid bx8
  clear bx3 bx4 bx5 bx6 bx7 bx8
  refine sK fun K hK => ?_
  refine wp_region_seqplan 7 [(true, 0), (true, 1), (true, 2), (true, 3), (true, 4), (true, 5), (true, 6)] (by rfl) (by simp) (fun T hT => ?_)
  iterate 2 (refine wpPlan_takeL (v := ?_) rfl (by rfl) (fun w' hw => ?_) ?_; rotate_left; go_simp; with_reducible rfl; simp only [Act.put, rA, rB, rC])
  refine wpPlan_callL rfl (by rfl) Tryz.call13 (fun w' hw => zidivno (a) (0) _ (by first | rfl | omega | (simp; done) | exact eg0 _ | (rw [egcd_zero]; done) | (rw [egcd_zero]; simp; done) | exact elt _ _ (by assumption) | exact zback _ | exact eg_comb _ _ | exact eg_abs _ _ | exact idv0 _ _ | exact idv1 _ _ _ (by assumption) | exact idv2 _ _ _ | (simp only [← HZ2.out, ← HZ1.out] <;> first | rfl | omega | (simp; done) | exact eg0 _ | (rw [egcd_zero]; done) | (rw [egcd_zero]; simp; done) | exact elt _ _ (by assumption) | exact zback _ | exact eg_comb _ _ | exact eg_abs _ _ | exact idv0 _ _ | exact idv1 _ _ _ (by assumption) | exact idv2 _ _ _ | grind)) (by first | omega | exact wlc (by decide)) (by first | omega | exact wlc (by decide))) (by rfl) ?_
  simp only [Act.put, rA, rB, rC]
  iterate 4 (refine wpPlan_takeL (v := ?_) rfl (by rfl) (fun w' hw => ?_) ?_; rotate_left; go_simp; with_reducible rfl; simp only [Act.put, rA, rB, rC])
  refine wpPlan_nil (hT.out _ _ ?_); clear hT T
  intro vw6 hg
  simp only [puts, Act.put, rA, rB, rC, rD, rE, ↓reduceIte, Nat.reduceEqDiff]
  clear lx5 lx6
  have HG := Lib.hid (hg)
  clear hg
  replace BX3 := rG BX3 HG
  replace BX4 := rG BX4 HG
  replace BX5 := bG BX5 HG
  replace BX6 := bG BX6 HG
  replace BX7 := bG BX7 HG
  replace BX8 := bG BX8 HG
  have r0 := Gr.refl vw6
  go_wp2
  refine hK.out _ _ ?_; clear hK K
  show Code.wp _ _ _ _ _
  clear r0
  have hsz : w.heap.size ≤ vw6.heap.size := Nat.le_trans HB.out.size HG.out.size
  have mx5 : gx5 < vw6.heap.size := BX5.out.lt
  have mx6 : gx6 < vw6.heap.size := BX6.out.lt
  have mx7 : gx7 < vw6.heap.size := BX7.out.lt
  have mx8 : gx8 < vw6.heap.size := BX8.out.lt
  refine forgetW (fun w2 => Rn w2 (.slice ao1 nn1 cc1) (Int.natAbs (a)) ∧ Rn w2 (.slice ao2 nn2 cc2) (Int.natAbs (0)) ∧ Bx w2 gx7 38 #[.bool (decide ((a) < 0)), (.slice ao1 nn1 cc1)] ∧ Bx w2 gx8 38 #[.bool (decide ((0) < 0)), (.slice ao2 nn2 cc2)] ∧ Bx w2 (vw6.heap.size) 33 #[.int .u64 (lo (Int.natAbs (0))), .string (bg (Int.natAbs (0))), .bool (decide ((0) < 0))] ∧ Bx w2 (vw6.heap.size + 1) 33 #[.int .u64 (lo (Int.natAbs (0))), .string (bg (Int.natAbs (0))), .bool (decide ((0) < 0))] ∧ Below w.heap.size w w2) ⟨((BX3.out).alloc _).alloc _, ((BX4.out).alloc _).alloc _, ((BX7.out).alloc _).alloc _, ((BX8.out).alloc _).alloc _, ((Bx.at (by simp) : Bx _ (vw6.heap.size) _ _)).alloc _, (Bx.at (by simp) : Bx _ (vw6.heap.size + 1) _ _), ((HB.out.trans (HG.out.mono HB.out.size)).alloc (by first | omega | (simp; omega)) _).alloc (by first | omega | (simp; omega)) _⟩ ?_
  clear HB HG BX3 BX4 BX5 BX6 BX7 BX8
  rintro Wx8 ⟨bx3, bx4, bx7, bx8, bx18, bx19, HB⟩
  replace HB := Lib.hid HB
  have qx18_19 : vw6.heap.size < vw6.heap.size + 1 := by omega
  have yx19 : w.heap.size ≤ vw6.heap.size + 1 := by omega
  have qx5_19 : gx5 < vw6.heap.size + 1 := by omega
  have qx6_19 : gx6 < vw6.heap.size + 1 := by omega
  have qx7_19 : gx7 < vw6.heap.size + 1 := by omega
  have qx8_19 : gx8 < vw6.heap.size + 1 := by omega
  generalize hx19 : vw6.heap.size + 1 = gx19 at *
  clear hx19
  have yx18 : w.heap.size ≤ vw6.heap.size := by omega
  have qx5_18 : gx5 < vw6.heap.size := by omega
  have qx6_18 : gx6 < vw6.heap.size := by omega
  have qx7_18 : gx7 < vw6.heap.size := by omega
  have qx8_18 : gx8 < vw6.heap.size := by omega
  generalize hx18 : vw6.heap.size = gx18 at *
  clear hx18
  clear hsz mx5 mx6 mx7 mx8
  refine wp_seq ?_
  have lx8 := bx8.cells
  have BX3 := Lib.hid bx3
  have BX4 := Lib.hid bx4
  have BX7 := Lib.hid bx7
  have BX8 := Lib.hid bx8
  have BX18 := Lib.hid bx18
  have BX19 := Lib.hid bx19
  clear bx3 bx4 bx7 bx8 bx18 bx19
  refine sK fun K hK => ?_
  refine wp_region_seqplan 3 [(true, 0), (true, 1), (true, 2)] (by rfl) (by simp) (fun T hT => ?_)
  refine wpPlan_takeL (v := ?_) rfl (by rfl) (fun w' hw => ?_) ?_; rotate_left; go_simp; with_reducible rfl; simp only [Act.put, rA, rB, rC]
  refine wpPlan_callL rfl (by rfl) Tryz.call14 (fun w' hw => zrsign (0) (0) _ _ (by have e9 : (0) = (0 : Int) := (by first | rfl | omega | (simp; done) | exact eg0 _ | (rw [egcd_zero]; done) | (rw [egcd_zero]; simp; done) | exact elt _ _ (by assumption) | exact zback _ | exact eg_comb _ _ | exact eg_abs _ _ | exact idv0 _ _ | exact idv1 _ _ _ (by assumption) | exact idv2 _ _ _ | (simp only [← HZ2.out, ← HZ1.out] <;> first | rfl | omega | (simp; done) | exact eg0 _ | (rw [egcd_zero]; done) | (rw [egcd_zero]; simp; done) | exact elt _ _ (by assumption) | exact zback _ | exact eg_comb _ _ | exact eg_abs _ _ | exact idv0 _ _ | exact idv1 _ _ _ (by assumption) | exact idv2 _ _ _ | grind)); exact sgI_eq e9) (BX4.out.gr hw)) (by rfl) ?_
  simp only [Act.put, rA, rB, rC]
  refine wpPlan_takeL (v := ?_) rfl (by rfl) (fun w' hw => ?_) ?_; rotate_left; go_simp; with_reducible rfl; simp only [Act.put, rA, rB, rC]
  refine wpPlan_nil (hT.out _ _ ?_); clear hT T
  intro vw7 hg
  simp only [puts, Act.put, rA, rB, rC, rD, rE, ↓reduceIte, Nat.reduceEqDiff]
  clear lx8
  have HG := Lib.hid (hg)
  clear hg
  replace BX3 := rG BX3 HG
  replace BX4 := rG BX4 HG
  replace BX7 := bG BX7 HG
  replace BX8 := bG BX8 HG
  replace BX18 := bG BX18 HG
  replace BX19 := bG BX19 HG
  have r0 := Gr.refl vw7
  go_wp2
  refine hK.out _ _ ?_; clear hK K
  show Code.wp _ _ _ _ _
  clear r0
  refine forgetW (fun w2 => Rn w2 (.slice ao1 nn1 cc1) (Int.natAbs (a)) ∧ Rn w2 (.slice ao2 nn2 cc2) (Int.natAbs (0)) ∧ Bx w2 gx7 38 #[.bool (decide ((a) < 0)), (.slice ao1 nn1 cc1)] ∧ Bx w2 gx8 38 #[.bool (decide ((0) < 0)), (.slice ao2 nn2 cc2)] ∧ Bx w2 gx18 33 #[.int .u64 (lo (Int.natAbs (0))), .string (bg (Int.natAbs (0))), .bool (decide ((0) < 0))] ∧ Bx w2 gx19 33 #[.int .u64 (lo (Int.natAbs (0))), .string (bg (Int.natAbs (0))), .bool (decide ((0) < 0))] ∧ Below w.heap.size w w2) ⟨BX3.out, BX4.out, BX7.out, BX8.out, BX18.out, BX19.out, HB.out.trans (HG.out.mono HB.out.size)⟩ ?_
  clear HB HG BX3 BX4 BX7 BX8 BX18 BX19
  rintro Wx9 ⟨bx3, bx4, bx7, bx8, bx18, bx19, HB⟩
  replace HB := Lib.hid HB
  refine wp_cond_true (by rfl) ?_
  have lx18 := bx18.cells
  have lx19 := bx19.cells
  have BX3 := Lib.hid bx3
  have BX4 := Lib.hid bx4
  have BX7 := Lib.hid bx7
  have BX8 := Lib.hid bx8
  have BX18 := Lib.hid bx18
  have BX19 := Lib.hid bx19
  clear bx3 bx4 bx7 bx8 bx18 bx19
  refine sK fun K hK => ?_
  refine wp_region_seqplan 14 [(true, 0), (true, 1), (true, 2), (true, 3), (true, 4), (true, 5), (true, 6), (true, 7), (true, 8), (true, 9), (true, 10), (true, 11), (true, 12), (true, 13)] (by rfl) (by simp) (fun T hT => ?_)
  iterate 4 (refine wpPlan_takeL (v := ?_) rfl (by rfl) (fun w' hw => ?_) ?_; rotate_left; go_simp; with_reducible rfl; simp only [Act.put, rA, rB, rC])
  refine wpPlan_callL rfl (by rfl) Tryz.call15 (fun w' hw => is_any (0) (0) true _ (Lib.hid (decide_eq_true (by decide))) (by decide) (by decide)) (by rfl) ?_
  simp only [Act.put, rA, rB, rC]
  iterate 3 (refine wpPlan_takeL (v := ?_) rfl (by rfl) (fun w' hw => ?_) ?_; rotate_left; go_simp; with_reducible rfl; simp only [Act.put, rA, rB, rC])
  refine wpPlan_callL rfl (by rfl) Tryz.call15 (fun w' hw => is_any (0) (0) true _ (Lib.hid (decide_eq_true (by decide))) (by decide) (by decide)) (by rfl) ?_
  simp only [Act.put, rA, rB, rC]
  iterate 2 (refine wpPlan_takeL (v := ?_) rfl (by rfl) (fun w' hw => ?_) ?_; rotate_left; go_simp; with_reducible rfl; simp only [Act.put, rA, rB, rC])
  refine wpPlan_callL rfl (by rfl) Tryz.call7 (fun w' hw => worksz_any _ (Lib.hid (HT.out.gr (Gr.trans HB.out hw)))) (by rfl) ?_
  simp only [Act.put, rA, rB, rC]
  iterate 2 (refine wpPlan_takeL (v := ?_) rfl (by rfl) (fun w' hw => ?_) ?_; rotate_left; go_simp; with_reducible rfl; simp only [Act.put, rA, rB, rC])
  refine wpPlan_nil (hT.out _ _ ?_); clear hT T
  intro vw8 hg
  simp only [puts, Act.put, rA, rB, rC, rD, rE, ↓reduceIte, Nat.reduceEqDiff]
  clear lx18 lx19
  have HG := Lib.hid (hg)
  clear hg
  replace BX3 := rG BX3 HG
  replace BX4 := rG BX4 HG
  replace BX7 := bG BX7 HG
  replace BX8 := bG BX8 HG
  replace BX18 := bG BX18 HG
  replace BX19 := bG BX19 HG
  have r0 := Gr.refl vw8
  go_wp2
  refine hK.out _ _ ?_; clear hK K
  show Code.wp _ _ _ _ _
  clear r0
  refine forgetW (fun w2 => Rn w2 (.slice ao1 nn1 cc1) (Int.natAbs (a)) ∧ Rn w2 (.slice ao2 nn2 cc2) (Int.natAbs (0)) ∧ Bx w2 gx7 38 #[.bool (decide ((a) < 0)), (.slice ao1 nn1 cc1)] ∧ Bx w2 gx8 38 #[.bool (decide ((0) < 0)), (.slice ao2 nn2 cc2)] ∧ Bx w2 gx18 33 #[.int .u64 (lo (Int.natAbs (0))), .string (bg (Int.natAbs (0))), .bool (decide ((0) < 0))] ∧ Bx w2 gx19 33 #[.int .u64 (lo (Int.natAbs (0))), .string (bg (Int.natAbs (0))), .bool (decide ((0) < 0))] ∧ Below w.heap.size w w2) ⟨BX3.out, BX4.out, BX7.out, BX8.out, BX18.out, BX19.out, HB.out.trans (HG.out.mono HB.out.size)⟩ ?_
  clear HB HG BX3 BX4 BX7 BX8 BX18 BX19
  rintro Wx10 ⟨bx3, bx4, bx7, bx8, bx18, bx19, HB⟩
  replace HB := Lib.hid HB
  refine wp_ret ?_
  try simp only [Exit.then, Exit.inBlock]
  have r0 := Gr.refl Wx10
  exact bodyPost_ret (v := .bool true) (by simp [results, Tryz.results3, go_sem]) rfl ⟨rfl, HB.out⟩

set_option maxRecDepth 100000 in
set_option maxHeartbeats 4000000 in
theorem divz_pos (bbx : Bool) (vx : Value) (kx : Nat) (fx : Nat → Nat) (mx : Nat) (bby : Bool) (vy : Value) (ky : Nat) (fy : Nat → Nat) (my : Nat) (a b : Int) (tb : Int) (w : World) (HWx : Hid (Wa w vx kx fx)) (HFx : Hid (∀ i, i < kx → fx i < 4294967296)) (HVx : Hid (vl fx kx = mx)) (HAx : Hid ((if bbx then -((mx : Nat) : Int) else ((mx : Nat) : Int)) = a)) (HWy : Hid (Wa w vy ky fy)) (HFy : Hid (∀ i, i < ky → fy i < 4294967296)) (HVy : Hid (vl fy ky = my)) (HAy : Hid ((if bby then -((my : Nat) : Int) else ((my : Nat) : Int)) = b)) (hkx : kx ≤ 10) (hky : ky ≤ 10) (hb0 : b ≠ 0) (HTB : Hid (sgI b = tb)) (htb : ¬ tb = 0) (HT : Hid (Tab w)) :
    Calls Tryz.prog 3 #[.agg #[.bool bbx, vx], .agg #[.bool bby, vy]] w fun e w' => e = .returned (.bool true) ∧ Below w.heap.size w w' := by
  obtain ⟨ao_x, c_x, rfl⟩ := HWx.out.slice
  obtain ⟨ao_y, c_y, rfl⟩ := HWy.out.slice
  have hm_x : wl mx ≤ 10 := by rw [← HVx.out]; have := wl_le.2 (vl_lt HFx.out); omega
  have hb_x : wl (Int.natAbs (a)) ≤ 10 := by rw [zsize HAx.out]; exact hm_x
  have ht_x : tw (Int.natAbs (a)) ≤ 30 := by have := tw_wl (Int.natAbs (a)); omega
  have hm_y : wl my ≤ 10 := by rw [← HVy.out]; have := wl_le.2 (vl_lt HFy.out); omega
  have hb_y : wl (Int.natAbs (b)) ≤ 10 := by rw [zsize HAy.out]; exact hm_y
  have ht_y : tw (Int.natAbs (b)) ≤ 30 := by have := tw_wl (Int.natAbs (b)); omega
  go_enter Tryz.func3, Tryz.ntmps3
  refine sK fun K hK => ?_
  refine wp_region_lit ?_
  go_wp2
  refine hK.out _ _ ?_; clear hK K
  show Code.wp _ _ _ _ _
  refine forgetW (fun w2 => Bx w2 (w.heap.size) 24 #[.bool (bbx), (.slice ao_x kx c_x)] ∧ Bx w2 (w.heap.size + 1) 24 #[.bool (bby), (.slice ao_y ky c_y)] ∧ Below w.heap.size w w2) ⟨(Bx.at rfl).alloc _, Bx.at (by simp), ((Below.refl _ _).alloc (Nat.le_refl _) _).alloc (by simp) _⟩ ?_
  rintro Wx ⟨bx0, bx1, HB⟩
  replace HB := Lib.hid HB
  refine wp_seq ?_
  have lx0 := bx0.cells
  have lx1 := bx1.cells
  have BX0 := Lib.hid bx0
  have BX1 := Lib.hid bx1
  clear bx0 bx1
  refine sK fun K hK => ?_
  have HS0 := Lib.hid (HB.out.size)
  have MX0 : w.heap.size < Wx.heap.size := BX0.out.lt
  have MX1 : w.heap.size + 1 < Wx.heap.size := BX1.out.lt
  refine wp_region_seqplan 5 [(true, 0), (true, 1), (false, 2), (true, 3), (true, 4)] (by rfl) (by simp) (fun T hT => ?_)
  iterate 2 (refine wpPlan_takeL (v := ?_) rfl (by rfl) (fun w' hw => ?_) ?_; rotate_left; go_simp; with_reducible rfl; simp only [Act.put, rA, rB, rC])
  refine wpPlan_slice (cs := #[.bool (bbx), (.slice ao_x kx c_x), .bool (bby), (.slice ao_y ky c_y)]) (E := 24) (n := 2) rfl (by rfl) (fun w' hw => ?_) (fun gx2 vv1 hg0 yx2 bx2 => ?_)
  · go_simp
  have HG0 := Lib.hid hg0; clear hg0
  replace yx2 : w.heap.size ≤ gx2 := by first | exact Nat.le_trans HS0.out yx2 | exact Nat.le_trans HB.out.size yx2
  have BX2 := Lib.hid bx2; clear bx2
  replace BX0 := bG BX0 HG0
  replace BX1 := bG BX1 HG0
  replace HB := Lib.hid (HB.out.trans (HG0.out.mono HB.out.size))
  clear HG0
  clear lx0; have lx0 := BX0.out.cells
  clear lx1; have lx1 := BX1.out.cells
  simp only [Act.put, rA, rB, rC]
  refine wpPlan_callL rfl (by rfl) Tryz.call6 (fun w' hw => few2_ok _ _ _ _ _ _ _ _ 10 gx2 _ (BX2.out.gr hw) (by omega) (by omega)) (by rfl) ?_
  simp only [Act.put, rA, rB, rC]
  refine wpPlan_takeL (v := ?_) rfl (by rfl) (fun w' hw => ?_) ?_; rotate_left; go_simp; with_reducible rfl; simp only [Act.put, rA, rB, rC]
  refine wpPlan_nil (hT.out _ _ ?_); clear hT T
  intro vw1 hg
  simp only [puts, Act.put, rA, rB, rC, rD, rE, ↓reduceIte, Nat.reduceEqDiff]
  clear lx0 lx1
  clear BX2
  have HG := Lib.hid (hg)
  clear hg
  replace BX0 := bG BX0 HG
  replace BX1 := bG BX1 HG
  have r0 := Gr.refl vw1
  go_wp2
  refine hK.out _ _ ?_; clear hK K
  show Code.wp _ _ _ _ _
  clear r0
  refine forgetW (fun w2 => Bx w2 (w.heap.size) 24 #[.bool (bbx), (.slice ao_x kx c_x)] ∧ Bx w2 (w.heap.size + 1) 24 #[.bool (bby), (.slice ao_y ky c_y)] ∧ Below w.heap.size w w2) ⟨BX0.out, BX1.out, HB.out.trans (HG.out.mono HB.out.size)⟩ ?_
  clear HB HG BX0 BX1
  rintro Wx1 ⟨bx0, bx1, HB⟩
  replace HB := Lib.hid HB
  refine wp_cond_false (by rfl) ?_
  refine wp_skip ?_
  show Code.wp _ _ _ _ _
  have lx0 := bx0.cells
  have lx1 := bx1.cells
  have BX0 := Lib.hid bx0
  have BX1 := Lib.hid bx1
  clear bx0 bx1
  refine sK fun K hK => ?_
  have HS0 := Lib.hid (HB.out.size)
  have MX0 : w.heap.size < Wx1.heap.size := BX0.out.lt
  have MX1 : w.heap.size + 1 < Wx1.heap.size := BX1.out.lt
  refine wp_region_plan 12 [8, 9, 10, 11] [] (fun i => if i = 8 then 5 else if i = 9 then 6 else if i = 10 then 7 else 8) (fun i => if i = 8 then .cells #[.int .u64 0, .string ⟨#[]⟩, .bool false] 33 else if i = 9 then .cells #[.int .u64 0, .string ⟨#[]⟩, .bool false] 33 else if i = 10 then .cells #[.bool false, .slice none 0 0] 38 else .cells #[.bool false, .slice none 0 0] 38) [(true, 0), (true, 2), (true, 4), (true, 6), (true, 1), (true, 3), (false, 5), (false, 7)] (by kernel_rfl) (by kernel_rfl) (by intro i hi; simp only [List.mem_cons, List.not_mem_nil, or_false] at hi; rcases hi with rfl | rfl | rfl | rfl <;> exact ⟨_, rfl, rfl, rfl, by simp, fun ρ w => by kernel_rfl⟩) (fun i hi => by cases hi) (fun _ _ _ _ _ h => h) (fun T hT => ?_)
  iterate 4 (refine wpPlan_takeL (v := ?_) rfl (by rfl) (fun w' hw => ?_) ?_; rotate_left; go_simp; with_reducible rfl; simp only [Act.put, rA, rB, rC])
  refine wpPlan_callL rfl (by rfl) Tryz.call8 (fun w' hw => zlof bbx kx fx mx a ao_x c_x w' (Lib.hid (HWx.out.gr (Gr.trans HB.out hw))) HFx HVx HAx (by first | omega | exact wlc (by decide)) (by first | omega | exact wlc (by decide))) (by rfl) ?_
  simp only [Act.put, rA, rB, rC]
  refine wpPlan_callL rfl (by rfl) Tryz.call8 (fun w' hw => zlof bby ky fy my b ao_y c_y w' (Lib.hid (HWy.out.gr (Gr.trans HB.out hw))) HFy HVy HAy (by first | omega | exact wlc (by decide)) (by first | omega | exact wlc (by decide))) (by rfl) ?_
  simp only [Act.put, rA, rB, rC]
  refine wpPlan_callE rfl (by rfl) Tryz.call9 (by rfl) (fun w' hw => ((zlref bbx kx fx mx a ao_x c_x w' (Lib.hid (HWx.out.gr (Gr.trans HB.out hw))) HFx HVx HAx (by first | omega | exact wlc (by decide)) (by first | omega | exact wlc (by decide)))).mono ?_)
  rintro e vv1 ⟨⟨rv1, rfl, bx3⟩, hg0⟩
  obtain ⟨ao1, nn1, cc1, rfl⟩ := Rn.sl bx3
  refine ⟨_, rfl, hg0, ?_⟩
  replace hg0 := Gr.trans hw hg0; clear hw
  have HG0 := Lib.hid hg0; clear hg0
  replace BX0 := bG BX0 HG0
  replace BX1 := bG BX1 HG0
  replace HB := Lib.hid (HB.out.trans (HG0.out.mono HB.out.size))
  have BX3 := Lib.hid bx3; clear bx3
  clear HG0
  clear lx0; have lx0 := BX0.out.cells
  clear lx1; have lx1 := BX1.out.cells
  simp only [Act.put, rA, rB, rC]
  refine wpPlan_callE rfl (by rfl) Tryz.call9 (by rfl) (fun w' hw => ((zlref bby ky fy my b ao_y c_y w' (Lib.hid (HWy.out.gr (Gr.trans HB.out hw))) HFy HVy HAy (by first | omega | exact wlc (by decide)) (by first | omega | exact wlc (by decide)))).mono ?_)
  rintro e vv2 ⟨⟨rv2, rfl, bx4⟩, hg0⟩
  obtain ⟨ao2, nn2, cc2, rfl⟩ := Rn.sl bx4
  refine ⟨_, rfl, hg0, ?_⟩
  replace hg0 := Gr.trans hw hg0; clear hw
  have HG0 := Lib.hid hg0; clear hg0
  replace BX0 := bG BX0 HG0
  replace BX1 := bG BX1 HG0
  replace BX3 := rG BX3 HG0
  replace HB := Lib.hid (HB.out.trans (HG0.out.mono HB.out.size))
  have BX4 := Lib.hid bx4; clear bx4
  clear HG0
  clear lx0; have lx0 := BX0.out.cells
  clear lx1; have lx1 := BX1.out.cells
  simp only [Act.put, rA, rB, rC]
  refine wpPlan_nil (hT.out _ _ ?_); clear hT T
  intro G vw2 hg hf
  simp only [puts, Act.put, rA, rB, rC, rD, rE, ↓reduceIte, Nat.reduceEqDiff]
  clear lx0 lx1
  have HG := Lib.hid (hg)
  clear hg
  have bx5 := Bx.of_fresh hf (i := 8) (by decide) rfl
  have yx5 := (hf.1 8 (by decide)).1
  have bx6 := Bx.of_fresh hf (i := 9) (by decide) rfl
  have yx6 := (hf.1 9 (by decide)).1
  have dx5_6 : G 8 ≠ G 9 := fun e => absurd (hf.2 8 (by decide) 9 (by decide) e) (by decide)
  have bx7 := Bx.of_fresh hf (i := 10) (by decide) rfl
  have yx7 := (hf.1 10 (by decide)).1
  have dx5_7 : G 8 ≠ G 10 := fun e => absurd (hf.2 8 (by decide) 10 (by decide) e) (by decide)
  have dx6_7 : G 9 ≠ G 10 := fun e => absurd (hf.2 9 (by decide) 10 (by decide) e) (by decide)
  have bx8 := Bx.of_fresh hf (i := 11) (by decide) rfl
  have yx8 := (hf.1 11 (by decide)).1
  have dx5_8 : G 8 ≠ G 11 := fun e => absurd (hf.2 8 (by decide) 11 (by decide) e) (by decide)
  have dx6_8 : G 9 ≠ G 11 := fun e => absurd (hf.2 9 (by decide) 11 (by decide) e) (by decide)
  have dx7_8 : G 10 ≠ G 11 := fun e => absurd (hf.2 10 (by decide) 11 (by decide) e) (by decide)
  clear hf
  generalize G 8 = gx5 at *
  generalize G 9 = gx6 at *
  generalize G 10 = gx7 at *
  generalize G 11 = gx8 at *
  have qx0_5 : w.heap.size < gx5 := Nat.lt_of_lt_of_le MX0 yx5
  have qx0_6 : w.heap.size < gx6 := Nat.lt_of_lt_of_le MX0 yx6
  have qx0_7 : w.heap.size < gx7 := Nat.lt_of_lt_of_le MX0 yx7
  have qx0_8 : w.heap.size < gx8 := Nat.lt_of_lt_of_le MX0 yx8
  have qx1_5 : w.heap.size + 1 < gx5 := Nat.lt_of_lt_of_le MX1 yx5
  have qx1_6 : w.heap.size + 1 < gx6 := Nat.lt_of_lt_of_le MX1 yx6
  have qx1_7 : w.heap.size + 1 < gx7 := Nat.lt_of_lt_of_le MX1 yx7
  have qx1_8 : w.heap.size + 1 < gx8 := Nat.lt_of_lt_of_le MX1 yx8
  replace yx5 : w.heap.size ≤ gx5 := Nat.le_trans HS0.out yx5
  replace yx6 : w.heap.size ≤ gx6 := Nat.le_trans HS0.out yx6
  replace yx7 : w.heap.size ≤ gx7 := Nat.le_trans HS0.out yx7
  replace yx8 : w.heap.size ≤ gx8 := Nat.le_trans HS0.out yx8
  replace BX0 := bG BX0 HG
  replace BX1 := bG BX1 HG
  replace BX3 := rG BX3 HG
  replace BX4 := rG BX4 HG
  have lx5 := bx5.cells; have fx5 := bx5.free
  have lx6 := bx6.cells; have fx6 := bx6.free
  have lx7 := bx7.cells; have fx7 := bx7.free
  have lx8 := bx8.cells; have fx8 := bx8.free
  have r0 := Gr.refl vw2
  have BX5 := Lib.hid bx5; clear bx5
  have BX6 := Lib.hid bx6; clear bx6
  have BX7 := Lib.hid bx7; clear bx7
  have BX8 := Lib.hid bx8; clear bx8
  go_wp2
  refine hK.out _ _ ?_; clear hK K
  show Code.wp _ _ _ _ _
  clear lx5 fx5
  clear lx6 fx6
  clear lx7 fx7
  clear lx8 fx8
  clear r0
  refine forgetW (fun w2 => Rn w2 (.slice ao1 nn1 cc1) (Int.natAbs (a)) ∧ Rn w2 (.slice ao2 nn2 cc2) (Int.natAbs (b)) ∧ Bx w2 gx5 33 #[.int .u64 (lo (Int.natAbs (a))), .string (bg (Int.natAbs (a))), .bool (decide ((a) < 0))] ∧ Bx w2 gx6 33 #[.int .u64 (lo (Int.natAbs (b))), .string (bg (Int.natAbs (b))), .bool (decide ((b) < 0))] ∧ Bx w2 gx7 38 #[.bool (decide ((a) < 0)), (.slice ao1 nn1 cc1)] ∧ Bx w2 gx8 38 #[.bool (decide ((b) < 0)), (.slice ao2 nn2 cc2)] ∧ Below w.heap.size w w2) ⟨ro2 (ro2 (ro3 (ro3 (BX3.out) (Rn.ne BX3.out BX5.out (by decide))) (Rn.ne BX3.out BX6.out (by decide))) (Rn.ne BX3.out BX7.out (by decide))) (Rn.ne BX3.out BX8.out (by decide)), ro2 (ro2 (ro3 (ro3 (BX4.out) (Rn.ne BX4.out BX5.out (by decide))) (Rn.ne BX4.out BX6.out (by decide))) (Rn.ne BX4.out BX7.out (by decide))) (Rn.ne BX4.out BX8.out (by decide)), (so2 (so2 (so3 ((((BX5.out).set 0 _).set 1 _).set 2 _) (by show gx5 ≠ gx6; omega)) (by show gx5 ≠ gx7; omega)) (by show gx5 ≠ gx8; omega)).eq (by simp only [rA, rB, rC]), (so2 (so2 ((((so3 (BX6.out) (by show gx6 ≠ gx5; omega)).set 0 _).set 1 _).set 2 _) (by show gx6 ≠ gx7; omega)) (by show gx6 ≠ gx8; omega)).eq (by simp only [rA, rB, rC]), (so2 (((so3 (so3 (BX7.out) (by show gx7 ≠ gx5; omega)) (by show gx7 ≠ gx6; omega)).set 0 _).set 1 _) (by show gx7 ≠ gx8; omega)).eq (by simp only [rA, rB, rC]), (((so2 (so3 (so3 (BX8.out) (by show gx8 ≠ gx5; omega)) (by show gx8 ≠ gx6; omega)) (by show gx8 ≠ gx7; omega)).set 0 _).set 1 _).eq (by simp only [rA, rB, rC]), sc2 (sc2 (sc3 (sc3 (HB.out.trans (HG.out.mono HB.out.size)) (by show w.heap.size ≤ gx5; omega)) (by show w.heap.size ≤ gx6; omega)) (by show w.heap.size ≤ gx7; omega)) (by show w.heap.size ≤ gx8; omega)⟩ ?_
  clear HB HG BX0 BX1 BX3 BX4 BX5 BX6 BX7 BX8
  rintro Wx3 ⟨bx3, bx4, bx5, bx6, bx7, bx8, HB⟩
  replace HB := Lib.hid HB
  obtain ⟨u1, HZ1⟩ : ∃ z, Hid ((egcd (a) (b)).1 = z) := ⟨_, Lib.hid rfl⟩
  have su1 : wl (Int.natAbs (u1)) ≤ 14 := by rw [← HZ1.out]; have := wl_egcd (a := a) (b := b) (M := 10) (by first | omega | exact wlc (by decide)) (by first | omega | exact wlc (by decide)) (by decide); omega
  obtain ⟨u2, HZ2⟩ : ∃ z, Hid ((egcd (a) (b)).2.1 = z) := ⟨_, Lib.hid rfl⟩
  have su2 : wl (Int.natAbs (u2)) ≤ 14 := by rw [← HZ2.out]; have := wl_egcd (a := a) (b := b) (M := 10) (by first | omega | exact wlc (by decide)) (by first | omega | exact wlc (by decide)) (by decide); omega
  obtain ⟨u3, HZ3⟩ : ∃ z, Hid ((egcd (a) (b)).2.2 = z) := ⟨_, Lib.hid rfl⟩
  have su3 : wl (Int.natAbs (u3)) ≤ 14 := by rw [← HZ3.out]; have := wl_egcd (a := a) (b := b) (M := 10) (by first | omega | exact wlc (by decide)) (by first | omega | exact wlc (by decide)) (by decide); omega
  have lx5 := bx5.cells
  have lx6 := bx6.cells
  have BX3 := Lib.hid bx3
  have BX4 := Lib.hid bx4
  have BX5 := Lib.hid bx5
  have BX6 := Lib.hid bx6
  have BX7 := Lib.hid bx7
  have BX8 := Lib.hid bx8
  clear bx3 bx4 bx5 bx6 bx7 bx8
  refine sK fun K hK => ?_
  refine wp_region_seqplan 7 [(true, 0), (true, 1), (true, 2), (true, 3), (true, 4), (true, 5), (true, 6)] (by rfl) (by simp) (fun T hT => ?_)
  iterate 2 (refine wpPlan_takeL (v := ?_) rfl (by rfl) (fun w' hw => ?_) ?_; rotate_left; go_simp; with_reducible rfl; simp only [Act.put, rA, rB, rC])
  refine wpPlan_callL rfl (by rfl) Tryz.call10 (fun w' hw => zigcd (a) (b) (u1) (u2) (u3) _ HZ1.out HZ2.out HZ3.out (by first | omega | exact wlc (by decide)) (by first | omega | exact wlc (by decide))) (by rfl) ?_
  simp only [Act.put, rA, rB, rC]
  iterate 4 (refine wpPlan_takeL (v := ?_) rfl (by rfl) (fun w' hw => ?_) ?_; rotate_left; go_simp; with_reducible rfl; simp only [Act.put, rA, rB, rC])
  refine wpPlan_nil (hT.out _ _ ?_); clear hT T
  intro vw3 hg
  simp only [puts, Act.put, rA, rB, rC, rD, rE, ↓reduceIte, Nat.reduceEqDiff]
  clear lx5 lx6
  have HG := Lib.hid (hg)
  clear hg
  replace BX3 := rG BX3 HG
  replace BX4 := rG BX4 HG
  replace BX5 := bG BX5 HG
  replace BX6 := bG BX6 HG
  replace BX7 := bG BX7 HG
  replace BX8 := bG BX8 HG
  have r0 := Gr.refl vw3
  go_wp2
  refine hK.out _ _ ?_; clear hK K
  show Code.wp _ _ _ _ _
  clear r0
  have hsz : w.heap.size ≤ vw3.heap.size := Nat.le_trans HB.out.size HG.out.size
  have mx5 : gx5 < vw3.heap.size := BX5.out.lt
  have mx6 : gx6 < vw3.heap.size := BX6.out.lt
  have mx7 : gx7 < vw3.heap.size := BX7.out.lt
  have mx8 : gx8 < vw3.heap.size := BX8.out.lt
  refine forgetW (fun w2 => Rn w2 (.slice ao1 nn1 cc1) (Int.natAbs (a)) ∧ Rn w2 (.slice ao2 nn2 cc2) (Int.natAbs (b)) ∧ Bx w2 gx5 33 #[.int .u64 (lo (Int.natAbs (a))), .string (bg (Int.natAbs (a))), .bool (decide ((a) < 0))] ∧ Bx w2 gx6 33 #[.int .u64 (lo (Int.natAbs (b))), .string (bg (Int.natAbs (b))), .bool (decide ((b) < 0))] ∧ Bx w2 gx7 38 #[.bool (decide ((a) < 0)), (.slice ao1 nn1 cc1)] ∧ Bx w2 gx8 38 #[.bool (decide ((b) < 0)), (.slice ao2 nn2 cc2)] ∧ Bx w2 (vw3.heap.size) 33 #[.int .u64 (lo (Int.natAbs (u1))), .string (bg (Int.natAbs (u1))), .bool (decide ((u1) < 0))] ∧ Bx w2 (vw3.heap.size + 1) 33 #[.int .u64 (lo (Int.natAbs (u2))), .string (bg (Int.natAbs (u2))), .bool (decide ((u2) < 0))] ∧ Bx w2 (vw3.heap.size + 1 + 1) 33 #[.int .u64 (lo (Int.natAbs (u3))), .string (bg (Int.natAbs (u3))), .bool (decide ((u3) < 0))] ∧ Below w.heap.size w w2) ⟨(((BX3.out).alloc _).alloc _).alloc _, (((BX4.out).alloc _).alloc _).alloc _, (((BX5.out).alloc _).alloc _).alloc _, (((BX6.out).alloc _).alloc _).alloc _, (((BX7.out).alloc _).alloc _).alloc _, (((BX8.out).alloc _).alloc _).alloc _, (((Bx.at (by simp) : Bx _ (vw3.heap.size) _ _)).alloc _).alloc _, ((Bx.at (by simp) : Bx _ (vw3.heap.size + 1) _ _)).alloc _, (Bx.at (by simp) : Bx _ (vw3.heap.size + 1 + 1) _ _), (((HB.out.trans (HG.out.mono HB.out.size)).alloc (by first | omega | (simp; omega)) _).alloc (by first | omega | (simp; omega)) _).alloc (by first | omega | (simp; omega)) _⟩ ?_
  clear HB HG BX3 BX4 BX5 BX6 BX7 BX8
  rintro Wx4 ⟨bx3, bx4, bx5, bx6, bx7, bx8, bx9, bx10, bx11, HB⟩
  replace HB := Lib.hid HB
  have qx9_10 : vw3.heap.size < vw3.heap.size + 1 := by omega
  have qx9_11 : vw3.heap.size < vw3.heap.size + 1 + 1 := by omega
  have qx10_11 : vw3.heap.size + 1 < vw3.heap.size + 1 + 1 := by omega
  have yx11 : w.heap.size ≤ vw3.heap.size + 1 + 1 := by omega
  have qx5_11 : gx5 < vw3.heap.size + 1 + 1 := by omega
  have qx6_11 : gx6 < vw3.heap.size + 1 + 1 := by omega
  have qx7_11 : gx7 < vw3.heap.size + 1 + 1 := by omega
  have qx8_11 : gx8 < vw3.heap.size + 1 + 1 := by omega
  generalize hx11 : vw3.heap.size + 1 + 1 = gx11 at *
  clear hx11
  have yx10 : w.heap.size ≤ vw3.heap.size + 1 := by omega
  have qx5_10 : gx5 < vw3.heap.size + 1 := by omega
  have qx6_10 : gx6 < vw3.heap.size + 1 := by omega
  have qx7_10 : gx7 < vw3.heap.size + 1 := by omega
  have qx8_10 : gx8 < vw3.heap.size + 1 := by omega
  generalize hx10 : vw3.heap.size + 1 = gx10 at *
  clear hx10
  have yx9 : w.heap.size ≤ vw3.heap.size := by omega
  have qx5_9 : gx5 < vw3.heap.size := by omega
  have qx6_9 : gx6 < vw3.heap.size := by omega
  have qx7_9 : gx7 < vw3.heap.size := by omega
  have qx8_9 : gx8 < vw3.heap.size := by omega
  generalize hx9 : vw3.heap.size = gx9 at *
  clear hx9
  clear hsz mx5 mx6 mx7 mx8
  have HZ4 : Hid ((egcd (a) (b)).1 = u1) := Lib.hid (by first | rfl | omega | (simp; done) | exact eg0 _ | (rw [egcd_zero]; done) | (rw [egcd_zero]; simp; done) | exact elt _ _ (by assumption) | exact zback _ | exact eg_comb _ _ | exact eg_abs _ _ | exact idv0 _ _ | exact idv1 _ _ _ (by assumption) | exact idv2 _ _ _ | (simp only [← HZ3.out, ← HZ2.out, ← HZ1.out] <;> first | rfl | omega | (simp; done) | exact eg0 _ | (rw [egcd_zero]; done) | (rw [egcd_zero]; simp; done) | exact elt _ _ (by assumption) | exact zback _ | exact eg_comb _ _ | exact eg_abs _ _ | exact idv0 _ _ | exact idv1 _ _ _ (by assumption) | exact idv2 _ _ _ | grind))
  have su4 : tw (Int.natAbs (u1)) ≤ 34 := by have e := HZ4.out; first | omega | (rw [← e]; have := tw_egcd' (a := a) (b := b) (M := 30) (by first | omega | exact wlc (by decide)) (by first | omega | exact wlc (by decide)); omega)
  have HZ5 : Hid ((egcd (a) (b)).2.1 = u2) := Lib.hid (by first | rfl | omega | (simp; done) | exact eg0 _ | (rw [egcd_zero]; done) | (rw [egcd_zero]; simp; done) | exact elt _ _ (by assumption) | exact zback _ | exact eg_comb _ _ | exact eg_abs _ _ | exact idv0 _ _ | exact idv1 _ _ _ (by assumption) | exact idv2 _ _ _ | (simp only [← HZ3.out, ← HZ2.out, ← HZ1.out] <;> first | rfl | omega | (simp; done) | exact eg0 _ | (rw [egcd_zero]; done) | (rw [egcd_zero]; simp; done) | exact elt _ _ (by assumption) | exact zback _ | exact eg_comb _ _ | exact eg_abs _ _ | exact idv0 _ _ | exact idv1 _ _ _ (by assumption) | exact idv2 _ _ _ | grind))
  have su5 : tw (Int.natAbs (u2)) ≤ 34 := by have e := HZ5.out; first | omega | (rw [← e]; have := tw_egcd' (a := a) (b := b) (M := 30) (by first | omega | exact wlc (by decide)) (by first | omega | exact wlc (by decide)); omega)
  have HZ6 : Hid ((egcd (a) (b)).2.2 = u3) := Lib.hid (by first | rfl | omega | (simp; done) | exact eg0 _ | (rw [egcd_zero]; done) | (rw [egcd_zero]; simp; done) | exact elt _ _ (by assumption) | exact zback _ | exact eg_comb _ _ | exact eg_abs _ _ | exact idv0 _ _ | exact idv1 _ _ _ (by assumption) | exact idv2 _ _ _ | (simp only [← HZ3.out, ← HZ2.out, ← HZ1.out] <;> first | rfl | omega | (simp; done) | exact eg0 _ | (rw [egcd_zero]; done) | (rw [egcd_zero]; simp; done) | exact elt _ _ (by assumption) | exact zback _ | exact eg_comb _ _ | exact eg_abs _ _ | exact idv0 _ _ | exact idv1 _ _ _ (by assumption) | exact idv2 _ _ _ | grind))
  have su6 : tw (Int.natAbs (u3)) ≤ 34 := by have e := HZ6.out; first | omega | (rw [← e]; have := tw_egcd' (a := a) (b := b) (M := 30) (by first | omega | exact wlc (by decide)) (by first | omega | exact wlc (by decide)); omega)
  have lx7 := bx7.cells
  have lx8 := bx8.cells
  have BX3 := Lib.hid bx3
  have BX4 := Lib.hid bx4
  have BX5 := Lib.hid bx5
  have BX6 := Lib.hid bx6
  have BX7 := Lib.hid bx7
  have BX8 := Lib.hid bx8
  have BX9 := Lib.hid bx9
  have BX10 := Lib.hid bx10
  have BX11 := Lib.hid bx11
  clear bx3 bx4 bx5 bx6 bx7 bx8 bx9 bx10 bx11
  refine sK fun K hK => ?_
  have HS0 := Lib.hid (HB.out.size)
  have MX5 : gx5 < Wx4.heap.size := BX5.out.lt
  have MX6 : gx6 < Wx4.heap.size := BX6.out.lt
  have MX7 : gx7 < Wx4.heap.size := BX7.out.lt
  have MX8 : gx8 < Wx4.heap.size := BX8.out.lt
  have MX9 : gx9 < Wx4.heap.size := BX9.out.lt
  have MX10 : gx10 < Wx4.heap.size := BX10.out.lt
  have MX11 : gx11 < Wx4.heap.size := BX11.out.lt
  refine wp_region_seqplan 7 [(true, 0), (true, 1), (false, 2), (true, 3), (true, 4), (true, 5), (true, 6)] (by rfl) (by simp) (fun T hT => ?_)
  iterate 2 (refine wpPlan_takeL (v := ?_) rfl (by rfl) (fun w' hw => ?_) ?_; rotate_left; go_simp; with_reducible rfl; simp only [Act.put, rA, rB, rC])
  refine wpPlan_callE rfl (by rfl) Tryz.call11 (by rfl) (fun w' hw => (zzgcd (a) (b) (u1) (u2) (u3) _ _ _ HZ4.out HZ5.out HZ6.out (by omega) (by omega) (BX3.out.gr hw) (BX4.out.gr hw)).mono ?_)
  rintro e vv1 ⟨⟨rv3, rv4, rv5, rfl, bx12, bx13, bx14⟩, hg0⟩
  obtain ⟨ao3, nn3, cc3, rfl⟩ := Rn.sl bx12
  obtain ⟨ao4, nn4, cc4, rfl⟩ := Rn.sl bx13
  obtain ⟨ao5, nn5, cc5, rfl⟩ := Rn.sl bx14
  refine ⟨_, rfl, hg0, ?_⟩
  replace hg0 := Gr.trans hw hg0; clear hw
  have HG0 := Lib.hid hg0; clear hg0
  replace BX3 := rG BX3 HG0
  replace BX4 := rG BX4 HG0
  replace BX5 := bG BX5 HG0
  replace BX6 := bG BX6 HG0
  replace BX7 := bG BX7 HG0
  replace BX8 := bG BX8 HG0
  replace BX9 := bG BX9 HG0
  replace BX10 := bG BX10 HG0
  replace BX11 := bG BX11 HG0
  replace HB := Lib.hid (HB.out.trans (HG0.out.mono HB.out.size))
  have BX12 := Lib.hid bx12; clear bx12
  have BX13 := Lib.hid bx13; clear bx13
  have BX14 := Lib.hid bx14; clear bx14
  clear HG0
  clear lx7; have lx7 := BX7.out.cells
  clear lx8; have lx8 := BX8.out.cells
  simp only [Act.put, rA, rB, rC]
  iterate 4 (refine wpPlan_takeL (v := ?_) rfl (by rfl) (fun w' hw => ?_) ?_; rotate_left; go_simp; with_reducible rfl; simp only [Act.put, rA, rB, rC])
  refine wpPlan_nil (hT.out _ _ ?_); clear hT T
  intro vw4 hg
  simp only [puts, Act.put, rA, rB, rC, rD, rE, ↓reduceIte, Nat.reduceEqDiff]
  clear lx7 lx8
  have HG := Lib.hid (hg)
  clear hg
  replace BX3 := rG BX3 HG
  replace BX4 := rG BX4 HG
  replace BX5 := bG BX5 HG
  replace BX6 := bG BX6 HG
  replace BX7 := bG BX7 HG
  replace BX8 := bG BX8 HG
  replace BX9 := bG BX9 HG
  replace BX10 := bG BX10 HG
  replace BX11 := bG BX11 HG
  replace BX12 := rG BX12 HG
  replace BX13 := rG BX13 HG
  replace BX14 := rG BX14 HG
  have r0 := Gr.refl vw4
  go_wp2
  refine hK.out _ _ ?_; clear hK K
  show Code.wp _ _ _ _ _
  clear r0
  have hsz : w.heap.size ≤ vw4.heap.size := Nat.le_trans HB.out.size HG.out.size
  have mx5 : gx5 < vw4.heap.size := BX5.out.lt
  have mx6 : gx6 < vw4.heap.size := BX6.out.lt
  have mx7 : gx7 < vw4.heap.size := BX7.out.lt
  have mx8 : gx8 < vw4.heap.size := BX8.out.lt
  have mx9 : gx9 < vw4.heap.size := BX9.out.lt
  have mx10 : gx10 < vw4.heap.size := BX10.out.lt
  have mx11 : gx11 < vw4.heap.size := BX11.out.lt
  refine forgetW (fun w2 => Rn w2 (.slice ao1 nn1 cc1) (Int.natAbs (a)) ∧ Rn w2 (.slice ao2 nn2 cc2) (Int.natAbs (b)) ∧ Bx w2 gx5 33 #[.int .u64 (lo (Int.natAbs (a))), .string (bg (Int.natAbs (a))), .bool (decide ((a) < 0))] ∧ Bx w2 gx6 33 #[.int .u64 (lo (Int.natAbs (b))), .string (bg (Int.natAbs (b))), .bool (decide ((b) < 0))] ∧ Bx w2 gx7 38 #[.bool (decide ((a) < 0)), (.slice ao1 nn1 cc1)] ∧ Bx w2 gx8 38 #[.bool (decide ((b) < 0)), (.slice ao2 nn2 cc2)] ∧ Bx w2 gx9 33 #[.int .u64 (lo (Int.natAbs (u1))), .string (bg (Int.natAbs (u1))), .bool (decide ((u1) < 0))] ∧ Bx w2 gx10 33 #[.int .u64 (lo (Int.natAbs (u2))), .string (bg (Int.natAbs (u2))), .bool (decide ((u2) < 0))] ∧ Bx w2 gx11 33 #[.int .u64 (lo (Int.natAbs (u3))), .string (bg (Int.natAbs (u3))), .bool (decide ((u3) < 0))] ∧ Rn w2 (.slice ao3 nn3 cc3) (Int.natAbs (u1)) ∧ Rn w2 (.slice ao4 nn4 cc4) (Int.natAbs (u2)) ∧ Rn w2 (.slice ao5 nn5 cc5) (Int.natAbs (u3)) ∧ Bx w2 (vw4.heap.size) 38 #[.bool (decide ((u1) < 0)), (.slice ao3 nn3 cc3)] ∧ Bx w2 (vw4.heap.size + 1) 38 #[.bool (decide ((u2) < 0)), (.slice ao4 nn4 cc4)] ∧ Bx w2 (vw4.heap.size + 1 + 1) 38 #[.bool (decide ((u3) < 0)), (.slice ao5 nn5 cc5)] ∧ Below w.heap.size w w2) ⟨(((BX3.out).alloc _).alloc _).alloc _, (((BX4.out).alloc _).alloc _).alloc _, (((BX5.out).alloc _).alloc _).alloc _, (((BX6.out).alloc _).alloc _).alloc _, (((BX7.out).alloc _).alloc _).alloc _, (((BX8.out).alloc _).alloc _).alloc _, (((BX9.out).alloc _).alloc _).alloc _, (((BX10.out).alloc _).alloc _).alloc _, (((BX11.out).alloc _).alloc _).alloc _, (((BX12.out).alloc _).alloc _).alloc _, (((BX13.out).alloc _).alloc _).alloc _, (((BX14.out).alloc _).alloc _).alloc _, (((Bx.at (by simp) : Bx _ (vw4.heap.size) _ _)).alloc _).alloc _, ((Bx.at (by simp) : Bx _ (vw4.heap.size + 1) _ _)).alloc _, (Bx.at (by simp) : Bx _ (vw4.heap.size + 1 + 1) _ _), (((HB.out.trans (HG.out.mono HB.out.size)).alloc (by first | omega | (simp; omega)) _).alloc (by first | omega | (simp; omega)) _).alloc (by first | omega | (simp; omega)) _⟩ ?_
  clear HB HG BX3 BX4 BX5 BX6 BX7 BX8 BX9 BX10 BX11 BX12 BX13 BX14
  rintro Wx5 ⟨bx3, bx4, bx5, bx6, bx7, bx8, bx9, bx10, bx11, bx12, bx13, bx14, bx15, bx16, bx17, HB⟩
  replace HB := Lib.hid HB
  have qx15_16 : vw4.heap.size < vw4.heap.size + 1 := by omega
  have qx15_17 : vw4.heap.size < vw4.heap.size + 1 + 1 := by omega
  have qx16_17 : vw4.heap.size + 1 < vw4.heap.size + 1 + 1 := by omega
  have yx17 : w.heap.size ≤ vw4.heap.size + 1 + 1 := by omega
  have qx5_17 : gx5 < vw4.heap.size + 1 + 1 := by omega
  have qx6_17 : gx6 < vw4.heap.size + 1 + 1 := by omega
  have qx7_17 : gx7 < vw4.heap.size + 1 + 1 := by omega
  have qx8_17 : gx8 < vw4.heap.size + 1 + 1 := by omega
  have qx9_17 : gx9 < vw4.heap.size + 1 + 1 := by omega
  have qx10_17 : gx10 < vw4.heap.size + 1 + 1 := by omega
  have qx11_17 : gx11 < vw4.heap.size + 1 + 1 := by omega
  generalize hx17 : vw4.heap.size + 1 + 1 = gx17 at *
  clear hx17
  have yx16 : w.heap.size ≤ vw4.heap.size + 1 := by omega
  have qx5_16 : gx5 < vw4.heap.size + 1 := by omega
  have qx6_16 : gx6 < vw4.heap.size + 1 := by omega
  have qx7_16 : gx7 < vw4.heap.size + 1 := by omega
  have qx8_16 : gx8 < vw4.heap.size + 1 := by omega
  have qx9_16 : gx9 < vw4.heap.size + 1 := by omega
  have qx10_16 : gx10 < vw4.heap.size + 1 := by omega
  have qx11_16 : gx11 < vw4.heap.size + 1 := by omega
  generalize hx16 : vw4.heap.size + 1 = gx16 at *
  clear hx16
  have yx15 : w.heap.size ≤ vw4.heap.size := by omega
  have qx5_15 : gx5 < vw4.heap.size := by omega
  have qx6_15 : gx6 < vw4.heap.size := by omega
  have qx7_15 : gx7 < vw4.heap.size := by omega
  have qx8_15 : gx8 < vw4.heap.size := by omega
  have qx9_15 : gx9 < vw4.heap.size := by omega
  have qx10_15 : gx10 < vw4.heap.size := by omega
  have qx11_15 : gx11 < vw4.heap.size := by omega
  generalize hx15 : vw4.heap.size = gx15 at *
  clear hx15
  clear hsz mx5 mx6 mx7 mx8 mx9 mx10 mx11
  refine wp_seq ?_
  have lx9 := bx9.cells
  have lx10 := bx10.cells
  have lx11 := bx11.cells
  have lx15 := bx15.cells
  have lx16 := bx16.cells
  have lx17 := bx17.cells
  have BX3 := Lib.hid bx3
  have BX4 := Lib.hid bx4
  have BX5 := Lib.hid bx5
  have BX6 := Lib.hid bx6
  have BX7 := Lib.hid bx7
  have BX8 := Lib.hid bx8
  have BX9 := Lib.hid bx9
  have BX10 := Lib.hid bx10
  have BX11 := Lib.hid bx11
  have BX12 := Lib.hid bx12
  have BX13 := Lib.hid bx13
  have BX14 := Lib.hid bx14
  have BX15 := Lib.hid bx15
  have BX16 := Lib.hid bx16
  have BX17 := Lib.hid bx17
  clear bx3 bx4 bx5 bx6 bx7 bx8 bx9 bx10 bx11 bx12 bx13 bx14 bx15 bx16 bx17
  refine sK fun K hK => ?_
  refine wp_region_seqplan 16 [(true, 0), (true, 1), (true, 2), (true, 3), (true, 4), (true, 5), (true, 6), (true, 7), (true, 8), (true, 9), (true, 10), (true, 11), (true, 12), (true, 13), (true, 14), (true, 15)] (by rfl) (by simp) (fun T hT => ?_)
  iterate 2 (refine wpPlan_takeL (v := ?_) rfl (by rfl) (fun w' hw => ?_) ?_; rotate_left; go_simp; with_reducible rfl; simp only [Act.put, rA, rB, rC])
  refine wpPlan_callL rfl (by rfl) Tryz.call12 (fun w' hw => samez_any (u1) (u1) _ _ (rfl) (BX12.out.gr hw) (by first | omega | exact wlc (by decide)) (by first | omega | exact wlc (by decide)) (Lib.hid (HT.out.gr (Gr.trans HB.out hw)))) (by rfl) ?_
  simp only [Act.put, rA, rB, rC]
  iterate 4 (refine wpPlan_takeL (v := ?_) rfl (by rfl) (fun w' hw => ?_) ?_; rotate_left; go_simp; with_reducible rfl; simp only [Act.put, rA, rB, rC])
  refine wpPlan_callL rfl (by rfl) Tryz.call12 (fun w' hw => samez_any (u2) (u2) _ _ (rfl) (BX13.out.gr hw) (by first | omega | exact wlc (by decide)) (by first | omega | exact wlc (by decide)) (Lib.hid (HT.out.gr (Gr.trans HB.out hw)))) (by rfl) ?_
  simp only [Act.put, rA, rB, rC]
  iterate 5 (refine wpPlan_takeL (v := ?_) rfl (by rfl) (fun w' hw => ?_) ?_; rotate_left; go_simp; with_reducible rfl; simp only [Act.put, rA, rB, rC])
  refine wpPlan_callL rfl (by rfl) Tryz.call12 (fun w' hw => samez_any (u3) (u3) _ _ (rfl) (BX14.out.gr hw) (by first | omega | exact wlc (by decide)) (by first | omega | exact wlc (by decide)) (Lib.hid (HT.out.gr (Gr.trans HB.out hw)))) (by rfl) ?_
  simp only [Act.put, rA, rB, rC]
  iterate 2 (refine wpPlan_takeL (v := ?_) rfl (by rfl) (fun w' hw => ?_) ?_; rotate_left; go_simp; with_reducible rfl; simp only [Act.put, rA, rB, rC])
  refine wpPlan_nil (hT.out _ _ ?_); clear hT T
  intro vw5 hg
  simp only [puts, Act.put, rA, rB, rC, rD, rE, ↓reduceIte, Nat.reduceEqDiff]
  clear lx9 lx10 lx11 lx15 lx16 lx17
  have HG := Lib.hid (hg)
  clear hg
  replace BX3 := rG BX3 HG
  replace BX4 := rG BX4 HG
  replace BX5 := bG BX5 HG
  replace BX6 := bG BX6 HG
  replace BX7 := bG BX7 HG
  replace BX8 := bG BX8 HG
  replace BX9 := bG BX9 HG
  replace BX10 := bG BX10 HG
  replace BX11 := bG BX11 HG
  replace BX12 := rG BX12 HG
  replace BX13 := rG BX13 HG
  replace BX14 := rG BX14 HG
  replace BX15 := bG BX15 HG
  replace BX16 := bG BX16 HG
  replace BX17 := bG BX17 HG
  have r0 := Gr.refl vw5
  go_wp2
  refine hK.out _ _ ?_; clear hK K
  show Code.wp _ _ _ _ _
  clear r0
  refine forgetW (fun w2 => Rn w2 (.slice ao1 nn1 cc1) (Int.natAbs (a)) ∧ Rn w2 (.slice ao2 nn2 cc2) (Int.natAbs (b)) ∧ Bx w2 gx5 33 #[.int .u64 (lo (Int.natAbs (a))), .string (bg (Int.natAbs (a))), .bool (decide ((a) < 0))] ∧ Bx w2 gx6 33 #[.int .u64 (lo (Int.natAbs (b))), .string (bg (Int.natAbs (b))), .bool (decide ((b) < 0))] ∧ Bx w2 gx7 38 #[.bool (decide ((a) < 0)), (.slice ao1 nn1 cc1)] ∧ Bx w2 gx8 38 #[.bool (decide ((b) < 0)), (.slice ao2 nn2 cc2)] ∧ Below w.heap.size w w2) ⟨BX3.out, BX4.out, BX5.out, BX6.out, BX7.out, BX8.out, HB.out.trans (HG.out.mono HB.out.size)⟩ ?_
  clear HB HG BX3 BX4 BX5 BX6 BX7 BX8 BX9 BX10 BX11 BX12 BX13 BX14 BX15 BX16 BX17
  rintro Wx6 ⟨bx3, bx4, bx5, bx6, bx7, bx8, HB⟩
  replace HB := Lib.hid HB
  refine wp_cond_false (by rfl) ?_
  refine wp_skip ?_
  show Code.wp _ _ _ _ _
  obtain ⟨u7, HZ7⟩ : ∃ z, Hid ((a) / (b) = z) := ⟨_, Lib.hid rfl⟩
  have su7 : wl (Int.natAbs (u7)) ≤ 11 := by rw [← HZ7.out]; have := wl_idiv (a) (b); omega
  obtain ⟨u8, HZ8⟩ : ∃ z, Hid ((a) % (b) = z) := ⟨_, Lib.hid rfl⟩
  have su8 : wl (Int.natAbs (u8)) ≤ 10 := by rw [← HZ8.out]; have := wl_imod (a) (b) (by first | rfl | omega | (simp; done) | exact eg0 _ | (rw [egcd_zero]; done) | (rw [egcd_zero]; simp; done) | exact elt _ _ (by assumption) | exact zback _ | exact eg_comb _ _ | exact eg_abs _ _ | exact idv0 _ _ | exact idv1 _ _ _ (by assumption) | exact idv2 _ _ _ | (simp only [← HZ7.out, ← HZ3.out, ← HZ2.out, ← HZ1.out] <;> first | rfl | omega | (simp; done) | exact eg0 _ | (rw [egcd_zero]; done) | (rw [egcd_zero]; simp; done) | exact elt _ _ (by assumption) | exact zback _ | exact eg_comb _ _ | exact eg_abs _ _ | exact idv0 _ _ | exact idv1 _ _ _ (by assumption) | exact idv2 _ _ _ | grind)); omega
  have lx5 := bx5.cells
  have lx6 := bx6.cells
  have BX3 := Lib.hid bx3
  have BX4 := Lib.hid bx4
  have BX5 := Lib.hid bx5
  have BX6 := Lib.hid bx6
  have BX7 := Lib.hid bx7
  have BX8 := Lib.hid bx8
  clear bx3 bx4 bx5 bx6 bx7 bx8
  refine sK fun K hK => ?_
  refine wp_region_seqplan 7 [(true, 0), (true, 1), (true, 2), (true, 3), (true, 4), (true, 5), (true, 6)] (by rfl) (by simp) (fun T hT => ?_)
  iterate 2 (refine wpPlan_takeL (v := ?_) rfl (by rfl) (fun w' hw => ?_) ?_; rotate_left; go_simp; with_reducible rfl; simp only [Act.put, rA, rB, rC])
  refine wpPlan_callL rfl (by rfl) Tryz.call13 (fun w' hw => zidiv (a) (b) (u7) (u8) _ HZ7.out HZ8.out (by first | rfl | omega | (simp; done) | exact eg0 _ | (rw [egcd_zero]; done) | (rw [egcd_zero]; simp; done) | exact elt _ _ (by assumption) | exact zback _ | exact eg_comb _ _ | exact eg_abs _ _ | exact idv0 _ _ | exact idv1 _ _ _ (by assumption) | exact idv2 _ _ _ | (simp only [← HZ8.out, ← HZ7.out, ← HZ3.out, ← HZ2.out, ← HZ1.out] <;> first | rfl | omega | (simp; done) | exact eg0 _ | (rw [egcd_zero]; done) | (rw [egcd_zero]; simp; done) | exact elt _ _ (by assumption) | exact zback _ | exact eg_comb _ _ | exact eg_abs _ _ | exact idv0 _ _ | exact idv1 _ _ _ (by assumption) | exact idv2 _ _ _ | grind)) (by first | omega | exact wlc (by decide)) (by first | omega | exact wlc (by decide))) (by rfl) ?_
  simp only [Act.put, rA, rB, rC]
  iterate 4 (refine wpPlan_takeL (v := ?_) rfl (by rfl) (fun w' hw => ?_) ?_; rotate_left; go_simp; with_reducible rfl; simp only [Act.put, rA, rB, rC])
  refine wpPlan_nil (hT.out _ _ ?_); clear hT T
  intro vw6 hg
  simp only [puts, Act.put, rA, rB, rC, rD, rE, ↓reduceIte, Nat.reduceEqDiff]
  clear lx5 lx6
  have HG := Lib.hid (hg)
  clear hg
  replace BX3 := rG BX3 HG
  replace BX4 := rG BX4 HG
  replace BX5 := bG BX5 HG
  replace BX6 := bG BX6 HG
  replace BX7 := bG BX7 HG
  replace BX8 := bG BX8 HG
  have r0 := Gr.refl vw6
  go_wp2
  refine hK.out _ _ ?_; clear hK K
  show Code.wp _ _ _ _ _
  clear r0
  have hsz : w.heap.size ≤ vw6.heap.size := Nat.le_trans HB.out.size HG.out.size
  have mx5 : gx5 < vw6.heap.size := BX5.out.lt
  have mx6 : gx6 < vw6.heap.size := BX6.out.lt
  have mx7 : gx7 < vw6.heap.size := BX7.out.lt
  have mx8 : gx8 < vw6.heap.size := BX8.out.lt
  refine forgetW (fun w2 => Rn w2 (.slice ao1 nn1 cc1) (Int.natAbs (a)) ∧ Rn w2 (.slice ao2 nn2 cc2) (Int.natAbs (b)) ∧ Bx w2 gx7 38 #[.bool (decide ((a) < 0)), (.slice ao1 nn1 cc1)] ∧ Bx w2 gx8 38 #[.bool (decide ((b) < 0)), (.slice ao2 nn2 cc2)] ∧ Bx w2 (vw6.heap.size) 33 #[.int .u64 (lo (Int.natAbs (u7))), .string (bg (Int.natAbs (u7))), .bool (decide ((u7) < 0))] ∧ Bx w2 (vw6.heap.size + 1) 33 #[.int .u64 (lo (Int.natAbs (u8))), .string (bg (Int.natAbs (u8))), .bool (decide ((u8) < 0))] ∧ Below w.heap.size w w2) ⟨((BX3.out).alloc _).alloc _, ((BX4.out).alloc _).alloc _, ((BX7.out).alloc _).alloc _, ((BX8.out).alloc _).alloc _, ((Bx.at (by simp) : Bx _ (vw6.heap.size) _ _)).alloc _, (Bx.at (by simp) : Bx _ (vw6.heap.size + 1) _ _), ((HB.out.trans (HG.out.mono HB.out.size)).alloc (by first | omega | (simp; omega)) _).alloc (by first | omega | (simp; omega)) _⟩ ?_
  clear HB HG BX3 BX4 BX5 BX6 BX7 BX8
  rintro Wx8 ⟨bx3, bx4, bx7, bx8, bx18, bx19, HB⟩
  replace HB := Lib.hid HB
  have qx18_19 : vw6.heap.size < vw6.heap.size + 1 := by omega
  have yx19 : w.heap.size ≤ vw6.heap.size + 1 := by omega
  have qx5_19 : gx5 < vw6.heap.size + 1 := by omega
  have qx6_19 : gx6 < vw6.heap.size + 1 := by omega
  have qx7_19 : gx7 < vw6.heap.size + 1 := by omega
  have qx8_19 : gx8 < vw6.heap.size + 1 := by omega
  generalize hx19 : vw6.heap.size + 1 = gx19 at *
  clear hx19
  have yx18 : w.heap.size ≤ vw6.heap.size := by omega
  have qx5_18 : gx5 < vw6.heap.size := by omega
  have qx6_18 : gx6 < vw6.heap.size := by omega
  have qx7_18 : gx7 < vw6.heap.size := by omega
  have qx8_18 : gx8 < vw6.heap.size := by omega
  generalize hx18 : vw6.heap.size = gx18 at *
  clear hx18
  clear hsz mx5 mx6 mx7 mx8
  refine wp_seq ?_
  have hd1 : ((tb) == (0)) = false := by have : ¬ (tb = 0) := (by first | rfl | omega | (simp; done) | exact eg0 _ | (rw [egcd_zero]; done) | (rw [egcd_zero]; simp; done) | exact elt _ _ (by assumption) | exact zback _ | exact eg_comb _ _ | exact eg_abs _ _ | exact idv0 _ _ | exact idv1 _ _ _ (by assumption) | exact idv2 _ _ _ | (simp only [← HZ8.out, ← HZ7.out, ← HZ3.out, ← HZ2.out, ← HZ1.out] <;> first | rfl | omega | (simp; done) | exact eg0 _ | (rw [egcd_zero]; done) | (rw [egcd_zero]; simp; done) | exact elt _ _ (by assumption) | exact zback _ | exact eg_comb _ _ | exact eg_abs _ _ | exact idv0 _ _ | exact idv1 _ _ _ (by assumption) | exact idv2 _ _ _ | grind)); simpa using this
  have lx8 := bx8.cells
  have BX3 := Lib.hid bx3
  have BX4 := Lib.hid bx4
  have BX7 := Lib.hid bx7
  have BX8 := Lib.hid bx8
  have BX18 := Lib.hid bx18
  have BX19 := Lib.hid bx19
  clear bx3 bx4 bx7 bx8 bx18 bx19
  refine sK fun K hK => ?_
  refine wp_region_seqplan 3 [(true, 0), (true, 1), (true, 2)] (by rfl) (by simp) (fun T hT => ?_)
  refine wpPlan_takeL (v := ?_) rfl (by rfl) (fun w' hw => ?_) ?_; rotate_left; go_simp; with_reducible rfl; simp only [Act.put, rA, rB, rC]
  refine wpPlan_callL rfl (by rfl) Tryz.call14 (fun w' hw => zrsign (b) (tb) _ _ HTB.out (BX4.out.gr hw)) (by rfl) ?_
  simp only [Act.put, rA, rB, rC]
  refine wpPlan_takeL (v := ?_) rfl (by rfl) (fun w' hw => ?_) ?_; rotate_left; go_simp; with_reducible rfl; simp only [Act.put, rA, rB, rC]
  refine wpPlan_nil (hT.out _ _ ?_); clear hT T
  intro vw7 hg
  simp only [puts, Act.put, rA, rB, rC, rD, rE, ↓reduceIte, Nat.reduceEqDiff]
  clear lx8
  have HG := Lib.hid (hg)
  clear hg
  replace BX3 := rG BX3 HG
  replace BX4 := rG BX4 HG
  replace BX7 := bG BX7 HG
  replace BX8 := bG BX8 HG
  replace BX18 := bG BX18 HG
  replace BX19 := bG BX19 HG
  have r0 := Gr.refl vw7
  go_wp2
  refine hK.out _ _ ?_; clear hK K
  show Code.wp _ _ _ _ _
  clear r0
  refine forgetW (fun w2 => Rn w2 (.slice ao1 nn1 cc1) (Int.natAbs (a)) ∧ Rn w2 (.slice ao2 nn2 cc2) (Int.natAbs (b)) ∧ Bx w2 gx7 38 #[.bool (decide ((a) < 0)), (.slice ao1 nn1 cc1)] ∧ Bx w2 gx8 38 #[.bool (decide ((b) < 0)), (.slice ao2 nn2 cc2)] ∧ Bx w2 gx18 33 #[.int .u64 (lo (Int.natAbs (u7))), .string (bg (Int.natAbs (u7))), .bool (decide ((u7) < 0))] ∧ Bx w2 gx19 33 #[.int .u64 (lo (Int.natAbs (u8))), .string (bg (Int.natAbs (u8))), .bool (decide ((u8) < 0))] ∧ Below w.heap.size w w2) ⟨BX3.out, BX4.out, BX7.out, BX8.out, BX18.out, BX19.out, HB.out.trans (HG.out.mono HB.out.size)⟩ ?_
  clear HB HG BX3 BX4 BX7 BX8 BX18 BX19
  rintro Wx9 ⟨bx3, bx4, bx7, bx8, bx18, bx19, HB⟩
  replace HB := Lib.hid HB
  clear hd1
  refine wp_cond_false (by rfl) ?_
  refine wp_skip ?_
  show Code.wp _ _ _ _ _
  have HZ9 : Hid ((a) / (b) = u7) := Lib.hid (by first | rfl | omega | (simp; done) | exact eg0 _ | (rw [egcd_zero]; done) | (rw [egcd_zero]; simp; done) | exact elt _ _ (by assumption) | exact zback _ | exact eg_comb _ _ | exact eg_abs _ _ | exact idv0 _ _ | exact idv1 _ _ _ (by assumption) | exact idv2 _ _ _ | (simp only [← HZ8.out, ← HZ7.out, ← HZ3.out, ← HZ2.out, ← HZ1.out] <;> first | rfl | omega | (simp; done) | exact eg0 _ | (rw [egcd_zero]; done) | (rw [egcd_zero]; simp; done) | exact elt _ _ (by assumption) | exact zback _ | exact eg_comb _ _ | exact eg_abs _ _ | exact idv0 _ _ | exact idv1 _ _ _ (by assumption) | exact idv2 _ _ _ | grind))
  have su9 : tw (Int.natAbs (u7)) ≤ 31 := by have e := HZ9.out; first | omega | (rw [← e]; have := tw_idiv (a) (b); omega)
  have HZ10 : Hid ((a) % (b) = u8) := Lib.hid (by first | rfl | omega | (simp; done) | exact eg0 _ | (rw [egcd_zero]; done) | (rw [egcd_zero]; simp; done) | exact elt _ _ (by assumption) | exact zback _ | exact eg_comb _ _ | exact eg_abs _ _ | exact idv0 _ _ | exact idv1 _ _ _ (by assumption) | exact idv2 _ _ _ | (simp only [← HZ8.out, ← HZ7.out, ← HZ3.out, ← HZ2.out, ← HZ1.out] <;> first | rfl | omega | (simp; done) | exact eg0 _ | (rw [egcd_zero]; done) | (rw [egcd_zero]; simp; done) | exact elt _ _ (by assumption) | exact zback _ | exact eg_comb _ _ | exact eg_abs _ _ | exact idv0 _ _ | exact idv1 _ _ _ (by assumption) | exact idv2 _ _ _ | grind))
  have su10 : tw (Int.natAbs (u8)) ≤ 30 := by have e := HZ10.out; first | omega | (rw [← e]; have := tw_imod (a) (b) (by first | rfl | omega | (simp; done) | exact eg0 _ | (rw [egcd_zero]; done) | (rw [egcd_zero]; simp; done) | exact elt _ _ (by assumption) | exact zback _ | exact eg_comb _ _ | exact eg_abs _ _ | exact idv0 _ _ | exact idv1 _ _ _ (by assumption) | exact idv2 _ _ _ | (simp only [← HZ8.out, ← HZ7.out, ← HZ3.out, ← HZ2.out, ← HZ1.out] <;> first | rfl | omega | (simp; done) | exact eg0 _ | (rw [egcd_zero]; done) | (rw [egcd_zero]; simp; done) | exact elt _ _ (by assumption) | exact zback _ | exact eg_comb _ _ | exact eg_abs _ _ | exact idv0 _ _ | exact idv1 _ _ _ (by assumption) | exact idv2 _ _ _ | grind)); omega)
  have lx7 := bx7.cells
  have lx8 := bx8.cells
  have BX3 := Lib.hid bx3
  have BX4 := Lib.hid bx4
  have BX7 := Lib.hid bx7
  have BX8 := Lib.hid bx8
  have BX18 := Lib.hid bx18
  have BX19 := Lib.hid bx19
  clear bx3 bx4 bx7 bx8 bx18 bx19
  refine sK fun K hK => ?_
  have HS0 := Lib.hid (HB.out.size)
  have MX7 : gx7 < Wx9.heap.size := BX7.out.lt
  have MX8 : gx8 < Wx9.heap.size := BX8.out.lt
  have MX18 : gx18 < Wx9.heap.size := BX18.out.lt
  have MX19 : gx19 < Wx9.heap.size := BX19.out.lt
  refine wp_region_seqplan 6 [(true, 0), (true, 1), (false, 2), (true, 3), (true, 4), (true, 5)] (by rfl) (by simp) (fun T hT => ?_)
  iterate 2 (refine wpPlan_takeL (v := ?_) rfl (by rfl) (fun w' hw => ?_) ?_; rotate_left; go_simp; with_reducible rfl; simp only [Act.put, rA, rB, rC])
  refine wpPlan_callE rfl (by rfl) Tryz.call16 (by rfl) (fun w' hw => (zzdiv (a) (b) (u7) (u8) _ _ _ HZ9.out HZ10.out (by first | rfl | omega | (simp; done) | exact eg0 _ | (rw [egcd_zero]; done) | (rw [egcd_zero]; simp; done) | exact elt _ _ (by assumption) | exact zback _ | exact eg_comb _ _ | exact eg_abs _ _ | exact idv0 _ _ | exact idv1 _ _ _ (by assumption) | exact idv2 _ _ _ | (simp only [← HZ8.out, ← HZ7.out, ← HZ3.out, ← HZ2.out, ← HZ1.out] <;> first | rfl | omega | (simp; done) | exact eg0 _ | (rw [egcd_zero]; done) | (rw [egcd_zero]; simp; done) | exact elt _ _ (by assumption) | exact zback _ | exact eg_comb _ _ | exact eg_abs _ _ | exact idv0 _ _ | exact idv1 _ _ _ (by assumption) | exact idv2 _ _ _ | grind)) (by omega) (by omega) (BX3.out.gr hw) (BX4.out.gr hw)).mono ?_)
  rintro e vv1 ⟨⟨rv6, rv7, rfl, bx20, bx21⟩, hg0⟩
  obtain ⟨ao6, nn6, cc6, rfl⟩ := Rn.sl bx20
  obtain ⟨ao7, nn7, cc7, rfl⟩ := Rn.sl bx21
  refine ⟨_, rfl, hg0, ?_⟩
  replace hg0 := Gr.trans hw hg0; clear hw
  have HG0 := Lib.hid hg0; clear hg0
  replace BX3 := rG BX3 HG0
  replace BX4 := rG BX4 HG0
  replace BX7 := bG BX7 HG0
  replace BX8 := bG BX8 HG0
  replace BX18 := bG BX18 HG0
  replace BX19 := bG BX19 HG0
  replace HB := Lib.hid (HB.out.trans (HG0.out.mono HB.out.size))
  have BX20 := Lib.hid bx20; clear bx20
  have BX21 := Lib.hid bx21; clear bx21
  clear HG0
  clear lx7; have lx7 := BX7.out.cells
  clear lx8; have lx8 := BX8.out.cells
  simp only [Act.put, rA, rB, rC]
  iterate 3 (refine wpPlan_takeL (v := ?_) rfl (by rfl) (fun w' hw => ?_) ?_; rotate_left; go_simp; with_reducible rfl; simp only [Act.put, rA, rB, rC])
  refine wpPlan_nil (hT.out _ _ ?_); clear hT T
  intro vw8 hg
  simp only [puts, Act.put, rA, rB, rC, rD, rE, ↓reduceIte, Nat.reduceEqDiff]
  clear lx7 lx8
  have HG := Lib.hid (hg)
  clear hg
  replace BX3 := rG BX3 HG
  replace BX4 := rG BX4 HG
  replace BX7 := bG BX7 HG
  replace BX8 := bG BX8 HG
  replace BX18 := bG BX18 HG
  replace BX19 := bG BX19 HG
  replace BX20 := rG BX20 HG
  replace BX21 := rG BX21 HG
  have r0 := Gr.refl vw8
  go_wp2
  refine hK.out _ _ ?_; clear hK K
  show Code.wp _ _ _ _ _
  clear r0
  have hsz : w.heap.size ≤ vw8.heap.size := Nat.le_trans HB.out.size HG.out.size
  have mx7 : gx7 < vw8.heap.size := BX7.out.lt
  have mx8 : gx8 < vw8.heap.size := BX8.out.lt
  have mx18 : gx18 < vw8.heap.size := BX18.out.lt
  have mx19 : gx19 < vw8.heap.size := BX19.out.lt
  refine forgetW (fun w2 => Bx w2 gx18 33 #[.int .u64 (lo (Int.natAbs (u7))), .string (bg (Int.natAbs (u7))), .bool (decide ((u7) < 0))] ∧ Bx w2 gx19 33 #[.int .u64 (lo (Int.natAbs (u8))), .string (bg (Int.natAbs (u8))), .bool (decide ((u8) < 0))] ∧ Rn w2 (.slice ao6 nn6 cc6) (Int.natAbs (u7)) ∧ Rn w2 (.slice ao7 nn7 cc7) (Int.natAbs (u8)) ∧ Bx w2 (vw8.heap.size) 38 #[.bool (decide ((u7) < 0)), (.slice ao6 nn6 cc6)] ∧ Bx w2 (vw8.heap.size + 1) 38 #[.bool (decide ((u8) < 0)), (.slice ao7 nn7 cc7)] ∧ Below w.heap.size w w2) ⟨((BX18.out).alloc _).alloc _, ((BX19.out).alloc _).alloc _, ((BX20.out).alloc _).alloc _, ((BX21.out).alloc _).alloc _, ((Bx.at (by simp) : Bx _ (vw8.heap.size) _ _)).alloc _, (Bx.at (by simp) : Bx _ (vw8.heap.size + 1) _ _), ((HB.out.trans (HG.out.mono HB.out.size)).alloc (by first | omega | (simp; omega)) _).alloc (by first | omega | (simp; omega)) _⟩ ?_
  clear HB HG BX3 BX4 BX7 BX8 BX18 BX19 BX20 BX21
  rintro Wx11 ⟨bx18, bx19, bx20, bx21, bx22, bx23, HB⟩
  replace HB := Lib.hid HB
  have qx22_23 : vw8.heap.size < vw8.heap.size + 1 := by omega
  have yx23 : w.heap.size ≤ vw8.heap.size + 1 := by omega
  have qx7_23 : gx7 < vw8.heap.size + 1 := by omega
  have qx8_23 : gx8 < vw8.heap.size + 1 := by omega
  have qx18_23 : gx18 < vw8.heap.size + 1 := by omega
  have qx19_23 : gx19 < vw8.heap.size + 1 := by omega
  generalize hx23 : vw8.heap.size + 1 = gx23 at *
  clear hx23
  have yx22 : w.heap.size ≤ vw8.heap.size := by omega
  have qx7_22 : gx7 < vw8.heap.size := by omega
  have qx8_22 : gx8 < vw8.heap.size := by omega
  have qx18_22 : gx18 < vw8.heap.size := by omega
  have qx19_22 : gx19 < vw8.heap.size := by omega
  generalize hx22 : vw8.heap.size = gx22 at *
  clear hx22
  clear hsz mx7 mx8 mx18 mx19
  have lx18 := bx18.cells
  have lx19 := bx19.cells
  have lx22 := bx22.cells
  have lx23 := bx23.cells
  have BX18 := Lib.hid bx18
  have BX19 := Lib.hid bx19
  have BX20 := Lib.hid bx20
  have BX21 := Lib.hid bx21
  have BX22 := Lib.hid bx22
  have BX23 := Lib.hid bx23
  clear bx18 bx19 bx20 bx21 bx22 bx23
  refine sK fun K hK => ?_
  refine wp_region_seqplan 15 [(true, 0), (true, 1), (true, 2), (true, 3), (true, 4), (true, 5), (true, 6), (true, 7), (true, 8), (true, 9), (true, 10), (true, 11), (true, 12), (true, 13), (true, 14)] (by rfl) (by simp) (fun T hT => ?_)
  iterate 4 (refine wpPlan_takeL (v := ?_) rfl (by rfl) (fun w' hw => ?_) ?_; rotate_left; go_simp; with_reducible rfl; simp only [Act.put, rA, rB, rC])
  refine wpPlan_callL rfl (by rfl) Tryz.call12 (fun w' hw => samez_any (u7) (u7) _ _ (rfl) (BX20.out.gr hw) (by first | omega | exact wlc (by decide)) (by first | omega | exact wlc (by decide)) (Lib.hid (HT.out.gr (Gr.trans HB.out hw)))) (by rfl) ?_
  simp only [Act.put, rA, rB, rC]
  iterate 4 (refine wpPlan_takeL (v := ?_) rfl (by rfl) (fun w' hw => ?_) ?_; rotate_left; go_simp; with_reducible rfl; simp only [Act.put, rA, rB, rC])
  refine wpPlan_callL rfl (by rfl) Tryz.call12 (fun w' hw => samez_any (u8) (u8) _ _ (rfl) (BX21.out.gr hw) (by first | omega | exact wlc (by decide)) (by first | omega | exact wlc (by decide)) (Lib.hid (HT.out.gr (Gr.trans HB.out hw)))) (by rfl) ?_
  simp only [Act.put, rA, rB, rC]
  iterate 2 (refine wpPlan_takeL (v := ?_) rfl (by rfl) (fun w' hw => ?_) ?_; rotate_left; go_simp; with_reducible rfl; simp only [Act.put, rA, rB, rC])
  refine wpPlan_callL rfl (by rfl) Tryz.call7 (fun w' hw => worksz_any _ (Lib.hid (HT.out.gr (Gr.trans HB.out hw)))) (by rfl) ?_
  simp only [Act.put, rA, rB, rC]
  iterate 2 (refine wpPlan_takeL (v := ?_) rfl (by rfl) (fun w' hw => ?_) ?_; rotate_left; go_simp; with_reducible rfl; simp only [Act.put, rA, rB, rC])
  refine wpPlan_nil (hT.out _ _ ?_); clear hT T
  intro vw9 hg
  simp only [puts, Act.put, rA, rB, rC, rD, rE, ↓reduceIte, Nat.reduceEqDiff]
  clear lx18 lx19 lx22 lx23
  have HG := Lib.hid (hg)
  clear hg
  replace BX18 := bG BX18 HG
  replace BX19 := bG BX19 HG
  replace BX20 := rG BX20 HG
  replace BX21 := rG BX21 HG
  replace BX22 := bG BX22 HG
  replace BX23 := bG BX23 HG
  have r0 := Gr.refl vw9
  go_wp2
  refine hK.out _ _ ?_; clear hK K
  show Code.wp _ _ _ _ _
  clear r0
  refine forgetW (fun w2 => Below w.heap.size w w2) (HB.out.trans (HG.out.mono HB.out.size)) ?_
  clear HB HG BX18 BX19 BX20 BX21 BX22 BX23
  rintro Wx12 HB
  replace HB := Lib.hid HB
  refine wp_ret ?_
  try simp only [Exit.then, Exit.inBlock]
  have r0 := Gr.refl Wx12
  exact bodyPost_ret (v := .bool true) (by simp [results, Tryz.results3, go_sem]) rfl ⟨rfl, HB.out⟩

set_option maxRecDepth 100000 in
set_option maxHeartbeats 4000000 in
theorem divz_big1 (bbx : Bool) (vx : Value) (kx : Nat) (fx : Nat → Nat) (mx : Nat) (bby : Bool) (vy : Value) (ky : Nat) (fy : Nat → Nat) (my : Nat) (a b : Int)  (w : World) (HWx : Hid (Wa w vx kx fx)) (HFx : Hid (∀ i, i < kx → fx i < 4294967296)) (HVx : Hid (vl fx kx = mx)) (HAx : Hid ((if bbx then -((mx : Nat) : Int) else ((mx : Nat) : Int)) = a)) (HWy : Hid (Wa w vy ky fy)) (HFy : Hid (∀ i, i < ky → fy i < 4294967296)) (HVy : Hid (vl fy ky = my)) (HAy : Hid ((if bby then -((my : Nat) : Int) else ((my : Nat) : Int)) = b))  (hkx : 10 < kx) (HT : Hid (Tab w)) :
    Calls Tryz.prog 3 #[.agg #[.bool bbx, vx], .agg #[.bool bby, vy]] w fun e w' => e = .returned (.bool true) ∧ Below w.heap.size w w' := by
  obtain ⟨ao_x, c_x, rfl⟩ := HWx.out.slice
  obtain ⟨ao_y, c_y, rfl⟩ := HWy.out.slice
  go_enter Tryz.func3, Tryz.ntmps3
  refine sK fun K hK => ?_
  refine wp_region_lit ?_
  go_wp2
  refine hK.out _ _ ?_; clear hK K
  show Code.wp _ _ _ _ _
  refine forgetW (fun w2 => Bx w2 (w.heap.size) 24 #[.bool (bbx), (.slice ao_x kx c_x)] ∧ Bx w2 (w.heap.size + 1) 24 #[.bool (bby), (.slice ao_y ky c_y)] ∧ Below w.heap.size w w2) ⟨(Bx.at rfl).alloc _, Bx.at (by simp), ((Below.refl _ _).alloc (Nat.le_refl _) _).alloc (by simp) _⟩ ?_
  rintro Wx ⟨bx0, bx1, HB⟩
  replace HB := Lib.hid HB
  refine wp_seq ?_
  have lx0 := bx0.cells
  have lx1 := bx1.cells
  have BX0 := Lib.hid bx0
  have BX1 := Lib.hid bx1
  clear bx0 bx1
  refine sK fun K hK => ?_
  have HS0 := Lib.hid (HB.out.size)
  have MX0 : w.heap.size < Wx.heap.size := BX0.out.lt
  have MX1 : w.heap.size + 1 < Wx.heap.size := BX1.out.lt
  refine wp_region_seqplan 5 [(true, 0), (true, 1), (false, 2), (true, 3), (true, 4)] (by rfl) (by simp) (fun T hT => ?_)
  iterate 2 (refine wpPlan_takeL (v := ?_) rfl (by rfl) (fun w' hw => ?_) ?_; rotate_left; go_simp; with_reducible rfl; simp only [Act.put, rA, rB, rC])
  refine wpPlan_slice (cs := #[.bool (bbx), (.slice ao_x kx c_x), .bool (bby), (.slice ao_y ky c_y)]) (E := 24) (n := 2) rfl (by rfl) (fun w' hw => ?_) (fun gx2 vv1 hg0 yx2 bx2 => ?_)
  · go_simp
  have HG0 := Lib.hid hg0; clear hg0
  replace yx2 : w.heap.size ≤ gx2 := by first | exact Nat.le_trans HS0.out yx2 | exact Nat.le_trans HB.out.size yx2
  have BX2 := Lib.hid bx2; clear bx2
  replace BX0 := bG BX0 HG0
  replace BX1 := bG BX1 HG0
  replace HB := Lib.hid (HB.out.trans (HG0.out.mono HB.out.size))
  clear HG0
  clear lx0; have lx0 := BX0.out.cells
  clear lx1; have lx1 := BX1.out.cells
  simp only [Act.put, rA, rB, rC]
  refine wpPlan_callL rfl (by rfl) Tryz.call6 (fun w' hw => few2_no0 _ _ _ _ _ _ _ _ 10 gx2 _ (BX2.out.gr hw) (by omega)) (by rfl) ?_
  simp only [Act.put, rA, rB, rC]
  refine wpPlan_takeL (v := ?_) rfl (by rfl) (fun w' hw => ?_) ?_; rotate_left; go_simp; with_reducible rfl; simp only [Act.put, rA, rB, rC]
  refine wpPlan_nil (hT.out _ _ ?_); clear hT T
  intro vw1 hg
  simp only [puts, Act.put, rA, rB, rC, rD, rE, ↓reduceIte, Nat.reduceEqDiff]
  clear lx0 lx1
  clear BX2
  have HG := Lib.hid (hg)
  clear hg
  replace BX0 := bG BX0 HG
  replace BX1 := bG BX1 HG
  have r0 := Gr.refl vw1
  go_wp2
  refine hK.out _ _ ?_; clear hK K
  show Code.wp _ _ _ _ _
  clear r0
  refine forgetW (fun w2 => Bx w2 (w.heap.size) 24 #[.bool (bbx), (.slice ao_x kx c_x)] ∧ Bx w2 (w.heap.size + 1) 24 #[.bool (bby), (.slice ao_y ky c_y)] ∧ Below w.heap.size w w2) ⟨BX0.out, BX1.out, HB.out.trans (HG.out.mono HB.out.size)⟩ ?_
  clear HB HG BX0 BX1
  rintro Wx1 ⟨bx0, bx1, HB⟩
  replace HB := Lib.hid HB
  refine wp_cond_true (by rfl) ?_
  have BX0 := Lib.hid bx0
  have BX1 := Lib.hid bx1
  clear bx0 bx1
  refine sK fun K hK => ?_
  refine wp_region_seqplan 2 [(true, 0), (true, 1)] (by rfl) (by simp) (fun T hT => ?_)
  refine wpPlan_callL rfl (by rfl) Tryz.call7 (fun w' hw => worksz_any _ (Lib.hid (HT.out.gr (Gr.trans HB.out hw)))) (by rfl) ?_
  simp only [Act.put, rA, rB, rC]
  refine wpPlan_takeL (v := ?_) rfl (by rfl) (fun w' hw => ?_) ?_; rotate_left; go_simp; with_reducible rfl; simp only [Act.put, rA, rB, rC]
  refine wpPlan_nil (hT.out _ _ ?_); clear hT T
  intro vw2 hg
  simp only [puts, Act.put, rA, rB, rC, rD, rE, ↓reduceIte, Nat.reduceEqDiff]
  have HG := Lib.hid (hg)
  clear hg
  replace BX0 := bG BX0 HG
  replace BX1 := bG BX1 HG
  have r0 := Gr.refl vw2
  go_wp2
  refine hK.out _ _ ?_; clear hK K
  show Code.wp _ _ _ _ _
  clear r0
  refine forgetW (fun w2 => Bx w2 (w.heap.size) 24 #[.bool (bbx), (.slice ao_x kx c_x)] ∧ Bx w2 (w.heap.size + 1) 24 #[.bool (bby), (.slice ao_y ky c_y)] ∧ Below w.heap.size w w2) ⟨BX0.out, BX1.out, HB.out.trans (HG.out.mono HB.out.size)⟩ ?_
  clear HB HG BX0 BX1
  rintro Wx2 ⟨bx0, bx1, HB⟩
  replace HB := Lib.hid HB
  refine wp_ret ?_
  try simp only [Exit.then, Exit.inBlock]
  have r0 := Gr.refl Wx2
  exact bodyPost_ret (v := .bool true) (by simp [results, Tryz.results3, go_sem]) rfl ⟨rfl, HB.out⟩

set_option maxRecDepth 100000 in
set_option maxHeartbeats 4000000 in
theorem divz_big2 (bbx : Bool) (vx : Value) (kx : Nat) (fx : Nat → Nat) (mx : Nat) (bby : Bool) (vy : Value) (ky : Nat) (fy : Nat → Nat) (my : Nat) (a b : Int)  (w : World) (HWx : Hid (Wa w vx kx fx)) (HFx : Hid (∀ i, i < kx → fx i < 4294967296)) (HVx : Hid (vl fx kx = mx)) (HAx : Hid ((if bbx then -((mx : Nat) : Int) else ((mx : Nat) : Int)) = a)) (HWy : Hid (Wa w vy ky fy)) (HFy : Hid (∀ i, i < ky → fy i < 4294967296)) (HVy : Hid (vl fy ky = my)) (HAy : Hid ((if bby then -((my : Nat) : Int) else ((my : Nat) : Int)) = b)) (hkx : kx ≤ 10) (hky : 10 < ky) (HT : Hid (Tab w)) :
    Calls Tryz.prog 3 #[.agg #[.bool bbx, vx], .agg #[.bool bby, vy]] w fun e w' => e = .returned (.bool true) ∧ Below w.heap.size w w' := by
  obtain ⟨ao_x, c_x, rfl⟩ := HWx.out.slice
  obtain ⟨ao_y, c_y, rfl⟩ := HWy.out.slice
  go_enter Tryz.func3, Tryz.ntmps3
  refine sK fun K hK => ?_
  refine wp_region_lit ?_
  go_wp2
  refine hK.out _ _ ?_; clear hK K
  show Code.wp _ _ _ _ _
  refine forgetW (fun w2 => Bx w2 (w.heap.size) 24 #[.bool (bbx), (.slice ao_x kx c_x)] ∧ Bx w2 (w.heap.size + 1) 24 #[.bool (bby), (.slice ao_y ky c_y)] ∧ Below w.heap.size w w2) ⟨(Bx.at rfl).alloc _, Bx.at (by simp), ((Below.refl _ _).alloc (Nat.le_refl _) _).alloc (by simp) _⟩ ?_
  rintro Wx ⟨bx0, bx1, HB⟩
  replace HB := Lib.hid HB
  refine wp_seq ?_
  have lx0 := bx0.cells
  have lx1 := bx1.cells
  have BX0 := Lib.hid bx0
  have BX1 := Lib.hid bx1
  clear bx0 bx1
  refine sK fun K hK => ?_
  have HS0 := Lib.hid (HB.out.size)
  have MX0 : w.heap.size < Wx.heap.size := BX0.out.lt
  have MX1 : w.heap.size + 1 < Wx.heap.size := BX1.out.lt
  refine wp_region_seqplan 5 [(true, 0), (true, 1), (false, 2), (true, 3), (true, 4)] (by rfl) (by simp) (fun T hT => ?_)
  iterate 2 (refine wpPlan_takeL (v := ?_) rfl (by rfl) (fun w' hw => ?_) ?_; rotate_left; go_simp; with_reducible rfl; simp only [Act.put, rA, rB, rC])
  refine wpPlan_slice (cs := #[.bool (bbx), (.slice ao_x kx c_x), .bool (bby), (.slice ao_y ky c_y)]) (E := 24) (n := 2) rfl (by rfl) (fun w' hw => ?_) (fun gx2 vv1 hg0 yx2 bx2 => ?_)
  · go_simp
  have HG0 := Lib.hid hg0; clear hg0
  replace yx2 : w.heap.size ≤ gx2 := by first | exact Nat.le_trans HS0.out yx2 | exact Nat.le_trans HB.out.size yx2
  have BX2 := Lib.hid bx2; clear bx2
  replace BX0 := bG BX0 HG0
  replace BX1 := bG BX1 HG0
  replace HB := Lib.hid (HB.out.trans (HG0.out.mono HB.out.size))
  clear HG0
  clear lx0; have lx0 := BX0.out.cells
  clear lx1; have lx1 := BX1.out.cells
  simp only [Act.put, rA, rB, rC]
  refine wpPlan_callL rfl (by rfl) Tryz.call6 (fun w' hw => few2_no1 _ _ _ _ _ _ _ _ 10 gx2 _ (BX2.out.gr hw) (by omega) (by omega)) (by rfl) ?_
  simp only [Act.put, rA, rB, rC]
  refine wpPlan_takeL (v := ?_) rfl (by rfl) (fun w' hw => ?_) ?_; rotate_left; go_simp; with_reducible rfl; simp only [Act.put, rA, rB, rC]
  refine wpPlan_nil (hT.out _ _ ?_); clear hT T
  intro vw1 hg
  simp only [puts, Act.put, rA, rB, rC, rD, rE, ↓reduceIte, Nat.reduceEqDiff]
  clear lx0 lx1
  clear BX2
  have HG := Lib.hid (hg)
  clear hg
  replace BX0 := bG BX0 HG
  replace BX1 := bG BX1 HG
  have r0 := Gr.refl vw1
  go_wp2
  refine hK.out _ _ ?_; clear hK K
  show Code.wp _ _ _ _ _
  clear r0
  refine forgetW (fun w2 => Bx w2 (w.heap.size) 24 #[.bool (bbx), (.slice ao_x kx c_x)] ∧ Bx w2 (w.heap.size + 1) 24 #[.bool (bby), (.slice ao_y ky c_y)] ∧ Below w.heap.size w w2) ⟨BX0.out, BX1.out, HB.out.trans (HG.out.mono HB.out.size)⟩ ?_
  clear HB HG BX0 BX1
  rintro Wx1 ⟨bx0, bx1, HB⟩
  replace HB := Lib.hid HB
  refine wp_cond_true (by rfl) ?_
  have BX0 := Lib.hid bx0
  have BX1 := Lib.hid bx1
  clear bx0 bx1
  refine sK fun K hK => ?_
  refine wp_region_seqplan 2 [(true, 0), (true, 1)] (by rfl) (by simp) (fun T hT => ?_)
  refine wpPlan_callL rfl (by rfl) Tryz.call7 (fun w' hw => worksz_any _ (Lib.hid (HT.out.gr (Gr.trans HB.out hw)))) (by rfl) ?_
  simp only [Act.put, rA, rB, rC]
  refine wpPlan_takeL (v := ?_) rfl (by rfl) (fun w' hw => ?_) ?_; rotate_left; go_simp; with_reducible rfl; simp only [Act.put, rA, rB, rC]
  refine wpPlan_nil (hT.out _ _ ?_); clear hT T
  intro vw2 hg
  simp only [puts, Act.put, rA, rB, rC, rD, rE, ↓reduceIte, Nat.reduceEqDiff]
  have HG := Lib.hid (hg)
  clear hg
  replace BX0 := bG BX0 HG
  replace BX1 := bG BX1 HG
  have r0 := Gr.refl vw2
  go_wp2
  refine hK.out _ _ ?_; clear hK K
  show Code.wp _ _ _ _ _
  clear r0
  refine forgetW (fun w2 => Bx w2 (w.heap.size) 24 #[.bool (bbx), (.slice ao_x kx c_x)] ∧ Bx w2 (w.heap.size + 1) 24 #[.bool (bby), (.slice ao_y ky c_y)] ∧ Below w.heap.size w w2) ⟨BX0.out, BX1.out, HB.out.trans (HG.out.mono HB.out.size)⟩ ?_
  clear HB HG BX0 BX1
  rintro Wx2 ⟨bx0, bx1, HB⟩
  replace HB := Lib.hid HB
  refine wp_ret ?_
  try simp only [Exit.then, Exit.inBlock]
  have r0 := Gr.refl Wx2
  exact bodyPost_ret (v := .bool true) (by simp [results, Tryz.results3, go_sem]) rfl ⟨rfl, HB.out⟩

theorem divz_law (bbx : Bool) (vx : Value) (kx : Nat) (fx : Nat → Nat) (bby : Bool) (vy : Value) (ky : Nat) (fy : Nat → Nat) (w : World) (HWx : Hid (Wa w vx kx fx)) (HFx : Hid (∀ i, i < kx → fx i < 4294967296)) (HWy : Hid (Wa w vy ky fy)) (HFy : Hid (∀ i, i < ky → fy i < 4294967296)) (HT : Hid (Tab w)) :
    Calls Tryz.prog 3 #[.agg #[.bool bbx, vx], .agg #[.bool bby, vy]] w fun e w' => e = .returned (.bool true) ∧ Below w.heap.size w w' := by
  obtain ⟨a, ha⟩ : ∃ z, Hid ((if bbx then -((vl fx kx : Nat) : Int) else ((vl fx kx : Nat) : Int)) = z) := ⟨_, Lib.hid rfl⟩
  obtain ⟨b, hb⟩ : ∃ z, Hid ((if bby then -((vl fy ky : Nat) : Int) else ((vl fy ky : Nat) : Int)) = z) := ⟨_, Lib.hid rfl⟩
  by_cases hkx : kx ≤ 10
  · skip
    by_cases hky : ky ≤ 10
    · skip
      by_cases h : b = 0
      · subst h
        exact divz_zero bbx vx kx fx _ bby vy ky fy _ a w HWx HFx (Lib.hid rfl) ha HWy HFy (Lib.hid rfl) hb hkx hky HT
      · exact divz_pos bbx vx kx fx _ bby vy ky fy _ a b _ w HWx HFx (Lib.hid rfl) ha HWy HFy (Lib.hid rfl) hb hkx hky h (Lib.hid rfl) (sgI_ne h) HT
    · exact divz_big2 bbx vx kx fx _ bby vy ky fy _ a b w HWx HFx (Lib.hid rfl) ha HWy HFy (Lib.hid rfl) hb hkx (by omega) HT
  · exact divz_big1 bbx vx kx fx _ bby vy ky fy _ a b w HWx HFx (Lib.hid rfl) ha HWy HFy (Lib.hid rfl) hb  (by omega) HT

end Go.Proofs.YtflhpdlecpehkaaGreatDoor
