
/- IntsDivides: the law's walk. -/
import Derived.Test.YtflhpdlecpehkaaDoorSh
import Derived.Test.YtflhpdlecpehkaaDoorWorksZ
namespace Go.Proofs.YtflhpdlecpehkaaDoor
open Go.RowKit
set_option linter.unusedSimpArgs false
set_option linter.unusedVariables false
attribute [local go_sem ↓] Go.wp_at_zero Go.wp_at_succ
attribute [local go_sem ↓] eq_nat eq_nat_zero eq_int
set_option maxRecDepth 100000 in
set_option maxHeartbeats 4000000 in
theorem dvz_zero (bbx : Bool) (vx : Value) (kx : Nat) (fx : Nat → Nat) (mx : Nat) (bby : Bool) (vy : Value) (ky : Nat) (fy : Nat → Nat) (my : Nat) (bbz : Bool) (vz : Value) (kz : Nat) (fz : Nat → Nat) (mz : Nat) (a c : Int)  (w : World) (HWx : Hid (Wa w vx kx fx)) (HFx : Hid (∀ i, i < kx → fx i < 4294967296)) (HVx : Hid (vl fx kx = mx)) (HAx : Hid ((if bbx then -((mx : Nat) : Int) else ((mx : Nat) : Int)) = a)) (HWy : Hid (Wa w vy ky fy)) (HFy : Hid (∀ i, i < ky → fy i < 4294967296)) (HVy : Hid (vl fy ky = my)) (HAy : Hid ((if bby then -((my : Nat) : Int) else ((my : Nat) : Int)) = 0)) (HWz : Hid (Wa w vz kz fz)) (HFz : Hid (∀ i, i < kz → fz i < 4294967296)) (HVz : Hid (vl fz kz = mz)) (HAz : Hid ((if bbz then -((mz : Nat) : Int) else ((mz : Nat) : Int)) = c)) (hkx : kx ≤ 16) (hky : ky ≤ 16) (hkz : kz ≤ 16) (HT : Hid (Tab w)) :
    Calls Tryd.prog 6 #[.agg #[.bool bbx, vx], .agg #[.bool bby, vy], .agg #[.bool bbz, vz]] w fun e w' => e = .returned (.bool true) ∧ Below w.heap.size w w' := by
  obtain ⟨ao_x, c_x, rfl⟩ := HWx.out.slice
  obtain ⟨ao_y, c_y, rfl⟩ := HWy.out.slice
  obtain ⟨ao_z, c_z, rfl⟩ := HWz.out.slice
  have hm_x : wl mx ≤ 16 := by rw [← HVx.out]; have := wl_le.2 (vl_lt HFx.out); omega
  have hb_x : wl (Int.natAbs (a)) ≤ 16 := by rw [zsize HAx.out]; exact hm_x
  have ht_x : tw (Int.natAbs (a)) ≤ 48 := by have := tw_wl (Int.natAbs (a)); omega
  have hm_y : wl my ≤ 16 := by rw [← HVy.out]; have := wl_le.2 (vl_lt HFy.out); omega
  have hb_y : wl (Int.natAbs (0)) ≤ 16 := by rw [zsize HAy.out]; exact hm_y
  have ht_y : tw (Int.natAbs (0)) ≤ 48 := by have := tw_wl (Int.natAbs (0)); omega
  have hm_z : wl mz ≤ 16 := by rw [← HVz.out]; have := wl_le.2 (vl_lt HFz.out); omega
  have hb_z : wl (Int.natAbs (c)) ≤ 16 := by rw [zsize HAz.out]; exact hm_z
  have ht_z : tw (Int.natAbs (c)) ≤ 48 := by have := tw_wl (Int.natAbs (c)); omega
  go_enter Tryd.func6, Tryd.ntmps6
  refine sK fun K hK => ?_
  refine wp_region_lit ?_
  go_wp2
  refine hK.out _ _ ?_; clear hK K
  show Code.wp _ _ _ _ _
  refine forgetW (fun w2 => Bx w2 (w.heap.size) 45 #[.bool (bbx), (.slice ao_x kx c_x)] ∧ Bx w2 (w.heap.size + 1) 45 #[.bool (bby), (.slice ao_y ky c_y)] ∧ Bx w2 (w.heap.size + 1 + 1) 45 #[.bool (bbz), (.slice ao_z kz c_z)] ∧ Below w.heap.size w w2) ⟨((Bx.at rfl).alloc _).alloc _, (Bx.at (by simp)).alloc _, Bx.at (by simp), (((Below.refl _ _).alloc (Nat.le_refl _) _).alloc (by simp) _).alloc (by simp; omega) _⟩ ?_
  rintro Wx ⟨bx0, bx1, bx2, HB⟩
  replace HB := Lib.hid HB
  refine wp_seq ?_
  have lx0 := bx0.cells
  have lx1 := bx1.cells
  have lx2 := bx2.cells
  have BX0 := Lib.hid bx0
  have BX1 := Lib.hid bx1
  have BX2 := Lib.hid bx2
  clear bx0 bx1 bx2
  refine sK fun K hK => ?_
  have HS0 := Lib.hid (HB.out.size)
  have MX0 : w.heap.size < Wx.heap.size := BX0.out.lt
  have MX1 : w.heap.size + 1 < Wx.heap.size := BX1.out.lt
  have MX2 : w.heap.size + 1 + 1 < Wx.heap.size := BX2.out.lt
  refine wp_region_seqplan 6 [(true, 0), (true, 1), (true, 2), (false, 3), (true, 4), (true, 5)] (by rfl) (by simp) (fun T hT => ?_)
  iterate 3 (refine wpPlan_takeL (v := ?_) rfl (by rfl) (fun w' hw => ?_) ?_; rotate_left; go_simp; with_reducible rfl; simp only [Act.put, rA, rB, rC])
  refine wpPlan_slice (cs := #[.bool (bbx), (.slice ao_x kx c_x), .bool (bby), (.slice ao_y ky c_y), .bool (bbz), (.slice ao_z kz c_z)]) (E := 45) (n := 3) rfl (by rfl) (fun w' hw => ?_) (fun gx3 vv1 hg0 yx3 bx3 => ?_)
  · go_simp
  have HG0 := Lib.hid hg0; clear hg0
  replace yx3 : w.heap.size ≤ gx3 := by first | exact Nat.le_trans HS0.out yx3 | exact Nat.le_trans HB.out.size yx3
  have BX3 := Lib.hid bx3; clear bx3
  replace BX0 := bG BX0 HG0
  replace BX1 := bG BX1 HG0
  replace BX2 := bG BX2 HG0
  replace HB := Lib.hid (HB.out.trans (HG0.out.mono HB.out.size))
  clear HG0
  clear lx0; have lx0 := BX0.out.cells
  clear lx1; have lx1 := BX1.out.cells
  clear lx2; have lx2 := BX2.out.cells
  simp only [Act.put, rA, rB, rC]
  refine wpPlan_callL rfl (by rfl) Tryd.call14 (fun w' hw => few3_ok _ _ _ _ _ _ _ _ _ _ _ _ 16 gx3 _ (BX3.out.gr hw) (by omega) (by omega) (by omega)) (by rfl) ?_
  simp only [Act.put, rA, rB, rC]
  refine wpPlan_takeL (v := ?_) rfl (by rfl) (fun w' hw => ?_) ?_; rotate_left; go_simp; with_reducible rfl; simp only [Act.put, rA, rB, rC]
  refine wpPlan_nil (hT.out _ _ ?_); clear hT T
  intro vw1 hg
  simp only [puts, Act.put, rA, rB, rC, rD, rE, ↓reduceIte, Nat.reduceEqDiff]
  clear lx0 lx1 lx2
  clear BX3
  have HG := Lib.hid (hg)
  clear hg
  replace BX0 := bG BX0 HG
  replace BX1 := bG BX1 HG
  replace BX2 := bG BX2 HG
  have r0 := Gr.refl vw1
  go_wp2
  refine hK.out _ _ ?_; clear hK K
  show Code.wp _ _ _ _ _
  clear r0
  refine forgetW (fun w2 => Bx w2 (w.heap.size) 45 #[.bool (bbx), (.slice ao_x kx c_x)] ∧ Bx w2 (w.heap.size + 1) 45 #[.bool (bby), (.slice ao_y ky c_y)] ∧ Bx w2 (w.heap.size + 1 + 1) 45 #[.bool (bbz), (.slice ao_z kz c_z)] ∧ Below w.heap.size w w2) ⟨BX0.out, BX1.out, BX2.out, HB.out.trans (HG.out.mono HB.out.size)⟩ ?_
  clear HB HG BX0 BX1 BX2
  rintro Wx1 ⟨bx0, bx1, bx2, HB⟩
  replace HB := Lib.hid HB
  refine wp_cond_false (by rfl) ?_
  refine wp_skip ?_
  show Code.wp _ _ _ _ _
  have lx0 := bx0.cells
  have lx1 := bx1.cells
  have lx2 := bx2.cells
  have BX0 := Lib.hid bx0
  have BX1 := Lib.hid bx1
  have BX2 := Lib.hid bx2
  clear bx0 bx1 bx2
  refine sK fun K hK => ?_
  refine wp_region_plan 9 [6, 7, 8] [] (fun i => if i = 6 then 7 else if i = 7 then 8 else 9) (fun i => if i = 6 then .cells #[.int .u64 0, .string ⟨#[]⟩, .bool false] 29 else if i = 7 then .cells #[.int .u64 0, .string ⟨#[]⟩, .bool false] 29 else .cells #[.int .u64 0, .string ⟨#[]⟩, .bool false] 29) [(true, 0), (true, 2), (true, 4), (true, 1), (true, 3), (true, 5)] (by kernel_rfl) (by kernel_rfl) (by intro i hi; simp only [List.mem_cons, List.not_mem_nil, or_false] at hi; rcases hi with rfl | rfl | rfl <;> exact ⟨_, rfl, rfl, rfl, by simp, fun ρ w => by kernel_rfl⟩) (fun i hi => by cases hi) (fun _ _ _ _ _ h => h) (fun T hT => ?_)
  iterate 3 (refine wpPlan_takeL (v := ?_) rfl (by rfl) (fun w' hw => ?_) ?_; rotate_left; go_simp; with_reducible rfl; simp only [Act.put, rA, rB, rC])
  refine wpPlan_callL rfl (by rfl) Tryd.call15 (fun w' hw => zlof bbx kx fx mx a ao_x c_x w' (Lib.hid (HWx.out.gr (Gr.trans HB.out hw))) HFx HVx HAx (by first | omega | exact wlc (by decide)) (by first | omega | exact wlc (by decide))) (by rfl) ?_
  simp only [Act.put, rA, rB, rC]
  refine wpPlan_callL rfl (by rfl) Tryd.call15 (fun w' hw => zlof bby ky fy my 0 ao_y c_y w' (Lib.hid (HWy.out.gr (Gr.trans HB.out hw))) HFy HVy HAy (by first | omega | exact wlc (by decide)) (by first | omega | exact wlc (by decide))) (by rfl) ?_
  simp only [Act.put, rA, rB, rC]
  refine wpPlan_callL rfl (by rfl) Tryd.call15 (fun w' hw => zlof bbz kz fz mz c ao_z c_z w' (Lib.hid (HWz.out.gr (Gr.trans HB.out hw))) HFz HVz HAz (by first | omega | exact wlc (by decide)) (by first | omega | exact wlc (by decide))) (by rfl) ?_
  simp only [Act.put, rA, rB, rC]
  refine wpPlan_nil (hT.out _ _ ?_); clear hT T
  intro G vw2 hg hf
  simp only [puts, Act.put, rA, rB, rC, rD, rE, ↓reduceIte, Nat.reduceEqDiff]
  clear lx0 lx1 lx2
  have HG := Lib.hid (hg)
  clear hg
  have bx4 := Bx.of_fresh hf (i := 6) (by decide) rfl
  have yx4 := (hf.1 6 (by decide)).1
  have bx5 := Bx.of_fresh hf (i := 7) (by decide) rfl
  have yx5 := (hf.1 7 (by decide)).1
  have dx4_5 : G 6 ≠ G 7 := fun e => absurd (hf.2 6 (by decide) 7 (by decide) e) (by decide)
  have bx6 := Bx.of_fresh hf (i := 8) (by decide) rfl
  have yx6 := (hf.1 8 (by decide)).1
  have dx4_6 : G 6 ≠ G 8 := fun e => absurd (hf.2 6 (by decide) 8 (by decide) e) (by decide)
  have dx5_6 : G 7 ≠ G 8 := fun e => absurd (hf.2 7 (by decide) 8 (by decide) e) (by decide)
  clear hf
  generalize G 6 = gx4 at *
  generalize G 7 = gx5 at *
  generalize G 8 = gx6 at *
  have qx0_4 : w.heap.size < gx4 := Nat.lt_of_lt_of_le BX0.out.lt yx4
  have qx0_5 : w.heap.size < gx5 := Nat.lt_of_lt_of_le BX0.out.lt yx5
  have qx0_6 : w.heap.size < gx6 := Nat.lt_of_lt_of_le BX0.out.lt yx6
  have qx1_4 : w.heap.size + 1 < gx4 := Nat.lt_of_lt_of_le BX1.out.lt yx4
  have qx1_5 : w.heap.size + 1 < gx5 := Nat.lt_of_lt_of_le BX1.out.lt yx5
  have qx1_6 : w.heap.size + 1 < gx6 := Nat.lt_of_lt_of_le BX1.out.lt yx6
  have qx2_4 : w.heap.size + 1 + 1 < gx4 := Nat.lt_of_lt_of_le BX2.out.lt yx4
  have qx2_5 : w.heap.size + 1 + 1 < gx5 := Nat.lt_of_lt_of_le BX2.out.lt yx5
  have qx2_6 : w.heap.size + 1 + 1 < gx6 := Nat.lt_of_lt_of_le BX2.out.lt yx6
  replace yx4 : w.heap.size ≤ gx4 := Nat.le_trans HB.out.size yx4
  replace yx5 : w.heap.size ≤ gx5 := Nat.le_trans HB.out.size yx5
  replace yx6 : w.heap.size ≤ gx6 := Nat.le_trans HB.out.size yx6
  replace BX0 := bG BX0 HG
  replace BX1 := bG BX1 HG
  replace BX2 := bG BX2 HG
  have lx4 := bx4.cells; have fx4 := bx4.free
  have lx5 := bx5.cells; have fx5 := bx5.free
  have lx6 := bx6.cells; have fx6 := bx6.free
  have r0 := Gr.refl vw2
  have BX4 := Lib.hid bx4; clear bx4
  have BX5 := Lib.hid bx5; clear bx5
  have BX6 := Lib.hid bx6; clear bx6
  go_wp2
  refine hK.out _ _ ?_; clear hK K
  show Code.wp _ _ _ _ _
  clear lx4 fx4
  clear lx5 fx5
  clear lx6 fx6
  clear r0
  refine forgetW (fun w2 => Bx w2 gx4 29 #[.int .u64 (lo (Int.natAbs (a))), .string (bg (Int.natAbs (a))), .bool (decide ((a) < 0))] ∧ Bx w2 gx5 29 #[.int .u64 (lo (Int.natAbs (0))), .string (bg (Int.natAbs (0))), .bool (decide ((0) < 0))] ∧ Bx w2 gx6 29 #[.int .u64 (lo (Int.natAbs (c))), .string (bg (Int.natAbs (c))), .bool (decide ((c) < 0))] ∧ Below w.heap.size w w2) ⟨(so3 (so3 ((((BX4.out).set 0 _).set 1 _).set 2 _) (by show gx4 ≠ gx5; omega)) (by show gx4 ≠ gx6; omega)).eq (by simp only [rA, rB, rC]), (so3 ((((so3 (BX5.out) (by show gx5 ≠ gx4; omega)).set 0 _).set 1 _).set 2 _) (by show gx5 ≠ gx6; omega)).eq (by first | (simp only [List.setIfInBounds_toArray, List.set_cons_zero, List.set_cons_succ]; done) | simp [lo_zero, bg_zero]), ((((so3 (so3 (BX6.out) (by show gx6 ≠ gx4; omega)) (by show gx6 ≠ gx5; omega)).set 0 _).set 1 _).set 2 _).eq (by simp only [rA, rB, rC]), sc3 (sc3 (sc3 (HB.out.trans (HG.out.mono HB.out.size)) (by show w.heap.size ≤ gx4; omega)) (by show w.heap.size ≤ gx5; omega)) (by show w.heap.size ≤ gx6; omega)⟩ ?_
  clear HB HG BX0 BX1 BX2 BX4 BX5 BX6
  rintro Wx3 ⟨bx4, bx5, bx6, HB⟩
  replace HB := Lib.hid HB
  obtain ⟨u1, HZ1⟩ : ∃ z, Hid ((egcd (a) (0)).1 = z) := ⟨_, Lib.hid rfl⟩
  have su1 : wl (Int.natAbs (u1)) ≤ 20 := by rw [← HZ1.out]; have := wl_egcd (a := a) (b := 0) (M := 16) (by first | omega | exact wlc (by decide)) (by first | omega | exact wlc (by decide)) (by decide); omega
  obtain ⟨u2, HZ2⟩ : ∃ z, Hid ((egcd (a) (0)).2.1 = z) := ⟨_, Lib.hid rfl⟩
  have su2 : wl (Int.natAbs (u2)) ≤ 20 := by rw [← HZ2.out]; have := wl_egcd (a := a) (b := 0) (M := 16) (by first | omega | exact wlc (by decide)) (by first | omega | exact wlc (by decide)) (by decide); omega
  have HZ3 : Hid ((egcd (a) (0)).2.2 = 0) := Lib.hid (by first | rfl | omega | (simp; done) | exact eg0 _ | (rw [egcd_zero]; done) | (rw [egcd_zero]; simp; done) | exact elt _ _ (by assumption) | exact zback _ | exact eg_comb _ _ | exact eg_abs _ _ | exact idv0 _ _ | exact idv1 _ _ _ (by assumption) | exact idv2 _ _ _ | (simp only [← HZ2.out, ← HZ1.out] <;> first | rfl | omega | (simp; done) | exact eg0 _ | (rw [egcd_zero]; done) | (rw [egcd_zero]; simp; done) | exact elt _ _ (by assumption) | exact zback _ | exact eg_comb _ _ | exact eg_abs _ _ | exact idv0 _ _ | exact idv1 _ _ _ (by assumption) | exact idv2 _ _ _ | grind))
  have su3 : wl (Int.natAbs (0)) ≤ 20 := by have e := HZ3.out; first | omega | (rw [← e]; have := wl_egcd (a := a) (b := 0) (M := 16) (by first | omega | exact wlc (by decide)) (by first | omega | exact wlc (by decide)) (by decide); omega) | exact wl_le.2 (by decide +kernel)
  have lx4 := bx4.cells
  have lx5 := bx5.cells
  have BX4 := Lib.hid bx4
  have BX5 := Lib.hid bx5
  have BX6 := Lib.hid bx6
  clear bx4 bx5 bx6
  refine sK fun K hK => ?_
  refine wp_region_seqplan 7 [(true, 0), (true, 1), (true, 2), (true, 3), (true, 4), (true, 5), (true, 6)] (by rfl) (by simp) (fun T hT => ?_)
  iterate 2 (refine wpPlan_takeL (v := ?_) rfl (by rfl) (fun w' hw => ?_) ?_; rotate_left; go_simp; with_reducible rfl; simp only [Act.put, rA, rB, rC])
  refine wpPlan_callL rfl (by rfl) Tryd.call26 (fun w' hw => zigcd (a) (0) (u1) (u2) (0) _ HZ1.out HZ2.out HZ3.out (by first | omega | exact wlc (by decide)) (by first | omega | exact wlc (by decide))) (by rfl) ?_
  simp only [Act.put, rA, rB, rC]
  iterate 4 (refine wpPlan_takeL (v := ?_) rfl (by rfl) (fun w' hw => ?_) ?_; rotate_left; go_simp; with_reducible rfl; simp only [Act.put, rA, rB, rC])
  refine wpPlan_nil (hT.out _ _ ?_); clear hT T
  intro vw3 hg
  simp only [puts, Act.put, rA, rB, rC, rD, rE, ↓reduceIte, Nat.reduceEqDiff]
  clear lx4 lx5
  have HG := Lib.hid (hg)
  clear hg
  replace BX4 := bG BX4 HG
  replace BX5 := bG BX5 HG
  replace BX6 := bG BX6 HG
  have r0 := Gr.refl vw3
  go_wp2
  refine hK.out _ _ ?_; clear hK K
  show Code.wp _ _ _ _ _
  clear r0
  have hsz : w.heap.size ≤ vw3.heap.size := Nat.le_trans HB.out.size HG.out.size
  have mx4 : gx4 < vw3.heap.size := BX4.out.lt
  have mx5 : gx5 < vw3.heap.size := BX5.out.lt
  have mx6 : gx6 < vw3.heap.size := BX6.out.lt
  refine forgetW (fun w2 => Bx w2 gx4 29 #[.int .u64 (lo (Int.natAbs (a))), .string (bg (Int.natAbs (a))), .bool (decide ((a) < 0))] ∧ Bx w2 gx5 29 #[.int .u64 (lo (Int.natAbs (0))), .string (bg (Int.natAbs (0))), .bool (decide ((0) < 0))] ∧ Bx w2 gx6 29 #[.int .u64 (lo (Int.natAbs (c))), .string (bg (Int.natAbs (c))), .bool (decide ((c) < 0))] ∧ Bx w2 (vw3.heap.size) 29 #[.int .u64 (lo (Int.natAbs (u1))), .string (bg (Int.natAbs (u1))), .bool (decide ((u1) < 0))] ∧ Bx w2 (vw3.heap.size + 1) 29 #[.int .u64 (lo (Int.natAbs (u2))), .string (bg (Int.natAbs (u2))), .bool (decide ((u2) < 0))] ∧ Bx w2 (vw3.heap.size + 1 + 1) 29 #[.int .u64 (lo (Int.natAbs (0))), .string (bg (Int.natAbs (0))), .bool (decide ((0) < 0))] ∧ Below w.heap.size w w2) ⟨(((BX4.out).alloc _).alloc _).alloc _, (((BX5.out).alloc _).alloc _).alloc _, (((BX6.out).alloc _).alloc _).alloc _, (((Bx.at (by simp) : Bx _ (vw3.heap.size) _ _)).alloc _).alloc _, ((Bx.at (by simp) : Bx _ (vw3.heap.size + 1) _ _)).alloc _, (Bx.at (by simp) : Bx _ (vw3.heap.size + 1 + 1) _ _), (((HB.out.trans (HG.out.mono HB.out.size)).alloc (by first | omega | (simp; omega)) _).alloc (by first | omega | (simp; omega)) _).alloc (by first | omega | (simp; omega)) _⟩ ?_
  clear HB HG BX4 BX5 BX6
  rintro Wx4 ⟨bx4, bx5, bx6, bx7, bx8, bx9, HB⟩
  replace HB := Lib.hid HB
  have qx7_8 : vw3.heap.size < vw3.heap.size + 1 := by omega
  have qx7_9 : vw3.heap.size < vw3.heap.size + 1 + 1 := by omega
  have qx8_9 : vw3.heap.size + 1 < vw3.heap.size + 1 + 1 := by omega
  have yx9 : w.heap.size ≤ vw3.heap.size + 1 + 1 := by omega
  have qx4_9 : gx4 < vw3.heap.size + 1 + 1 := by omega
  have qx5_9 : gx5 < vw3.heap.size + 1 + 1 := by omega
  have qx6_9 : gx6 < vw3.heap.size + 1 + 1 := by omega
  generalize hx9 : vw3.heap.size + 1 + 1 = gx9 at *
  clear hx9
  have yx8 : w.heap.size ≤ vw3.heap.size + 1 := by omega
  have qx4_8 : gx4 < vw3.heap.size + 1 := by omega
  have qx5_8 : gx5 < vw3.heap.size + 1 := by omega
  have qx6_8 : gx6 < vw3.heap.size + 1 := by omega
  generalize hx8 : vw3.heap.size + 1 = gx8 at *
  clear hx8
  have yx7 : w.heap.size ≤ vw3.heap.size := by omega
  have qx4_7 : gx4 < vw3.heap.size := by omega
  have qx5_7 : gx5 < vw3.heap.size := by omega
  have qx6_7 : gx6 < vw3.heap.size := by omega
  generalize hx7 : vw3.heap.size = gx7 at *
  clear hx7
  clear hsz mx4 mx5 mx6
  refine wp_seq ?_
  have HZ4 : Hid ((a) * (u2) = u1) := Lib.hid (by first | rfl | omega | (simp; done) | exact eg0 _ | (rw [egcd_zero]; done) | (rw [egcd_zero]; simp; done) | exact elt _ _ (by assumption) | exact zback _ | exact eg_comb _ _ | exact eg_abs _ _ | exact idv0 _ _ | exact idv1 _ _ _ (by assumption) | exact idv2 _ _ _ | (simp only [← HZ2.out, ← HZ1.out] <;> first | rfl | omega | (simp; done) | exact eg0 _ | (rw [egcd_zero]; done) | (rw [egcd_zero]; simp; done) | exact elt _ _ (by assumption) | exact zback _ | exact eg_comb _ _ | exact eg_abs _ _ | exact idv0 _ _ | exact idv1 _ _ _ (by assumption) | exact idv2 _ _ _ | grind))
  have su4 : wl (Int.natAbs (u1)) ≤ 36 := by have e := HZ4.out; first | omega | (rw [← e]; have := wl_imul (a) (u2); omega)
  have HZ5 : Hid ((0 : Int) * (0) = 0) := Lib.hid (by first | rfl | omega | (simp; done) | exact eg0 _ | (rw [egcd_zero]; done) | (rw [egcd_zero]; simp; done) | exact elt _ _ (by assumption) | exact zback _ | exact eg_comb _ _ | exact eg_abs _ _ | exact idv0 _ _ | exact idv1 _ _ _ (by assumption) | exact idv2 _ _ _ | (simp only [← HZ2.out, ← HZ1.out] <;> first | rfl | omega | (simp; done) | exact eg0 _ | (rw [egcd_zero]; done) | (rw [egcd_zero]; simp; done) | exact elt _ _ (by assumption) | exact zback _ | exact eg_comb _ _ | exact eg_abs _ _ | exact idv0 _ _ | exact idv1 _ _ _ (by assumption) | exact idv2 _ _ _ | grind))
  have su5 : wl (Int.natAbs (0)) ≤ 36 := by have e := HZ5.out; first | omega | (rw [← e]; have := wl_imul (0) (0); omega) | exact wl_le.2 (by decide +kernel)
  have HZ6 : Hid ((u1) + (0) = u1) := Lib.hid (by first | rfl | omega | (simp; done) | exact eg0 _ | (rw [egcd_zero]; done) | (rw [egcd_zero]; simp; done) | exact elt _ _ (by assumption) | exact zback _ | exact eg_comb _ _ | exact eg_abs _ _ | exact idv0 _ _ | exact idv1 _ _ _ (by assumption) | exact idv2 _ _ _ | (simp only [← HZ2.out, ← HZ1.out] <;> first | rfl | omega | (simp; done) | exact eg0 _ | (rw [egcd_zero]; done) | (rw [egcd_zero]; simp; done) | exact elt _ _ (by assumption) | exact zback _ | exact eg_comb _ _ | exact eg_abs _ _ | exact idv0 _ _ | exact idv1 _ _ _ (by assumption) | exact idv2 _ _ _ | grind))
  have su6 : wl (Int.natAbs (u1)) ≤ 37 := by have e := HZ6.out; first | omega | (rw [← e]; have := wl_iadd (u1) (0); omega)
  obtain ⟨t7, HT7⟩ : ∃ z, Hid (sgI (u1) = z) := ⟨_, Lib.hid rfl⟩
  have ht7 : 0 ≤ t7 := by rw [← HT7.out]; exact sgI_nonneg (by simp only [← HZ2.out, ← HZ1.out]; exact eg_pos _ _)
  have hd1 : ¬ (t7 < 0) := by omega
  obtain ⟨u8, HZ8⟩ : ∃ z, Hid (Nat.gcd (Int.natAbs (a)) (Int.natAbs (0)) = z) := ⟨_, Lib.hid rfl⟩
  have su8 : wl (u8) ≤ 16 := by rw [← HZ8.out]; have := wl_gcd (Int.natAbs (a)) (Int.natAbs (0)); omega
  have hd2 : decide (Int.natAbs (u1) = u8) = true := decide_eq_true (by first | rfl | omega | (simp; done) | exact eg0 _ | (rw [egcd_zero]; done) | (rw [egcd_zero]; simp; done) | exact elt _ _ (by assumption) | exact zback _ | exact eg_comb _ _ | exact eg_abs _ _ | exact idv0 _ _ | exact idv1 _ _ _ (by assumption) | exact idv2 _ _ _ | (simp only [← HZ8.out, ← HZ2.out, ← HZ1.out] <;> first | rfl | omega | (simp; done) | exact eg0 _ | (rw [egcd_zero]; done) | (rw [egcd_zero]; simp; done) | exact elt _ _ (by assumption) | exact zback _ | exact eg_comb _ _ | exact eg_abs _ _ | exact idv0 _ _ | exact idv1 _ _ _ (by assumption) | exact idv2 _ _ _ | grind))
  have lx4 := bx4.cells
  have lx5 := bx5.cells
  have lx7 := bx7.cells
  have lx8 := bx8.cells
  have lx9 := bx9.cells
  have BX4 := Lib.hid bx4
  have BX5 := Lib.hid bx5
  have BX6 := Lib.hid bx6
  have BX7 := Lib.hid bx7
  have BX8 := Lib.hid bx8
  have BX9 := Lib.hid bx9
  clear bx4 bx5 bx6 bx7 bx8 bx9
  refine sK fun K hK => ?_
  refine wp_region_plan 23 [] [] (fun _ => 0) (fun _ => .cells #[] 0) [(true, 0), (true, 1), (true, 3), (true, 4), (true, 7), (true, 2), (true, 5), (true, 6), (true, 8), (true, 9), (true, 10), (true, 11), (true, 12), (true, 13), (true, 14), (true, 15), (true, 17), (true, 19), (true, 16), (true, 18), (true, 20), (true, 21), (true, 22)] (by kernel_rfl) (by kernel_rfl) (fun i hi => by cases hi) (fun i hi => by cases hi) (fun _ _ _ _ _ h => h) (fun T hT => ?_)
  iterate 5 (refine wpPlan_takeL (v := ?_) rfl (by rfl) (fun w' hw => ?_) ?_; rotate_left; go_simp; with_reducible rfl; simp only [Act.put, rA, rB, rC])
  refine wpPlan_callL rfl (by rfl) Tryd.call20 (fun w' hw => zimul (a) (u2) (u1) _ HZ4.out (by first | omega | exact wlc (by decide)) (by first | omega | exact wlc (by decide))) (by rfl) ?_
  simp only [Act.put, rA, rB, rC]
  refine wpPlan_callL rfl (by rfl) Tryd.call20 (fun w' hw => zimul (0) (0) (0) _ HZ5.out (by first | omega | exact wlc (by decide)) (by first | omega | exact wlc (by decide))) (by rfl) ?_
  simp only [Act.put, rA, rB, rC]
  refine wpPlan_callL rfl (by rfl) Tryd.call19 (fun w' hw => ziadd (u1) (0) (u1) _ HZ6.out (by first | omega | exact wlc (by decide)) (by first | omega | exact wlc (by decide))) (by rfl) ?_
  simp only [Act.put, rA, rB, rC]
  iterate 3 (refine wpPlan_takeL (v := ?_) rfl (by rfl) (fun w' hw => ?_) ?_; rotate_left; go_simp; with_reducible rfl; simp only [Act.put, rA, rB, rC])
  refine wpPlan_callL rfl (by rfl) Tryd.call16 (fun w' hw => zisign (u1) (t7) _ HT7.out) (by rfl) ?_
  simp only [Act.put, rA, rB, rC]
  iterate 6 (refine wpPlan_takeL (v := ?_) rfl (by rfl) (fun w' hw => ?_) ?_; rotate_left; go_simp; with_reducible rfl; simp only [Act.put, rA, rB, rC])
  refine wpPlan_callL rfl (by rfl) Tryd.call18 (fun w' hw => abs_any (u1) _) (by rfl) ?_
  simp only [Act.put, rA, rB, rC]
  refine wpPlan_callL rfl (by rfl) Tryd.call18 (fun w' hw => abs_any (a) _) (by rfl) ?_
  simp only [Act.put, rA, rB, rC]
  refine wpPlan_callL rfl (by rfl) Tryd.call18 (fun w' hw => abs_any (0) _) (by rfl) ?_
  simp only [Act.put, rA, rB, rC]
  refine wpPlan_callL rfl (by rfl) Tryd.call27 (fun w' hw => nzgcd (Int.natAbs (a)) (Int.natAbs (0)) (u8) _ HZ8.out (by first | omega | exact wlc (by decide)) (by first | omega | exact wlc (by decide))) (by rfl) ?_
  simp only [Act.put, rA, rB, rC]
  refine wpPlan_takeL (v := ?_) rfl (by rfl) (fun w' hw => ?_) ?_; rotate_left; go_simp; with_reducible rfl; simp only [Act.put, rA, rB, rC]
  refine wpPlan_nil (hT.out _ _ ?_); clear hT T
  intro G vw4 hg hf
  simp only [puts, Act.put, rA, rB, rC, rD, rE, ↓reduceIte, Nat.reduceEqDiff]
  clear lx4 lx5 lx7 lx8 lx9
  have HG := Lib.hid (hg)
  clear hg
  replace BX4 := bG BX4 HG
  replace BX5 := bG BX5 HG
  replace BX6 := bG BX6 HG
  replace BX7 := bG BX7 HG
  replace BX8 := bG BX8 HG
  replace BX9 := bG BX9 HG
  have r0 := Gr.refl vw4
  go_wp2
  refine hK.out _ _ ?_; clear hK K
  show Code.wp _ _ _ _ _
  clear r0
  refine forgetW (fun w2 => Bx w2 gx4 29 #[.int .u64 (lo (Int.natAbs (a))), .string (bg (Int.natAbs (a))), .bool (decide ((a) < 0))] ∧ Bx w2 gx5 29 #[.int .u64 (lo (Int.natAbs (0))), .string (bg (Int.natAbs (0))), .bool (decide ((0) < 0))] ∧ Bx w2 gx6 29 #[.int .u64 (lo (Int.natAbs (c))), .string (bg (Int.natAbs (c))), .bool (decide ((c) < 0))] ∧ Below w.heap.size w w2) ⟨BX4.out, BX5.out, BX6.out, HB.out.trans (HG.out.mono HB.out.size)⟩ ?_
  clear HB HG BX4 BX5 BX6 BX7 BX8 BX9
  rintro Wx5 ⟨bx4, bx5, bx6, HB⟩
  replace HB := Lib.hid HB
  clear ht7 hd1 hd2
  refine wp_cond_false (by rfl) ?_
  refine wp_skip ?_
  show Code.wp _ _ _ _ _
  have HZ9 : Hid ((if false then -((Int.natAbs (0) : Nat) : Int) else ((Int.natAbs (0) : Nat) : Int)) = 0) := Lib.hid (by first | rfl | omega | (simp; done) | exact eg0 _ | (rw [egcd_zero]; done) | (rw [egcd_zero]; simp; done) | exact elt _ _ (by assumption) | exact zback _ | exact eg_comb _ _ | exact eg_abs _ _ | exact idv0 _ _ | exact idv1 _ _ _ (by assumption) | exact idv2 _ _ _ | (simp only [← HZ8.out, ← HZ2.out, ← HZ1.out] <;> first | rfl | omega | (simp; done) | exact eg0 _ | (rw [egcd_zero]; done) | (rw [egcd_zero]; simp; done) | exact elt _ _ (by assumption) | exact zback _ | exact eg_comb _ _ | exact eg_abs _ _ | exact idv0 _ _ | exact idv1 _ _ _ (by assumption) | exact idv2 _ _ _ | grind))
  have su9 : wl (Int.natAbs (0)) ≤ 16 := by have e := HZ9.out; first | omega | (rw [← e]; split <;> simp <;> omega) | exact wl_le.2 (by decide +kernel)
  have lx5 := bx5.cells
  have BX4 := Lib.hid bx4
  have BX5 := Lib.hid bx5
  have BX6 := Lib.hid bx6
  clear bx4 bx5 bx6
  refine sK fun K hK => ?_
  refine wp_region_seqplan 3 [(true, 0), (true, 1), (true, 2)] (by rfl) (by simp) (fun T hT => ?_)
  refine wpPlan_takeL (v := ?_) rfl (by rfl) (fun w' hw => ?_) ?_; rotate_left; go_simp; with_reducible rfl; simp only [Act.put, rA, rB, rC]
  refine wpPlan_callL rfl (by rfl) Tryd.call18 (fun w' hw => abs_any (0) _) (by rfl) ?_
  simp only [Act.put, rA, rB, rC]
  refine wpPlan_callL rfl (by rfl) Tryd.call25 (fun w' hw => from_any false (Int.natAbs (0)) (0) _ HZ9.out) (by rfl) ?_
  simp only [Act.put, rA, rB, rC]
  refine wpPlan_nil (hT.out _ _ ?_); clear hT T
  intro vw5 hg
  simp only [puts, Act.put, rA, rB, rC, rD, rE, ↓reduceIte, Nat.reduceEqDiff]
  clear lx5
  have HG := Lib.hid (hg)
  clear hg
  replace BX4 := bG BX4 HG
  replace BX5 := bG BX5 HG
  replace BX6 := bG BX6 HG
  have r0 := Gr.refl vw5
  go_wp2
  refine hK.out _ _ ?_; clear hK K
  show Code.wp _ _ _ _ _
  clear r0
  have hsz : w.heap.size ≤ vw5.heap.size := Nat.le_trans HB.out.size HG.out.size
  have mx4 : gx4 < vw5.heap.size := BX4.out.lt
  have mx5 : gx5 < vw5.heap.size := BX5.out.lt
  have mx6 : gx6 < vw5.heap.size := BX6.out.lt
  refine forgetW (fun w2 => Bx w2 gx4 29 #[.int .u64 (lo (Int.natAbs (a))), .string (bg (Int.natAbs (a))), .bool (decide ((a) < 0))] ∧ Bx w2 gx5 29 #[.int .u64 (lo (Int.natAbs (0))), .string (bg (Int.natAbs (0))), .bool (decide ((0) < 0))] ∧ Bx w2 gx6 29 #[.int .u64 (lo (Int.natAbs (c))), .string (bg (Int.natAbs (c))), .bool (decide ((c) < 0))] ∧ Bx w2 (vw5.heap.size) 29 #[.int .u64 (lo (Int.natAbs (0))), .string (bg (Int.natAbs (0))), .bool (decide ((0) < 0))] ∧ Below w.heap.size w w2) ⟨(BX4.out).alloc _, (BX5.out).alloc _, (BX6.out).alloc _, (Bx.at (by simp) : Bx _ (vw5.heap.size) _ _), (HB.out.trans (HG.out.mono HB.out.size)).alloc (by first | omega | (simp; omega)) _⟩ ?_
  clear HB HG BX4 BX5 BX6
  rintro Wx7 ⟨bx4, bx5, bx6, bx10, HB⟩
  replace HB := Lib.hid HB
  have yx10 : w.heap.size ≤ vw5.heap.size := by omega
  have qx4_10 : gx4 < vw5.heap.size := by omega
  have qx5_10 : gx5 < vw5.heap.size := by omega
  have qx6_10 : gx6 < vw5.heap.size := by omega
  generalize hx10 : vw5.heap.size = gx10 at *
  clear hx10
  clear hsz mx4 mx5 mx6
  have lx4 := bx4.cells
  have lx5 := bx5.cells
  have BX4 := Lib.hid bx4
  have BX5 := Lib.hid bx5
  have BX6 := Lib.hid bx6
  have BX10 := Lib.hid bx10
  clear bx4 bx5 bx6 bx10
  refine sK fun K hK => ?_
  refine wp_region_seqplan 7 [(true, 0), (true, 1), (true, 2), (true, 3), (true, 4), (true, 5), (true, 6)] (by rfl) (by simp) (fun T hT => ?_)
  iterate 2 (refine wpPlan_takeL (v := ?_) rfl (by rfl) (fun w' hw => ?_) ?_; rotate_left; go_simp; with_reducible rfl; simp only [Act.put, rA, rB, rC])
  refine wpPlan_callL rfl (by rfl) Tryd.call28 (fun w' hw => zidivno (a) (0) _ (by first | rfl | omega | (simp; done) | exact eg0 _ | (rw [egcd_zero]; done) | (rw [egcd_zero]; simp; done) | exact elt _ _ (by assumption) | exact zback _ | exact eg_comb _ _ | exact eg_abs _ _ | exact idv0 _ _ | exact idv1 _ _ _ (by assumption) | exact idv2 _ _ _ | (simp only [← HZ8.out, ← HZ2.out, ← HZ1.out] <;> first | rfl | omega | (simp; done) | exact eg0 _ | (rw [egcd_zero]; done) | (rw [egcd_zero]; simp; done) | exact elt _ _ (by assumption) | exact zback _ | exact eg_comb _ _ | exact eg_abs _ _ | exact idv0 _ _ | exact idv1 _ _ _ (by assumption) | exact idv2 _ _ _ | grind)) (by first | omega | exact wlc (by decide)) (by first | omega | exact wlc (by decide))) (by rfl) ?_
  simp only [Act.put, rA, rB, rC]
  iterate 4 (refine wpPlan_takeL (v := ?_) rfl (by rfl) (fun w' hw => ?_) ?_; rotate_left; go_simp; with_reducible rfl; simp only [Act.put, rA, rB, rC])
  refine wpPlan_nil (hT.out _ _ ?_); clear hT T
  intro vw6 hg
  simp only [puts, Act.put, rA, rB, rC, rD, rE, ↓reduceIte, Nat.reduceEqDiff]
  clear lx4 lx5
  have HG := Lib.hid (hg)
  clear hg
  replace BX4 := bG BX4 HG
  replace BX5 := bG BX5 HG
  replace BX6 := bG BX6 HG
  replace BX10 := bG BX10 HG
  have r0 := Gr.refl vw6
  go_wp2
  refine hK.out _ _ ?_; clear hK K
  show Code.wp _ _ _ _ _
  clear r0
  have hsz : w.heap.size ≤ vw6.heap.size := Nat.le_trans HB.out.size HG.out.size
  have mx4 : gx4 < vw6.heap.size := BX4.out.lt
  have mx5 : gx5 < vw6.heap.size := BX5.out.lt
  have mx6 : gx6 < vw6.heap.size := BX6.out.lt
  have mx10 : gx10 < vw6.heap.size := BX10.out.lt
  refine forgetW (fun w2 => Bx w2 gx4 29 #[.int .u64 (lo (Int.natAbs (a))), .string (bg (Int.natAbs (a))), .bool (decide ((a) < 0))] ∧ Bx w2 gx5 29 #[.int .u64 (lo (Int.natAbs (0))), .string (bg (Int.natAbs (0))), .bool (decide ((0) < 0))] ∧ Bx w2 gx6 29 #[.int .u64 (lo (Int.natAbs (c))), .string (bg (Int.natAbs (c))), .bool (decide ((c) < 0))] ∧ Bx w2 gx10 29 #[.int .u64 (lo (Int.natAbs (0))), .string (bg (Int.natAbs (0))), .bool (decide ((0) < 0))] ∧ Bx w2 (vw6.heap.size) 29 #[.int .u64 (lo (Int.natAbs (0))), .string (bg (Int.natAbs (0))), .bool (decide ((0) < 0))] ∧ Bx w2 (vw6.heap.size + 1) 29 #[.int .u64 (lo (Int.natAbs (0))), .string (bg (Int.natAbs (0))), .bool (decide ((0) < 0))] ∧ Below w.heap.size w w2) ⟨((BX4.out).alloc _).alloc _, ((BX5.out).alloc _).alloc _, ((BX6.out).alloc _).alloc _, ((BX10.out).alloc _).alloc _, ((Bx.at (by simp) : Bx _ (vw6.heap.size) _ _)).alloc _, (Bx.at (by simp) : Bx _ (vw6.heap.size + 1) _ _), ((HB.out.trans (HG.out.mono HB.out.size)).alloc (by first | omega | (simp; omega)) _).alloc (by first | omega | (simp; omega)) _⟩ ?_
  clear HB HG BX4 BX5 BX6 BX10
  rintro Wx8 ⟨bx4, bx5, bx6, bx10, bx11, bx12, HB⟩
  replace HB := Lib.hid HB
  have qx11_12 : vw6.heap.size < vw6.heap.size + 1 := by omega
  have yx12 : w.heap.size ≤ vw6.heap.size + 1 := by omega
  have qx4_12 : gx4 < vw6.heap.size + 1 := by omega
  have qx5_12 : gx5 < vw6.heap.size + 1 := by omega
  have qx6_12 : gx6 < vw6.heap.size + 1 := by omega
  have qx10_12 : gx10 < vw6.heap.size + 1 := by omega
  generalize hx12 : vw6.heap.size + 1 = gx12 at *
  clear hx12
  have yx11 : w.heap.size ≤ vw6.heap.size := by omega
  have qx4_11 : gx4 < vw6.heap.size := by omega
  have qx5_11 : gx5 < vw6.heap.size := by omega
  have qx6_11 : gx6 < vw6.heap.size := by omega
  have qx10_11 : gx10 < vw6.heap.size := by omega
  generalize hx11 : vw6.heap.size = gx11 at *
  clear hx11
  clear hsz mx4 mx5 mx6 mx10
  refine wp_seq ?_
  have lx5 := bx5.cells
  have BX4 := Lib.hid bx4
  have BX5 := Lib.hid bx5
  have BX6 := Lib.hid bx6
  have BX10 := Lib.hid bx10
  have BX11 := Lib.hid bx11
  have BX12 := Lib.hid bx12
  clear bx4 bx5 bx6 bx10 bx11 bx12
  refine sK fun K hK => ?_
  refine wp_region_seqplan 2 [(true, 0), (true, 1)] (by rfl) (by simp) (fun T hT => ?_)
  refine wpPlan_takeL (v := ?_) rfl (by rfl) (fun w' hw => ?_) ?_; rotate_left; go_simp; with_reducible rfl; simp only [Act.put, rA, rB, rC]
  refine wpPlan_callL rfl (by rfl) Tryd.call13 (fun w' hw => is_any (0) (0) true _ (Lib.hid (decide_eq_true (by decide))) (by decide) (by decide)) (by rfl) ?_
  simp only [Act.put, rA, rB, rC]
  refine wpPlan_nil (hT.out _ _ ?_); clear hT T
  intro vw7 hg
  simp only [puts, Act.put, rA, rB, rC, rD, rE, ↓reduceIte, Nat.reduceEqDiff]
  clear lx5
  have HG := Lib.hid (hg)
  clear hg
  replace BX4 := bG BX4 HG
  replace BX5 := bG BX5 HG
  replace BX6 := bG BX6 HG
  replace BX10 := bG BX10 HG
  replace BX11 := bG BX11 HG
  replace BX12 := bG BX12 HG
  have r0 := Gr.refl vw7
  go_wp2
  refine hK.out _ _ ?_; clear hK K
  show Code.wp _ _ _ _ _
  clear r0
  refine forgetW (fun w2 => Bx w2 gx4 29 #[.int .u64 (lo (Int.natAbs (a))), .string (bg (Int.natAbs (a))), .bool (decide ((a) < 0))] ∧ Bx w2 gx5 29 #[.int .u64 (lo (Int.natAbs (0))), .string (bg (Int.natAbs (0))), .bool (decide ((0) < 0))] ∧ Bx w2 gx6 29 #[.int .u64 (lo (Int.natAbs (c))), .string (bg (Int.natAbs (c))), .bool (decide ((c) < 0))] ∧ Bx w2 gx10 29 #[.int .u64 (lo (Int.natAbs (0))), .string (bg (Int.natAbs (0))), .bool (decide ((0) < 0))] ∧ Bx w2 gx11 29 #[.int .u64 (lo (Int.natAbs (0))), .string (bg (Int.natAbs (0))), .bool (decide ((0) < 0))] ∧ Bx w2 gx12 29 #[.int .u64 (lo (Int.natAbs (0))), .string (bg (Int.natAbs (0))), .bool (decide ((0) < 0))] ∧ Below w.heap.size w w2) ⟨BX4.out, BX5.out, BX6.out, BX10.out, BX11.out, BX12.out, HB.out.trans (HG.out.mono HB.out.size)⟩ ?_
  clear HB HG BX4 BX5 BX6 BX10 BX11 BX12
  rintro Wx9 ⟨bx4, bx5, bx6, bx10, bx11, bx12, HB⟩
  replace HB := Lib.hid HB
  refine wp_cond_true (by rfl) ?_
  have BX4 := Lib.hid bx4
  have BX5 := Lib.hid bx5
  have BX6 := Lib.hid bx6
  have BX10 := Lib.hid bx10
  have BX11 := Lib.hid bx11
  have BX12 := Lib.hid bx12
  clear bx4 bx5 bx6 bx10 bx11 bx12
  refine sK fun K hK => ?_
  refine wp_region_seqplan 6 [(true, 0), (true, 1), (true, 2), (true, 3), (true, 4), (true, 5)] (by rfl) (by simp) (fun T hT => ?_)
  iterate 3 (refine wpPlan_takeL (v := ?_) rfl (by rfl) (fun w' hw => ?_) ?_; rotate_left; go_simp; with_reducible rfl; simp only [Act.put, rA, rB, rC])
  refine wpPlan_callL rfl (by rfl) Tryd.call8 (fun w' hw => worksz_any _ (Lib.hid (HT.out.gr (Gr.trans HB.out hw)))) (by rfl) ?_
  simp only [Act.put, rA, rB, rC]
  iterate 2 (refine wpPlan_takeL (v := ?_) rfl (by rfl) (fun w' hw => ?_) ?_; rotate_left; go_simp; with_reducible rfl; simp only [Act.put, rA, rB, rC])
  refine wpPlan_nil (hT.out _ _ ?_); clear hT T
  intro vw8 hg
  simp only [puts, Act.put, rA, rB, rC, rD, rE, ↓reduceIte, Nat.reduceEqDiff]
  have HG := Lib.hid (hg)
  clear hg
  replace BX4 := bG BX4 HG
  replace BX5 := bG BX5 HG
  replace BX6 := bG BX6 HG
  replace BX10 := bG BX10 HG
  replace BX11 := bG BX11 HG
  replace BX12 := bG BX12 HG
  have r0 := Gr.refl vw8
  go_wp2
  refine hK.out _ _ ?_; clear hK K
  show Code.wp _ _ _ _ _
  clear r0
  refine forgetW (fun w2 => Bx w2 gx4 29 #[.int .u64 (lo (Int.natAbs (a))), .string (bg (Int.natAbs (a))), .bool (decide ((a) < 0))] ∧ Bx w2 gx5 29 #[.int .u64 (lo (Int.natAbs (0))), .string (bg (Int.natAbs (0))), .bool (decide ((0) < 0))] ∧ Bx w2 gx6 29 #[.int .u64 (lo (Int.natAbs (c))), .string (bg (Int.natAbs (c))), .bool (decide ((c) < 0))] ∧ Bx w2 gx10 29 #[.int .u64 (lo (Int.natAbs (0))), .string (bg (Int.natAbs (0))), .bool (decide ((0) < 0))] ∧ Bx w2 gx11 29 #[.int .u64 (lo (Int.natAbs (0))), .string (bg (Int.natAbs (0))), .bool (decide ((0) < 0))] ∧ Bx w2 gx12 29 #[.int .u64 (lo (Int.natAbs (0))), .string (bg (Int.natAbs (0))), .bool (decide ((0) < 0))] ∧ Below w.heap.size w w2) ⟨BX4.out, BX5.out, BX6.out, BX10.out, BX11.out, BX12.out, HB.out.trans (HG.out.mono HB.out.size)⟩ ?_
  clear HB HG BX4 BX5 BX6 BX10 BX11 BX12
  rintro Wx10 ⟨bx4, bx5, bx6, bx10, bx11, bx12, HB⟩
  replace HB := Lib.hid HB
  refine wp_ret ?_
  try simp only [Exit.then, Exit.inBlock]
  have r0 := Gr.refl Wx10
  exact bodyPost_ret (v := .bool true) (by simp [results, Tryd.results6, go_sem]) rfl ⟨rfl, HB.out⟩

set_option maxRecDepth 100000 in
set_option maxHeartbeats 4000000 in
theorem dvz_pos (bbx : Bool) (vx : Value) (kx : Nat) (fx : Nat → Nat) (mx : Nat) (bby : Bool) (vy : Value) (ky : Nat) (fy : Nat → Nat) (my : Nat) (bbz : Bool) (vz : Value) (kz : Nat) (fz : Nat → Nat) (mz : Nat) (a b c : Int)  (w : World) (HWx : Hid (Wa w vx kx fx)) (HFx : Hid (∀ i, i < kx → fx i < 4294967296)) (HVx : Hid (vl fx kx = mx)) (HAx : Hid ((if bbx then -((mx : Nat) : Int) else ((mx : Nat) : Int)) = a)) (HWy : Hid (Wa w vy ky fy)) (HFy : Hid (∀ i, i < ky → fy i < 4294967296)) (HVy : Hid (vl fy ky = my)) (HAy : Hid ((if bby then -((my : Nat) : Int) else ((my : Nat) : Int)) = b)) (HWz : Hid (Wa w vz kz fz)) (HFz : Hid (∀ i, i < kz → fz i < 4294967296)) (HVz : Hid (vl fz kz = mz)) (HAz : Hid ((if bbz then -((mz : Nat) : Int) else ((mz : Nat) : Int)) = c)) (hkx : kx ≤ 16) (hky : ky ≤ 16) (hkz : kz ≤ 16) (hb0 : b ≠ 0) (HT : Hid (Tab w)) :
    Calls Tryd.prog 6 #[.agg #[.bool bbx, vx], .agg #[.bool bby, vy], .agg #[.bool bbz, vz]] w fun e w' => e = .returned (.bool true) ∧ Below w.heap.size w w' := by
  obtain ⟨ao_x, c_x, rfl⟩ := HWx.out.slice
  obtain ⟨ao_y, c_y, rfl⟩ := HWy.out.slice
  obtain ⟨ao_z, c_z, rfl⟩ := HWz.out.slice
  have hm_x : wl mx ≤ 16 := by rw [← HVx.out]; have := wl_le.2 (vl_lt HFx.out); omega
  have hb_x : wl (Int.natAbs (a)) ≤ 16 := by rw [zsize HAx.out]; exact hm_x
  have ht_x : tw (Int.natAbs (a)) ≤ 48 := by have := tw_wl (Int.natAbs (a)); omega
  have hm_y : wl my ≤ 16 := by rw [← HVy.out]; have := wl_le.2 (vl_lt HFy.out); omega
  have hb_y : wl (Int.natAbs (b)) ≤ 16 := by rw [zsize HAy.out]; exact hm_y
  have ht_y : tw (Int.natAbs (b)) ≤ 48 := by have := tw_wl (Int.natAbs (b)); omega
  have hm_z : wl mz ≤ 16 := by rw [← HVz.out]; have := wl_le.2 (vl_lt HFz.out); omega
  have hb_z : wl (Int.natAbs (c)) ≤ 16 := by rw [zsize HAz.out]; exact hm_z
  have ht_z : tw (Int.natAbs (c)) ≤ 48 := by have := tw_wl (Int.natAbs (c)); omega
  go_enter Tryd.func6, Tryd.ntmps6
  refine sK fun K hK => ?_
  refine wp_region_lit ?_
  go_wp2
  refine hK.out _ _ ?_; clear hK K
  show Code.wp _ _ _ _ _
  refine forgetW (fun w2 => Bx w2 (w.heap.size) 45 #[.bool (bbx), (.slice ao_x kx c_x)] ∧ Bx w2 (w.heap.size + 1) 45 #[.bool (bby), (.slice ao_y ky c_y)] ∧ Bx w2 (w.heap.size + 1 + 1) 45 #[.bool (bbz), (.slice ao_z kz c_z)] ∧ Below w.heap.size w w2) ⟨((Bx.at rfl).alloc _).alloc _, (Bx.at (by simp)).alloc _, Bx.at (by simp), (((Below.refl _ _).alloc (Nat.le_refl _) _).alloc (by simp) _).alloc (by simp; omega) _⟩ ?_
  rintro Wx ⟨bx0, bx1, bx2, HB⟩
  replace HB := Lib.hid HB
  refine wp_seq ?_
  have lx0 := bx0.cells
  have lx1 := bx1.cells
  have lx2 := bx2.cells
  have BX0 := Lib.hid bx0
  have BX1 := Lib.hid bx1
  have BX2 := Lib.hid bx2
  clear bx0 bx1 bx2
  refine sK fun K hK => ?_
  have HS0 := Lib.hid (HB.out.size)
  have MX0 : w.heap.size < Wx.heap.size := BX0.out.lt
  have MX1 : w.heap.size + 1 < Wx.heap.size := BX1.out.lt
  have MX2 : w.heap.size + 1 + 1 < Wx.heap.size := BX2.out.lt
  refine wp_region_seqplan 6 [(true, 0), (true, 1), (true, 2), (false, 3), (true, 4), (true, 5)] (by rfl) (by simp) (fun T hT => ?_)
  iterate 3 (refine wpPlan_takeL (v := ?_) rfl (by rfl) (fun w' hw => ?_) ?_; rotate_left; go_simp; with_reducible rfl; simp only [Act.put, rA, rB, rC])
  refine wpPlan_slice (cs := #[.bool (bbx), (.slice ao_x kx c_x), .bool (bby), (.slice ao_y ky c_y), .bool (bbz), (.slice ao_z kz c_z)]) (E := 45) (n := 3) rfl (by rfl) (fun w' hw => ?_) (fun gx3 vv1 hg0 yx3 bx3 => ?_)
  · go_simp
  have HG0 := Lib.hid hg0; clear hg0
  replace yx3 : w.heap.size ≤ gx3 := by first | exact Nat.le_trans HS0.out yx3 | exact Nat.le_trans HB.out.size yx3
  have BX3 := Lib.hid bx3; clear bx3
  replace BX0 := bG BX0 HG0
  replace BX1 := bG BX1 HG0
  replace BX2 := bG BX2 HG0
  replace HB := Lib.hid (HB.out.trans (HG0.out.mono HB.out.size))
  clear HG0
  clear lx0; have lx0 := BX0.out.cells
  clear lx1; have lx1 := BX1.out.cells
  clear lx2; have lx2 := BX2.out.cells
  simp only [Act.put, rA, rB, rC]
  refine wpPlan_callL rfl (by rfl) Tryd.call14 (fun w' hw => few3_ok _ _ _ _ _ _ _ _ _ _ _ _ 16 gx3 _ (BX3.out.gr hw) (by omega) (by omega) (by omega)) (by rfl) ?_
  simp only [Act.put, rA, rB, rC]
  refine wpPlan_takeL (v := ?_) rfl (by rfl) (fun w' hw => ?_) ?_; rotate_left; go_simp; with_reducible rfl; simp only [Act.put, rA, rB, rC]
  refine wpPlan_nil (hT.out _ _ ?_); clear hT T
  intro vw1 hg
  simp only [puts, Act.put, rA, rB, rC, rD, rE, ↓reduceIte, Nat.reduceEqDiff]
  clear lx0 lx1 lx2
  clear BX3
  have HG := Lib.hid (hg)
  clear hg
  replace BX0 := bG BX0 HG
  replace BX1 := bG BX1 HG
  replace BX2 := bG BX2 HG
  have r0 := Gr.refl vw1
  go_wp2
  refine hK.out _ _ ?_; clear hK K
  show Code.wp _ _ _ _ _
  clear r0
  refine forgetW (fun w2 => Bx w2 (w.heap.size) 45 #[.bool (bbx), (.slice ao_x kx c_x)] ∧ Bx w2 (w.heap.size + 1) 45 #[.bool (bby), (.slice ao_y ky c_y)] ∧ Bx w2 (w.heap.size + 1 + 1) 45 #[.bool (bbz), (.slice ao_z kz c_z)] ∧ Below w.heap.size w w2) ⟨BX0.out, BX1.out, BX2.out, HB.out.trans (HG.out.mono HB.out.size)⟩ ?_
  clear HB HG BX0 BX1 BX2
  rintro Wx1 ⟨bx0, bx1, bx2, HB⟩
  replace HB := Lib.hid HB
  refine wp_cond_false (by rfl) ?_
  refine wp_skip ?_
  show Code.wp _ _ _ _ _
  have lx0 := bx0.cells
  have lx1 := bx1.cells
  have lx2 := bx2.cells
  have BX0 := Lib.hid bx0
  have BX1 := Lib.hid bx1
  have BX2 := Lib.hid bx2
  clear bx0 bx1 bx2
  refine sK fun K hK => ?_
  refine wp_region_plan 9 [6, 7, 8] [] (fun i => if i = 6 then 7 else if i = 7 then 8 else 9) (fun i => if i = 6 then .cells #[.int .u64 0, .string ⟨#[]⟩, .bool false] 29 else if i = 7 then .cells #[.int .u64 0, .string ⟨#[]⟩, .bool false] 29 else .cells #[.int .u64 0, .string ⟨#[]⟩, .bool false] 29) [(true, 0), (true, 2), (true, 4), (true, 1), (true, 3), (true, 5)] (by kernel_rfl) (by kernel_rfl) (by intro i hi; simp only [List.mem_cons, List.not_mem_nil, or_false] at hi; rcases hi with rfl | rfl | rfl <;> exact ⟨_, rfl, rfl, rfl, by simp, fun ρ w => by kernel_rfl⟩) (fun i hi => by cases hi) (fun _ _ _ _ _ h => h) (fun T hT => ?_)
  iterate 3 (refine wpPlan_takeL (v := ?_) rfl (by rfl) (fun w' hw => ?_) ?_; rotate_left; go_simp; with_reducible rfl; simp only [Act.put, rA, rB, rC])
  refine wpPlan_callL rfl (by rfl) Tryd.call15 (fun w' hw => zlof bbx kx fx mx a ao_x c_x w' (Lib.hid (HWx.out.gr (Gr.trans HB.out hw))) HFx HVx HAx (by first | omega | exact wlc (by decide)) (by first | omega | exact wlc (by decide))) (by rfl) ?_
  simp only [Act.put, rA, rB, rC]
  refine wpPlan_callL rfl (by rfl) Tryd.call15 (fun w' hw => zlof bby ky fy my b ao_y c_y w' (Lib.hid (HWy.out.gr (Gr.trans HB.out hw))) HFy HVy HAy (by first | omega | exact wlc (by decide)) (by first | omega | exact wlc (by decide))) (by rfl) ?_
  simp only [Act.put, rA, rB, rC]
  refine wpPlan_callL rfl (by rfl) Tryd.call15 (fun w' hw => zlof bbz kz fz mz c ao_z c_z w' (Lib.hid (HWz.out.gr (Gr.trans HB.out hw))) HFz HVz HAz (by first | omega | exact wlc (by decide)) (by first | omega | exact wlc (by decide))) (by rfl) ?_
  simp only [Act.put, rA, rB, rC]
  refine wpPlan_nil (hT.out _ _ ?_); clear hT T
  intro G vw2 hg hf
  simp only [puts, Act.put, rA, rB, rC, rD, rE, ↓reduceIte, Nat.reduceEqDiff]
  clear lx0 lx1 lx2
  have HG := Lib.hid (hg)
  clear hg
  have bx4 := Bx.of_fresh hf (i := 6) (by decide) rfl
  have yx4 := (hf.1 6 (by decide)).1
  have bx5 := Bx.of_fresh hf (i := 7) (by decide) rfl
  have yx5 := (hf.1 7 (by decide)).1
  have dx4_5 : G 6 ≠ G 7 := fun e => absurd (hf.2 6 (by decide) 7 (by decide) e) (by decide)
  have bx6 := Bx.of_fresh hf (i := 8) (by decide) rfl
  have yx6 := (hf.1 8 (by decide)).1
  have dx4_6 : G 6 ≠ G 8 := fun e => absurd (hf.2 6 (by decide) 8 (by decide) e) (by decide)
  have dx5_6 : G 7 ≠ G 8 := fun e => absurd (hf.2 7 (by decide) 8 (by decide) e) (by decide)
  clear hf
  generalize G 6 = gx4 at *
  generalize G 7 = gx5 at *
  generalize G 8 = gx6 at *
  have qx0_4 : w.heap.size < gx4 := Nat.lt_of_lt_of_le BX0.out.lt yx4
  have qx0_5 : w.heap.size < gx5 := Nat.lt_of_lt_of_le BX0.out.lt yx5
  have qx0_6 : w.heap.size < gx6 := Nat.lt_of_lt_of_le BX0.out.lt yx6
  have qx1_4 : w.heap.size + 1 < gx4 := Nat.lt_of_lt_of_le BX1.out.lt yx4
  have qx1_5 : w.heap.size + 1 < gx5 := Nat.lt_of_lt_of_le BX1.out.lt yx5
  have qx1_6 : w.heap.size + 1 < gx6 := Nat.lt_of_lt_of_le BX1.out.lt yx6
  have qx2_4 : w.heap.size + 1 + 1 < gx4 := Nat.lt_of_lt_of_le BX2.out.lt yx4
  have qx2_5 : w.heap.size + 1 + 1 < gx5 := Nat.lt_of_lt_of_le BX2.out.lt yx5
  have qx2_6 : w.heap.size + 1 + 1 < gx6 := Nat.lt_of_lt_of_le BX2.out.lt yx6
  replace yx4 : w.heap.size ≤ gx4 := Nat.le_trans HB.out.size yx4
  replace yx5 : w.heap.size ≤ gx5 := Nat.le_trans HB.out.size yx5
  replace yx6 : w.heap.size ≤ gx6 := Nat.le_trans HB.out.size yx6
  replace BX0 := bG BX0 HG
  replace BX1 := bG BX1 HG
  replace BX2 := bG BX2 HG
  have lx4 := bx4.cells; have fx4 := bx4.free
  have lx5 := bx5.cells; have fx5 := bx5.free
  have lx6 := bx6.cells; have fx6 := bx6.free
  have r0 := Gr.refl vw2
  have BX4 := Lib.hid bx4; clear bx4
  have BX5 := Lib.hid bx5; clear bx5
  have BX6 := Lib.hid bx6; clear bx6
  go_wp2
  refine hK.out _ _ ?_; clear hK K
  show Code.wp _ _ _ _ _
  clear lx4 fx4
  clear lx5 fx5
  clear lx6 fx6
  clear r0
  refine forgetW (fun w2 => Bx w2 gx4 29 #[.int .u64 (lo (Int.natAbs (a))), .string (bg (Int.natAbs (a))), .bool (decide ((a) < 0))] ∧ Bx w2 gx5 29 #[.int .u64 (lo (Int.natAbs (b))), .string (bg (Int.natAbs (b))), .bool (decide ((b) < 0))] ∧ Bx w2 gx6 29 #[.int .u64 (lo (Int.natAbs (c))), .string (bg (Int.natAbs (c))), .bool (decide ((c) < 0))] ∧ Below w.heap.size w w2) ⟨(so3 (so3 ((((BX4.out).set 0 _).set 1 _).set 2 _) (by show gx4 ≠ gx5; omega)) (by show gx4 ≠ gx6; omega)).eq (by simp only [rA, rB, rC]), (so3 ((((so3 (BX5.out) (by show gx5 ≠ gx4; omega)).set 0 _).set 1 _).set 2 _) (by show gx5 ≠ gx6; omega)).eq (by simp only [rA, rB, rC]), ((((so3 (so3 (BX6.out) (by show gx6 ≠ gx4; omega)) (by show gx6 ≠ gx5; omega)).set 0 _).set 1 _).set 2 _).eq (by simp only [rA, rB, rC]), sc3 (sc3 (sc3 (HB.out.trans (HG.out.mono HB.out.size)) (by show w.heap.size ≤ gx4; omega)) (by show w.heap.size ≤ gx5; omega)) (by show w.heap.size ≤ gx6; omega)⟩ ?_
  clear HB HG BX0 BX1 BX2 BX4 BX5 BX6
  rintro Wx3 ⟨bx4, bx5, bx6, HB⟩
  replace HB := Lib.hid HB
  obtain ⟨u1, HZ1⟩ : ∃ z, Hid ((egcd (a) (b)).1 = z) := ⟨_, Lib.hid rfl⟩
  have su1 : wl (Int.natAbs (u1)) ≤ 20 := by rw [← HZ1.out]; have := wl_egcd (a := a) (b := b) (M := 16) (by first | omega | exact wlc (by decide)) (by first | omega | exact wlc (by decide)) (by decide); omega
  obtain ⟨u2, HZ2⟩ : ∃ z, Hid ((egcd (a) (b)).2.1 = z) := ⟨_, Lib.hid rfl⟩
  have su2 : wl (Int.natAbs (u2)) ≤ 20 := by rw [← HZ2.out]; have := wl_egcd (a := a) (b := b) (M := 16) (by first | omega | exact wlc (by decide)) (by first | omega | exact wlc (by decide)) (by decide); omega
  obtain ⟨u3, HZ3⟩ : ∃ z, Hid ((egcd (a) (b)).2.2 = z) := ⟨_, Lib.hid rfl⟩
  have su3 : wl (Int.natAbs (u3)) ≤ 20 := by rw [← HZ3.out]; have := wl_egcd (a := a) (b := b) (M := 16) (by first | omega | exact wlc (by decide)) (by first | omega | exact wlc (by decide)) (by decide); omega
  have lx4 := bx4.cells
  have lx5 := bx5.cells
  have BX4 := Lib.hid bx4
  have BX5 := Lib.hid bx5
  have BX6 := Lib.hid bx6
  clear bx4 bx5 bx6
  refine sK fun K hK => ?_
  refine wp_region_seqplan 7 [(true, 0), (true, 1), (true, 2), (true, 3), (true, 4), (true, 5), (true, 6)] (by rfl) (by simp) (fun T hT => ?_)
  iterate 2 (refine wpPlan_takeL (v := ?_) rfl (by rfl) (fun w' hw => ?_) ?_; rotate_left; go_simp; with_reducible rfl; simp only [Act.put, rA, rB, rC])
  refine wpPlan_callL rfl (by rfl) Tryd.call26 (fun w' hw => zigcd (a) (b) (u1) (u2) (u3) _ HZ1.out HZ2.out HZ3.out (by first | omega | exact wlc (by decide)) (by first | omega | exact wlc (by decide))) (by rfl) ?_
  simp only [Act.put, rA, rB, rC]
  iterate 4 (refine wpPlan_takeL (v := ?_) rfl (by rfl) (fun w' hw => ?_) ?_; rotate_left; go_simp; with_reducible rfl; simp only [Act.put, rA, rB, rC])
  refine wpPlan_nil (hT.out _ _ ?_); clear hT T
  intro vw3 hg
  simp only [puts, Act.put, rA, rB, rC, rD, rE, ↓reduceIte, Nat.reduceEqDiff]
  clear lx4 lx5
  have HG := Lib.hid (hg)
  clear hg
  replace BX4 := bG BX4 HG
  replace BX5 := bG BX5 HG
  replace BX6 := bG BX6 HG
  have r0 := Gr.refl vw3
  go_wp2
  refine hK.out _ _ ?_; clear hK K
  show Code.wp _ _ _ _ _
  clear r0
  have hsz : w.heap.size ≤ vw3.heap.size := Nat.le_trans HB.out.size HG.out.size
  have mx4 : gx4 < vw3.heap.size := BX4.out.lt
  have mx5 : gx5 < vw3.heap.size := BX5.out.lt
  have mx6 : gx6 < vw3.heap.size := BX6.out.lt
  refine forgetW (fun w2 => Bx w2 gx4 29 #[.int .u64 (lo (Int.natAbs (a))), .string (bg (Int.natAbs (a))), .bool (decide ((a) < 0))] ∧ Bx w2 gx5 29 #[.int .u64 (lo (Int.natAbs (b))), .string (bg (Int.natAbs (b))), .bool (decide ((b) < 0))] ∧ Bx w2 gx6 29 #[.int .u64 (lo (Int.natAbs (c))), .string (bg (Int.natAbs (c))), .bool (decide ((c) < 0))] ∧ Bx w2 (vw3.heap.size) 29 #[.int .u64 (lo (Int.natAbs (u1))), .string (bg (Int.natAbs (u1))), .bool (decide ((u1) < 0))] ∧ Bx w2 (vw3.heap.size + 1) 29 #[.int .u64 (lo (Int.natAbs (u2))), .string (bg (Int.natAbs (u2))), .bool (decide ((u2) < 0))] ∧ Bx w2 (vw3.heap.size + 1 + 1) 29 #[.int .u64 (lo (Int.natAbs (u3))), .string (bg (Int.natAbs (u3))), .bool (decide ((u3) < 0))] ∧ Below w.heap.size w w2) ⟨(((BX4.out).alloc _).alloc _).alloc _, (((BX5.out).alloc _).alloc _).alloc _, (((BX6.out).alloc _).alloc _).alloc _, (((Bx.at (by simp) : Bx _ (vw3.heap.size) _ _)).alloc _).alloc _, ((Bx.at (by simp) : Bx _ (vw3.heap.size + 1) _ _)).alloc _, (Bx.at (by simp) : Bx _ (vw3.heap.size + 1 + 1) _ _), (((HB.out.trans (HG.out.mono HB.out.size)).alloc (by first | omega | (simp; omega)) _).alloc (by first | omega | (simp; omega)) _).alloc (by first | omega | (simp; omega)) _⟩ ?_
  clear HB HG BX4 BX5 BX6
  rintro Wx4 ⟨bx4, bx5, bx6, bx7, bx8, bx9, HB⟩
  replace HB := Lib.hid HB
  have qx7_8 : vw3.heap.size < vw3.heap.size + 1 := by omega
  have qx7_9 : vw3.heap.size < vw3.heap.size + 1 + 1 := by omega
  have qx8_9 : vw3.heap.size + 1 < vw3.heap.size + 1 + 1 := by omega
  have yx9 : w.heap.size ≤ vw3.heap.size + 1 + 1 := by omega
  have qx4_9 : gx4 < vw3.heap.size + 1 + 1 := by omega
  have qx5_9 : gx5 < vw3.heap.size + 1 + 1 := by omega
  have qx6_9 : gx6 < vw3.heap.size + 1 + 1 := by omega
  generalize hx9 : vw3.heap.size + 1 + 1 = gx9 at *
  clear hx9
  have yx8 : w.heap.size ≤ vw3.heap.size + 1 := by omega
  have qx4_8 : gx4 < vw3.heap.size + 1 := by omega
  have qx5_8 : gx5 < vw3.heap.size + 1 := by omega
  have qx6_8 : gx6 < vw3.heap.size + 1 := by omega
  generalize hx8 : vw3.heap.size + 1 = gx8 at *
  clear hx8
  have yx7 : w.heap.size ≤ vw3.heap.size := by omega
  have qx4_7 : gx4 < vw3.heap.size := by omega
  have qx5_7 : gx5 < vw3.heap.size := by omega
  have qx6_7 : gx6 < vw3.heap.size := by omega
  generalize hx7 : vw3.heap.size = gx7 at *
  clear hx7
  clear hsz mx4 mx5 mx6
  refine wp_seq ?_
  obtain ⟨u4, HZ4⟩ : ∃ z, Hid ((a) * (u2) = z) := ⟨_, Lib.hid rfl⟩
  have su4 : wl (Int.natAbs (u4)) ≤ 36 := by rw [← HZ4.out]; have := wl_imul (a) (u2); omega
  obtain ⟨u5, HZ5⟩ : ∃ z, Hid ((b) * (u3) = z) := ⟨_, Lib.hid rfl⟩
  have su5 : wl (Int.natAbs (u5)) ≤ 36 := by rw [← HZ5.out]; have := wl_imul (b) (u3); omega
  have HZ6 : Hid ((u4) + (u5) = u1) := Lib.hid (by first | rfl | omega | (simp; done) | exact eg0 _ | (rw [egcd_zero]; done) | (rw [egcd_zero]; simp; done) | exact elt _ _ (by assumption) | exact zback _ | exact eg_comb _ _ | exact eg_abs _ _ | exact idv0 _ _ | exact idv1 _ _ _ (by assumption) | exact idv2 _ _ _ | (simp only [← HZ5.out, ← HZ4.out, ← HZ3.out, ← HZ2.out, ← HZ1.out] <;> first | rfl | omega | (simp; done) | exact eg0 _ | (rw [egcd_zero]; done) | (rw [egcd_zero]; simp; done) | exact elt _ _ (by assumption) | exact zback _ | exact eg_comb _ _ | exact eg_abs _ _ | exact idv0 _ _ | exact idv1 _ _ _ (by assumption) | exact idv2 _ _ _ | grind))
  have su6 : wl (Int.natAbs (u1)) ≤ 37 := by have e := HZ6.out; first | omega | (rw [← e]; have := wl_iadd (u4) (u5); omega)
  obtain ⟨t7, HT7⟩ : ∃ z, Hid (sgI (u1) = z) := ⟨_, Lib.hid rfl⟩
  have ht7 : 0 ≤ t7 := by rw [← HT7.out]; exact sgI_nonneg (by simp only [← HZ5.out, ← HZ4.out, ← HZ3.out, ← HZ2.out, ← HZ1.out]; exact eg_pos _ _)
  have hd1 : ¬ (t7 < 0) := by omega
  obtain ⟨u8, HZ8⟩ : ∃ z, Hid (Nat.gcd (Int.natAbs (a)) (Int.natAbs (b)) = z) := ⟨_, Lib.hid rfl⟩
  have su8 : wl (u8) ≤ 16 := by rw [← HZ8.out]; have := wl_gcd (Int.natAbs (a)) (Int.natAbs (b)); omega
  have hd2 : decide (Int.natAbs (u1) = u8) = true := decide_eq_true (by first | rfl | omega | (simp; done) | exact eg0 _ | (rw [egcd_zero]; done) | (rw [egcd_zero]; simp; done) | exact elt _ _ (by assumption) | exact zback _ | exact eg_comb _ _ | exact eg_abs _ _ | exact idv0 _ _ | exact idv1 _ _ _ (by assumption) | exact idv2 _ _ _ | (simp only [← HZ8.out, ← HZ5.out, ← HZ4.out, ← HZ3.out, ← HZ2.out, ← HZ1.out] <;> first | rfl | omega | (simp; done) | exact eg0 _ | (rw [egcd_zero]; done) | (rw [egcd_zero]; simp; done) | exact elt _ _ (by assumption) | exact zback _ | exact eg_comb _ _ | exact eg_abs _ _ | exact idv0 _ _ | exact idv1 _ _ _ (by assumption) | exact idv2 _ _ _ | grind))
  have lx4 := bx4.cells
  have lx5 := bx5.cells
  have lx7 := bx7.cells
  have lx8 := bx8.cells
  have lx9 := bx9.cells
  have BX4 := Lib.hid bx4
  have BX5 := Lib.hid bx5
  have BX6 := Lib.hid bx6
  have BX7 := Lib.hid bx7
  have BX8 := Lib.hid bx8
  have BX9 := Lib.hid bx9
  clear bx4 bx5 bx6 bx7 bx8 bx9
  refine sK fun K hK => ?_
  refine wp_region_plan 23 [] [] (fun _ => 0) (fun _ => .cells #[] 0) [(true, 0), (true, 1), (true, 3), (true, 4), (true, 7), (true, 2), (true, 5), (true, 6), (true, 8), (true, 9), (true, 10), (true, 11), (true, 12), (true, 13), (true, 14), (true, 15), (true, 17), (true, 19), (true, 16), (true, 18), (true, 20), (true, 21), (true, 22)] (by kernel_rfl) (by kernel_rfl) (fun i hi => by cases hi) (fun i hi => by cases hi) (fun _ _ _ _ _ h => h) (fun T hT => ?_)
  iterate 5 (refine wpPlan_takeL (v := ?_) rfl (by rfl) (fun w' hw => ?_) ?_; rotate_left; go_simp; with_reducible rfl; simp only [Act.put, rA, rB, rC])
  refine wpPlan_callL rfl (by rfl) Tryd.call20 (fun w' hw => zimul (a) (u2) (u4) _ HZ4.out (by first | omega | exact wlc (by decide)) (by first | omega | exact wlc (by decide))) (by rfl) ?_
  simp only [Act.put, rA, rB, rC]
  refine wpPlan_callL rfl (by rfl) Tryd.call20 (fun w' hw => zimul (b) (u3) (u5) _ HZ5.out (by first | omega | exact wlc (by decide)) (by first | omega | exact wlc (by decide))) (by rfl) ?_
  simp only [Act.put, rA, rB, rC]
  refine wpPlan_callL rfl (by rfl) Tryd.call19 (fun w' hw => ziadd (u4) (u5) (u1) _ HZ6.out (by first | omega | exact wlc (by decide)) (by first | omega | exact wlc (by decide))) (by rfl) ?_
  simp only [Act.put, rA, rB, rC]
  iterate 3 (refine wpPlan_takeL (v := ?_) rfl (by rfl) (fun w' hw => ?_) ?_; rotate_left; go_simp; with_reducible rfl; simp only [Act.put, rA, rB, rC])
  refine wpPlan_callL rfl (by rfl) Tryd.call16 (fun w' hw => zisign (u1) (t7) _ HT7.out) (by rfl) ?_
  simp only [Act.put, rA, rB, rC]
  iterate 6 (refine wpPlan_takeL (v := ?_) rfl (by rfl) (fun w' hw => ?_) ?_; rotate_left; go_simp; with_reducible rfl; simp only [Act.put, rA, rB, rC])
  refine wpPlan_callL rfl (by rfl) Tryd.call18 (fun w' hw => abs_any (u1) _) (by rfl) ?_
  simp only [Act.put, rA, rB, rC]
  refine wpPlan_callL rfl (by rfl) Tryd.call18 (fun w' hw => abs_any (a) _) (by rfl) ?_
  simp only [Act.put, rA, rB, rC]
  refine wpPlan_callL rfl (by rfl) Tryd.call18 (fun w' hw => abs_any (b) _) (by rfl) ?_
  simp only [Act.put, rA, rB, rC]
  refine wpPlan_callL rfl (by rfl) Tryd.call27 (fun w' hw => nzgcd (Int.natAbs (a)) (Int.natAbs (b)) (u8) _ HZ8.out (by first | omega | exact wlc (by decide)) (by first | omega | exact wlc (by decide))) (by rfl) ?_
  simp only [Act.put, rA, rB, rC]
  refine wpPlan_takeL (v := ?_) rfl (by rfl) (fun w' hw => ?_) ?_; rotate_left; go_simp; with_reducible rfl; simp only [Act.put, rA, rB, rC]
  refine wpPlan_nil (hT.out _ _ ?_); clear hT T
  intro G vw4 hg hf
  simp only [puts, Act.put, rA, rB, rC, rD, rE, ↓reduceIte, Nat.reduceEqDiff]
  clear lx4 lx5 lx7 lx8 lx9
  have HG := Lib.hid (hg)
  clear hg
  replace BX4 := bG BX4 HG
  replace BX5 := bG BX5 HG
  replace BX6 := bG BX6 HG
  replace BX7 := bG BX7 HG
  replace BX8 := bG BX8 HG
  replace BX9 := bG BX9 HG
  have r0 := Gr.refl vw4
  go_wp2
  refine hK.out _ _ ?_; clear hK K
  show Code.wp _ _ _ _ _
  clear r0
  refine forgetW (fun w2 => Bx w2 gx4 29 #[.int .u64 (lo (Int.natAbs (a))), .string (bg (Int.natAbs (a))), .bool (decide ((a) < 0))] ∧ Bx w2 gx5 29 #[.int .u64 (lo (Int.natAbs (b))), .string (bg (Int.natAbs (b))), .bool (decide ((b) < 0))] ∧ Bx w2 gx6 29 #[.int .u64 (lo (Int.natAbs (c))), .string (bg (Int.natAbs (c))), .bool (decide ((c) < 0))] ∧ Below w.heap.size w w2) ⟨BX4.out, BX5.out, BX6.out, HB.out.trans (HG.out.mono HB.out.size)⟩ ?_
  clear HB HG BX4 BX5 BX6 BX7 BX8 BX9
  rintro Wx5 ⟨bx4, bx5, bx6, HB⟩
  replace HB := Lib.hid HB
  clear ht7 hd1 hd2
  refine wp_cond_false (by rfl) ?_
  refine wp_skip ?_
  show Code.wp _ _ _ _ _
  obtain ⟨u9, HZ9⟩ : ∃ z, Hid ((if false then -((Int.natAbs (b) : Nat) : Int) else ((Int.natAbs (b) : Nat) : Int)) = z) := ⟨_, Lib.hid rfl⟩
  have su9 : wl (Int.natAbs (u9)) ≤ 16 := by rw [← HZ9.out]; split <;> simp <;> omega
  have lx5 := bx5.cells
  have BX4 := Lib.hid bx4
  have BX5 := Lib.hid bx5
  have BX6 := Lib.hid bx6
  clear bx4 bx5 bx6
  refine sK fun K hK => ?_
  refine wp_region_seqplan 3 [(true, 0), (true, 1), (true, 2)] (by rfl) (by simp) (fun T hT => ?_)
  refine wpPlan_takeL (v := ?_) rfl (by rfl) (fun w' hw => ?_) ?_; rotate_left; go_simp; with_reducible rfl; simp only [Act.put, rA, rB, rC]
  refine wpPlan_callL rfl (by rfl) Tryd.call18 (fun w' hw => abs_any (b) _) (by rfl) ?_
  simp only [Act.put, rA, rB, rC]
  refine wpPlan_callL rfl (by rfl) Tryd.call25 (fun w' hw => from_any false (Int.natAbs (b)) (u9) _ HZ9.out) (by rfl) ?_
  simp only [Act.put, rA, rB, rC]
  refine wpPlan_nil (hT.out _ _ ?_); clear hT T
  intro vw5 hg
  simp only [puts, Act.put, rA, rB, rC, rD, rE, ↓reduceIte, Nat.reduceEqDiff]
  clear lx5
  have HG := Lib.hid (hg)
  clear hg
  replace BX4 := bG BX4 HG
  replace BX5 := bG BX5 HG
  replace BX6 := bG BX6 HG
  have r0 := Gr.refl vw5
  go_wp2
  refine hK.out _ _ ?_; clear hK K
  show Code.wp _ _ _ _ _
  clear r0
  have hsz : w.heap.size ≤ vw5.heap.size := Nat.le_trans HB.out.size HG.out.size
  have mx4 : gx4 < vw5.heap.size := BX4.out.lt
  have mx5 : gx5 < vw5.heap.size := BX5.out.lt
  have mx6 : gx6 < vw5.heap.size := BX6.out.lt
  refine forgetW (fun w2 => Bx w2 gx4 29 #[.int .u64 (lo (Int.natAbs (a))), .string (bg (Int.natAbs (a))), .bool (decide ((a) < 0))] ∧ Bx w2 gx5 29 #[.int .u64 (lo (Int.natAbs (b))), .string (bg (Int.natAbs (b))), .bool (decide ((b) < 0))] ∧ Bx w2 gx6 29 #[.int .u64 (lo (Int.natAbs (c))), .string (bg (Int.natAbs (c))), .bool (decide ((c) < 0))] ∧ Bx w2 (vw5.heap.size) 29 #[.int .u64 (lo (Int.natAbs (u9))), .string (bg (Int.natAbs (u9))), .bool (decide ((u9) < 0))] ∧ Below w.heap.size w w2) ⟨(BX4.out).alloc _, (BX5.out).alloc _, (BX6.out).alloc _, (Bx.at (by simp) : Bx _ (vw5.heap.size) _ _), (HB.out.trans (HG.out.mono HB.out.size)).alloc (by first | omega | (simp; omega)) _⟩ ?_
  clear HB HG BX4 BX5 BX6
  rintro Wx7 ⟨bx4, bx5, bx6, bx10, HB⟩
  replace HB := Lib.hid HB
  have yx10 : w.heap.size ≤ vw5.heap.size := by omega
  have qx4_10 : gx4 < vw5.heap.size := by omega
  have qx5_10 : gx5 < vw5.heap.size := by omega
  have qx6_10 : gx6 < vw5.heap.size := by omega
  generalize hx10 : vw5.heap.size = gx10 at *
  clear hx10
  clear hsz mx4 mx5 mx6
  obtain ⟨u10, HZ10⟩ : ∃ z, Hid ((a) / (b) = z) := ⟨_, Lib.hid rfl⟩
  have su10 : wl (Int.natAbs (u10)) ≤ 17 := by rw [← HZ10.out]; have := wl_idiv (a) (b); omega
  obtain ⟨u11, HZ11⟩ : ∃ z, Hid ((a) % (b) = z) := ⟨_, Lib.hid rfl⟩
  have su11 : wl (Int.natAbs (u11)) ≤ 16 := by rw [← HZ11.out]; have := wl_imod (a) (b) (by first | rfl | omega | (simp; done) | exact eg0 _ | (rw [egcd_zero]; done) | (rw [egcd_zero]; simp; done) | exact elt _ _ (by assumption) | exact zback _ | exact eg_comb _ _ | exact eg_abs _ _ | exact idv0 _ _ | exact idv1 _ _ _ (by assumption) | exact idv2 _ _ _ | (simp only [← HZ10.out, ← HZ9.out, ← HZ8.out, ← HZ5.out, ← HZ4.out, ← HZ3.out, ← HZ2.out, ← HZ1.out] <;> first | rfl | omega | (simp; done) | exact eg0 _ | (rw [egcd_zero]; done) | (rw [egcd_zero]; simp; done) | exact elt _ _ (by assumption) | exact zback _ | exact eg_comb _ _ | exact eg_abs _ _ | exact idv0 _ _ | exact idv1 _ _ _ (by assumption) | exact idv2 _ _ _ | grind)); omega
  have lx4 := bx4.cells
  have lx5 := bx5.cells
  have BX4 := Lib.hid bx4
  have BX5 := Lib.hid bx5
  have BX6 := Lib.hid bx6
  have BX10 := Lib.hid bx10
  clear bx4 bx5 bx6 bx10
  refine sK fun K hK => ?_
  refine wp_region_seqplan 7 [(true, 0), (true, 1), (true, 2), (true, 3), (true, 4), (true, 5), (true, 6)] (by rfl) (by simp) (fun T hT => ?_)
  iterate 2 (refine wpPlan_takeL (v := ?_) rfl (by rfl) (fun w' hw => ?_) ?_; rotate_left; go_simp; with_reducible rfl; simp only [Act.put, rA, rB, rC])
  refine wpPlan_callL rfl (by rfl) Tryd.call28 (fun w' hw => zidiv (a) (b) (u10) (u11) _ HZ10.out HZ11.out (by first | rfl | omega | (simp; done) | exact eg0 _ | (rw [egcd_zero]; done) | (rw [egcd_zero]; simp; done) | exact elt _ _ (by assumption) | exact zback _ | exact eg_comb _ _ | exact eg_abs _ _ | exact idv0 _ _ | exact idv1 _ _ _ (by assumption) | exact idv2 _ _ _ | (simp only [← HZ11.out, ← HZ10.out, ← HZ9.out, ← HZ8.out, ← HZ5.out, ← HZ4.out, ← HZ3.out, ← HZ2.out, ← HZ1.out] <;> first | rfl | omega | (simp; done) | exact eg0 _ | (rw [egcd_zero]; done) | (rw [egcd_zero]; simp; done) | exact elt _ _ (by assumption) | exact zback _ | exact eg_comb _ _ | exact eg_abs _ _ | exact idv0 _ _ | exact idv1 _ _ _ (by assumption) | exact idv2 _ _ _ | grind)) (by first | omega | exact wlc (by decide)) (by first | omega | exact wlc (by decide))) (by rfl) ?_
  simp only [Act.put, rA, rB, rC]
  iterate 4 (refine wpPlan_takeL (v := ?_) rfl (by rfl) (fun w' hw => ?_) ?_; rotate_left; go_simp; with_reducible rfl; simp only [Act.put, rA, rB, rC])
  refine wpPlan_nil (hT.out _ _ ?_); clear hT T
  intro vw6 hg
  simp only [puts, Act.put, rA, rB, rC, rD, rE, ↓reduceIte, Nat.reduceEqDiff]
  clear lx4 lx5
  have HG := Lib.hid (hg)
  clear hg
  replace BX4 := bG BX4 HG
  replace BX5 := bG BX5 HG
  replace BX6 := bG BX6 HG
  replace BX10 := bG BX10 HG
  have r0 := Gr.refl vw6
  go_wp2
  refine hK.out _ _ ?_; clear hK K
  show Code.wp _ _ _ _ _
  clear r0
  have hsz : w.heap.size ≤ vw6.heap.size := Nat.le_trans HB.out.size HG.out.size
  have mx4 : gx4 < vw6.heap.size := BX4.out.lt
  have mx5 : gx5 < vw6.heap.size := BX5.out.lt
  have mx6 : gx6 < vw6.heap.size := BX6.out.lt
  have mx10 : gx10 < vw6.heap.size := BX10.out.lt
  refine forgetW (fun w2 => Bx w2 gx4 29 #[.int .u64 (lo (Int.natAbs (a))), .string (bg (Int.natAbs (a))), .bool (decide ((a) < 0))] ∧ Bx w2 gx5 29 #[.int .u64 (lo (Int.natAbs (b))), .string (bg (Int.natAbs (b))), .bool (decide ((b) < 0))] ∧ Bx w2 gx6 29 #[.int .u64 (lo (Int.natAbs (c))), .string (bg (Int.natAbs (c))), .bool (decide ((c) < 0))] ∧ Bx w2 gx10 29 #[.int .u64 (lo (Int.natAbs (u9))), .string (bg (Int.natAbs (u9))), .bool (decide ((u9) < 0))] ∧ Bx w2 (vw6.heap.size) 29 #[.int .u64 (lo (Int.natAbs (u10))), .string (bg (Int.natAbs (u10))), .bool (decide ((u10) < 0))] ∧ Bx w2 (vw6.heap.size + 1) 29 #[.int .u64 (lo (Int.natAbs (u11))), .string (bg (Int.natAbs (u11))), .bool (decide ((u11) < 0))] ∧ Below w.heap.size w w2) ⟨((BX4.out).alloc _).alloc _, ((BX5.out).alloc _).alloc _, ((BX6.out).alloc _).alloc _, ((BX10.out).alloc _).alloc _, ((Bx.at (by simp) : Bx _ (vw6.heap.size) _ _)).alloc _, (Bx.at (by simp) : Bx _ (vw6.heap.size + 1) _ _), ((HB.out.trans (HG.out.mono HB.out.size)).alloc (by first | omega | (simp; omega)) _).alloc (by first | omega | (simp; omega)) _⟩ ?_
  clear HB HG BX4 BX5 BX6 BX10
  rintro Wx8 ⟨bx4, bx5, bx6, bx10, bx11, bx12, HB⟩
  replace HB := Lib.hid HB
  have qx11_12 : vw6.heap.size < vw6.heap.size + 1 := by omega
  have yx12 : w.heap.size ≤ vw6.heap.size + 1 := by omega
  have qx4_12 : gx4 < vw6.heap.size + 1 := by omega
  have qx5_12 : gx5 < vw6.heap.size + 1 := by omega
  have qx6_12 : gx6 < vw6.heap.size + 1 := by omega
  have qx10_12 : gx10 < vw6.heap.size + 1 := by omega
  generalize hx12 : vw6.heap.size + 1 = gx12 at *
  clear hx12
  have yx11 : w.heap.size ≤ vw6.heap.size := by omega
  have qx4_11 : gx4 < vw6.heap.size := by omega
  have qx5_11 : gx5 < vw6.heap.size := by omega
  have qx6_11 : gx6 < vw6.heap.size := by omega
  have qx10_11 : gx10 < vw6.heap.size := by omega
  generalize hx11 : vw6.heap.size = gx11 at *
  clear hx11
  clear hsz mx4 mx5 mx6 mx10
  refine wp_seq ?_
  have lx5 := bx5.cells
  have BX4 := Lib.hid bx4
  have BX5 := Lib.hid bx5
  have BX6 := Lib.hid bx6
  have BX10 := Lib.hid bx10
  have BX11 := Lib.hid bx11
  have BX12 := Lib.hid bx12
  clear bx4 bx5 bx6 bx10 bx11 bx12
  refine sK fun K hK => ?_
  refine wp_region_seqplan 2 [(true, 0), (true, 1)] (by rfl) (by simp) (fun T hT => ?_)
  refine wpPlan_takeL (v := ?_) rfl (by rfl) (fun w' hw => ?_) ?_; rotate_left; go_simp; with_reducible rfl; simp only [Act.put, rA, rB, rC]
  refine wpPlan_callL rfl (by rfl) Tryd.call13 (fun w' hw => is_any (b) (0) false _ (Lib.hid (decide_eq_false (by first | rfl | omega | (simp; done) | exact eg0 _ | (rw [egcd_zero]; done) | (rw [egcd_zero]; simp; done) | exact elt _ _ (by assumption) | exact zback _ | exact eg_comb _ _ | exact eg_abs _ _ | exact idv0 _ _ | exact idv1 _ _ _ (by assumption) | exact idv2 _ _ _ | (simp only [← HZ11.out, ← HZ10.out, ← HZ9.out, ← HZ8.out, ← HZ5.out, ← HZ4.out, ← HZ3.out, ← HZ2.out, ← HZ1.out] <;> first | rfl | omega | (simp; done) | exact eg0 _ | (rw [egcd_zero]; done) | (rw [egcd_zero]; simp; done) | exact elt _ _ (by assumption) | exact zback _ | exact eg_comb _ _ | exact eg_abs _ _ | exact idv0 _ _ | exact idv1 _ _ _ (by assumption) | exact idv2 _ _ _ | grind)))) (by decide) (by decide)) (by rfl) ?_
  simp only [Act.put, rA, rB, rC]
  refine wpPlan_nil (hT.out _ _ ?_); clear hT T
  intro vw7 hg
  simp only [puts, Act.put, rA, rB, rC, rD, rE, ↓reduceIte, Nat.reduceEqDiff]
  clear lx5
  have HG := Lib.hid (hg)
  clear hg
  replace BX4 := bG BX4 HG
  replace BX5 := bG BX5 HG
  replace BX6 := bG BX6 HG
  replace BX10 := bG BX10 HG
  replace BX11 := bG BX11 HG
  replace BX12 := bG BX12 HG
  have r0 := Gr.refl vw7
  go_wp2
  refine hK.out _ _ ?_; clear hK K
  show Code.wp _ _ _ _ _
  clear r0
  refine forgetW (fun w2 => Bx w2 gx4 29 #[.int .u64 (lo (Int.natAbs (a))), .string (bg (Int.natAbs (a))), .bool (decide ((a) < 0))] ∧ Bx w2 gx5 29 #[.int .u64 (lo (Int.natAbs (b))), .string (bg (Int.natAbs (b))), .bool (decide ((b) < 0))] ∧ Bx w2 gx6 29 #[.int .u64 (lo (Int.natAbs (c))), .string (bg (Int.natAbs (c))), .bool (decide ((c) < 0))] ∧ Bx w2 gx10 29 #[.int .u64 (lo (Int.natAbs (u9))), .string (bg (Int.natAbs (u9))), .bool (decide ((u9) < 0))] ∧ Bx w2 gx11 29 #[.int .u64 (lo (Int.natAbs (u10))), .string (bg (Int.natAbs (u10))), .bool (decide ((u10) < 0))] ∧ Bx w2 gx12 29 #[.int .u64 (lo (Int.natAbs (u11))), .string (bg (Int.natAbs (u11))), .bool (decide ((u11) < 0))] ∧ Below w.heap.size w w2) ⟨BX4.out, BX5.out, BX6.out, BX10.out, BX11.out, BX12.out, HB.out.trans (HG.out.mono HB.out.size)⟩ ?_
  clear HB HG BX4 BX5 BX6 BX10 BX11 BX12
  rintro Wx9 ⟨bx4, bx5, bx6, bx10, bx11, bx12, HB⟩
  replace HB := Lib.hid HB
  refine wp_cond_false (by rfl) ?_
  refine wp_skip ?_
  show Code.wp _ _ _ _ _
  obtain ⟨u12, HZ12⟩ : ∃ z, Hid ((c) / (b) = z) := ⟨_, Lib.hid rfl⟩
  have su12 : wl (Int.natAbs (u12)) ≤ 17 := by rw [← HZ12.out]; have := wl_idiv (c) (b); omega
  obtain ⟨u13, HZ13⟩ : ∃ z, Hid ((c) % (b) = z) := ⟨_, Lib.hid rfl⟩
  have su13 : wl (Int.natAbs (u13)) ≤ 16 := by rw [← HZ13.out]; have := wl_imod (c) (b) (by first | rfl | omega | (simp; done) | exact eg0 _ | (rw [egcd_zero]; done) | (rw [egcd_zero]; simp; done) | exact elt _ _ (by assumption) | exact zback _ | exact eg_comb _ _ | exact eg_abs _ _ | exact idv0 _ _ | exact idv1 _ _ _ (by assumption) | exact idv2 _ _ _ | (simp only [← HZ12.out, ← HZ11.out, ← HZ10.out, ← HZ9.out, ← HZ8.out, ← HZ5.out, ← HZ4.out, ← HZ3.out, ← HZ2.out, ← HZ1.out] <;> first | rfl | omega | (simp; done) | exact eg0 _ | (rw [egcd_zero]; done) | (rw [egcd_zero]; simp; done) | exact elt _ _ (by assumption) | exact zback _ | exact eg_comb _ _ | exact eg_abs _ _ | exact idv0 _ _ | exact idv1 _ _ _ (by assumption) | exact idv2 _ _ _ | grind)); omega
  have lx5 := bx5.cells
  have lx6 := bx6.cells
  have BX4 := Lib.hid bx4
  have BX5 := Lib.hid bx5
  have BX6 := Lib.hid bx6
  have BX10 := Lib.hid bx10
  have BX11 := Lib.hid bx11
  have BX12 := Lib.hid bx12
  clear bx4 bx5 bx6 bx10 bx11 bx12
  refine sK fun K hK => ?_
  refine wp_region_seqplan 7 [(true, 0), (true, 1), (true, 2), (true, 3), (true, 4), (true, 5), (true, 6)] (by rfl) (by simp) (fun T hT => ?_)
  iterate 2 (refine wpPlan_takeL (v := ?_) rfl (by rfl) (fun w' hw => ?_) ?_; rotate_left; go_simp; with_reducible rfl; simp only [Act.put, rA, rB, rC])
  refine wpPlan_callL rfl (by rfl) Tryd.call28 (fun w' hw => zidiv (c) (b) (u12) (u13) _ HZ12.out HZ13.out (by first | rfl | omega | (simp; done) | exact eg0 _ | (rw [egcd_zero]; done) | (rw [egcd_zero]; simp; done) | exact elt _ _ (by assumption) | exact zback _ | exact eg_comb _ _ | exact eg_abs _ _ | exact idv0 _ _ | exact idv1 _ _ _ (by assumption) | exact idv2 _ _ _ | (simp only [← HZ13.out, ← HZ12.out, ← HZ11.out, ← HZ10.out, ← HZ9.out, ← HZ8.out, ← HZ5.out, ← HZ4.out, ← HZ3.out, ← HZ2.out, ← HZ1.out] <;> first | rfl | omega | (simp; done) | exact eg0 _ | (rw [egcd_zero]; done) | (rw [egcd_zero]; simp; done) | exact elt _ _ (by assumption) | exact zback _ | exact eg_comb _ _ | exact eg_abs _ _ | exact idv0 _ _ | exact idv1 _ _ _ (by assumption) | exact idv2 _ _ _ | grind)) (by first | omega | exact wlc (by decide)) (by first | omega | exact wlc (by decide))) (by rfl) ?_
  simp only [Act.put, rA, rB, rC]
  iterate 4 (refine wpPlan_takeL (v := ?_) rfl (by rfl) (fun w' hw => ?_) ?_; rotate_left; go_simp; with_reducible rfl; simp only [Act.put, rA, rB, rC])
  refine wpPlan_nil (hT.out _ _ ?_); clear hT T
  intro vw8 hg
  simp only [puts, Act.put, rA, rB, rC, rD, rE, ↓reduceIte, Nat.reduceEqDiff]
  clear lx5 lx6
  have HG := Lib.hid (hg)
  clear hg
  replace BX4 := bG BX4 HG
  replace BX5 := bG BX5 HG
  replace BX6 := bG BX6 HG
  replace BX10 := bG BX10 HG
  replace BX11 := bG BX11 HG
  replace BX12 := bG BX12 HG
  have r0 := Gr.refl vw8
  go_wp2
  refine hK.out _ _ ?_; clear hK K
  show Code.wp _ _ _ _ _
  clear r0
  have hsz : w.heap.size ≤ vw8.heap.size := Nat.le_trans HB.out.size HG.out.size
  have mx4 : gx4 < vw8.heap.size := BX4.out.lt
  have mx5 : gx5 < vw8.heap.size := BX5.out.lt
  have mx6 : gx6 < vw8.heap.size := BX6.out.lt
  have mx10 : gx10 < vw8.heap.size := BX10.out.lt
  have mx11 : gx11 < vw8.heap.size := BX11.out.lt
  have mx12 : gx12 < vw8.heap.size := BX12.out.lt
  refine forgetW (fun w2 => Bx w2 gx4 29 #[.int .u64 (lo (Int.natAbs (a))), .string (bg (Int.natAbs (a))), .bool (decide ((a) < 0))] ∧ Bx w2 gx5 29 #[.int .u64 (lo (Int.natAbs (b))), .string (bg (Int.natAbs (b))), .bool (decide ((b) < 0))] ∧ Bx w2 gx10 29 #[.int .u64 (lo (Int.natAbs (u9))), .string (bg (Int.natAbs (u9))), .bool (decide ((u9) < 0))] ∧ Bx w2 gx11 29 #[.int .u64 (lo (Int.natAbs (u10))), .string (bg (Int.natAbs (u10))), .bool (decide ((u10) < 0))] ∧ Bx w2 gx12 29 #[.int .u64 (lo (Int.natAbs (u11))), .string (bg (Int.natAbs (u11))), .bool (decide ((u11) < 0))] ∧ Bx w2 (vw8.heap.size + 1) 29 #[.int .u64 (lo (Int.natAbs (u13))), .string (bg (Int.natAbs (u13))), .bool (decide ((u13) < 0))] ∧ Below w.heap.size w w2) ⟨((BX4.out).alloc _).alloc _, ((BX5.out).alloc _).alloc _, ((BX10.out).alloc _).alloc _, ((BX11.out).alloc _).alloc _, ((BX12.out).alloc _).alloc _, (Bx.at (by simp) : Bx _ (vw8.heap.size + 1) _ _), ((HB.out.trans (HG.out.mono HB.out.size)).alloc (by first | omega | (simp; omega)) _).alloc (by first | omega | (simp; omega)) _⟩ ?_
  clear HB HG BX4 BX5 BX6 BX10 BX11 BX12
  rintro Wx11 ⟨bx4, bx5, bx10, bx11, bx12, bx14, HB⟩
  replace HB := Lib.hid HB
  have yx14 : w.heap.size ≤ vw8.heap.size + 1 := by omega
  have qx4_14 : gx4 < vw8.heap.size + 1 := by omega
  have qx5_14 : gx5 < vw8.heap.size + 1 := by omega
  have qx6_14 : gx6 < vw8.heap.size + 1 := by omega
  have qx10_14 : gx10 < vw8.heap.size + 1 := by omega
  have qx11_14 : gx11 < vw8.heap.size + 1 := by omega
  have qx12_14 : gx12 < vw8.heap.size + 1 := by omega
  generalize hx14 : vw8.heap.size + 1 = gx14 at *
  clear hx14
  clear hsz mx4 mx5 mx6 mx10 mx11 mx12
  obtain ⟨u14, HZ14⟩ : ∃ z, Hid ((a) * (b) = z) := ⟨_, Lib.hid rfl⟩
  have su14 : wl (Int.natAbs (u14)) ≤ 32 := by rw [← HZ14.out]; have := wl_imul (a) (b); omega
  obtain ⟨u15, HZ15⟩ : ∃ z, Hid ((u14) + (u13) = z) := ⟨_, Lib.hid rfl⟩
  have su15 : wl (Int.natAbs (u15)) ≤ 33 := by rw [← HZ15.out]; have := wl_iadd (u14) (u13); omega
  have HZ16 : Hid ((u15) / (b) = a) := Lib.hid (by first | rfl | omega | (simp; done) | exact eg0 _ | (rw [egcd_zero]; done) | (rw [egcd_zero]; simp; done) | exact elt _ _ (by assumption) | exact zback _ | exact eg_comb _ _ | exact eg_abs _ _ | exact idv0 _ _ | exact idv1 _ _ _ (by assumption) | exact idv2 _ _ _ | (simp only [← HZ15.out, ← HZ14.out, ← HZ13.out, ← HZ12.out, ← HZ11.out, ← HZ10.out, ← HZ9.out, ← HZ8.out, ← HZ5.out, ← HZ4.out, ← HZ3.out, ← HZ2.out, ← HZ1.out] <;> first | rfl | omega | (simp; done) | exact eg0 _ | (rw [egcd_zero]; done) | (rw [egcd_zero]; simp; done) | exact elt _ _ (by assumption) | exact zback _ | exact eg_comb _ _ | exact eg_abs _ _ | exact idv0 _ _ | exact idv1 _ _ _ (by assumption) | exact idv2 _ _ _ | grind))
  have su16 : wl (Int.natAbs (a)) ≤ 34 := by have e := HZ16.out; first | omega | (rw [← e]; have := wl_idiv (u15) (b); omega)
  have HZ17 : Hid ((u15) % (b) = u13) := Lib.hid (by first | rfl | omega | (simp; done) | exact eg0 _ | (rw [egcd_zero]; done) | (rw [egcd_zero]; simp; done) | exact elt _ _ (by assumption) | exact zback _ | exact eg_comb _ _ | exact eg_abs _ _ | exact idv0 _ _ | exact idv1 _ _ _ (by assumption) | exact idv2 _ _ _ | (simp only [← HZ15.out, ← HZ14.out, ← HZ13.out, ← HZ12.out, ← HZ11.out, ← HZ10.out, ← HZ9.out, ← HZ8.out, ← HZ5.out, ← HZ4.out, ← HZ3.out, ← HZ2.out, ← HZ1.out] <;> first | rfl | omega | (simp; done) | exact eg0 _ | (rw [egcd_zero]; done) | (rw [egcd_zero]; simp; done) | exact elt _ _ (by assumption) | exact zback _ | exact eg_comb _ _ | exact eg_abs _ _ | exact idv0 _ _ | exact idv1 _ _ _ (by assumption) | exact idv2 _ _ _ | grind))
  have su17 : wl (Int.natAbs (u13)) ≤ 33 := by have e := HZ17.out; first | omega | (rw [← e]; have := wl_imod (u15) (b) (by first | rfl | omega | (simp; done) | exact eg0 _ | (rw [egcd_zero]; done) | (rw [egcd_zero]; simp; done) | exact elt _ _ (by assumption) | exact zback _ | exact eg_comb _ _ | exact eg_abs _ _ | exact idv0 _ _ | exact idv1 _ _ _ (by assumption) | exact idv2 _ _ _ | (simp only [← HZ15.out, ← HZ14.out, ← HZ13.out, ← HZ12.out, ← HZ11.out, ← HZ10.out, ← HZ9.out, ← HZ8.out, ← HZ5.out, ← HZ4.out, ← HZ3.out, ← HZ2.out, ← HZ1.out] <;> first | rfl | omega | (simp; done) | exact eg0 _ | (rw [egcd_zero]; done) | (rw [egcd_zero]; simp; done) | exact elt _ _ (by assumption) | exact zback _ | exact eg_comb _ _ | exact eg_abs _ _ | exact idv0 _ _ | exact idv1 _ _ _ (by assumption) | exact idv2 _ _ _ | grind)); omega)
  have lx4 := bx4.cells
  have lx5 := bx5.cells
  have lx14 := bx14.cells
  have BX4 := Lib.hid bx4
  have BX5 := Lib.hid bx5
  have BX10 := Lib.hid bx10
  have BX11 := Lib.hid bx11
  have BX12 := Lib.hid bx12
  have BX14 := Lib.hid bx14
  clear bx4 bx5 bx10 bx11 bx12 bx14
  refine sK fun K hK => ?_
  refine wp_region_plan 13 [11, 12] [9, 10] (fun i => if i = 11 then 20 else 21) (fun i => if i = 11 then .cells #[.int .u64 0, .string ⟨#[]⟩, .bool false] 29 else .cells #[.int .u64 0, .string ⟨#[]⟩, .bool false] 29) [(true, 0), (true, 1), (true, 3), (true, 5), (true, 2), (true, 4), (true, 6), (true, 7), (true, 8), (true, 9), (true, 10)] (by kernel_rfl) (by kernel_rfl) (by intro i hi; simp only [List.mem_cons, List.not_mem_nil, or_false] at hi; rcases hi with rfl | rfl <;> exact ⟨_, rfl, rfl, rfl, by simp, fun ρ w => by kernel_rfl⟩) (by intro i hi; simp only [List.mem_cons, List.not_mem_nil, or_false] at hi; rcases hi with rfl | rfl <;> exact ⟨_, rfl, pure_extract⟩) (fun _ _ _ _ _ h => h) (fun T hT => ?_)
  iterate 4 (refine wpPlan_takeL (v := ?_) rfl (by rfl) (fun w' hw => ?_) ?_; rotate_left; go_simp; with_reducible rfl; simp only [Act.put, rA, rB, rC])
  refine wpPlan_callL rfl (by rfl) Tryd.call20 (fun w' hw => zimul (a) (b) (u14) _ HZ14.out (by first | omega | exact wlc (by decide)) (by first | omega | exact wlc (by decide))) (by rfl) ?_
  simp only [Act.put, rA, rB, rC]
  refine wpPlan_callL rfl (by rfl) Tryd.call19 (fun w' hw => ziadd (u14) (u13) (u15) _ HZ15.out (by first | omega | exact wlc (by decide)) (by first | omega | exact wlc (by decide))) (by rfl) ?_
  simp only [Act.put, rA, rB, rC]
  refine wpPlan_callL rfl (by rfl) Tryd.call28 (fun w' hw => zidiv (u15) (b) (a) (u13) _ HZ16.out HZ17.out (by first | rfl | omega | (simp; done) | exact eg0 _ | (rw [egcd_zero]; done) | (rw [egcd_zero]; simp; done) | exact elt _ _ (by assumption) | exact zback _ | exact eg_comb _ _ | exact eg_abs _ _ | exact idv0 _ _ | exact idv1 _ _ _ (by assumption) | exact idv2 _ _ _ | (simp only [← HZ15.out, ← HZ14.out, ← HZ13.out, ← HZ12.out, ← HZ11.out, ← HZ10.out, ← HZ9.out, ← HZ8.out, ← HZ5.out, ← HZ4.out, ← HZ3.out, ← HZ2.out, ← HZ1.out] <;> first | rfl | omega | (simp; done) | exact eg0 _ | (rw [egcd_zero]; done) | (rw [egcd_zero]; simp; done) | exact elt _ _ (by assumption) | exact zback _ | exact eg_comb _ _ | exact eg_abs _ _ | exact idv0 _ _ | exact idv1 _ _ _ (by assumption) | exact idv2 _ _ _ | grind)) (by first | omega | exact wlc (by decide)) (by first | omega | exact wlc (by decide))) (by rfl) ?_
  simp only [Act.put, rA, rB, rC]
  iterate 4 (refine wpPlan_takeL (v := ?_) rfl (by rfl) (fun w' hw => ?_) ?_; rotate_left; go_simp; with_reducible rfl; simp only [Act.put, rA, rB, rC])
  refine wpPlan_nil (hT.out _ _ ?_); clear hT T
  intro G vw9 hg hf
  simp only [puts, Act.put, rA, rB, rC, rD, rE, ↓reduceIte, Nat.reduceEqDiff]
  clear lx4 lx5 lx14
  have HG := Lib.hid (hg)
  clear hg
  have bx15 := Bx.of_fresh hf (i := 11) (by decide) rfl
  have yx15 := (hf.1 11 (by decide)).1
  have bx16 := Bx.of_fresh hf (i := 12) (by decide) rfl
  have yx16 := (hf.1 12 (by decide)).1
  have dx15_16 : G 11 ≠ G 12 := fun e => absurd (hf.2 11 (by decide) 12 (by decide) e) (by decide)
  clear hf
  generalize G 11 = gx15 at *
  generalize G 12 = gx16 at *
  have qx4_15 : gx4 < gx15 := Nat.lt_of_lt_of_le BX4.out.lt yx15
  have qx4_16 : gx4 < gx16 := Nat.lt_of_lt_of_le BX4.out.lt yx16
  have qx5_15 : gx5 < gx15 := Nat.lt_of_lt_of_le BX5.out.lt yx15
  have qx5_16 : gx5 < gx16 := Nat.lt_of_lt_of_le BX5.out.lt yx16
  have qx10_15 : gx10 < gx15 := Nat.lt_of_lt_of_le BX10.out.lt yx15
  have qx10_16 : gx10 < gx16 := Nat.lt_of_lt_of_le BX10.out.lt yx16
  have qx11_15 : gx11 < gx15 := Nat.lt_of_lt_of_le BX11.out.lt yx15
  have qx11_16 : gx11 < gx16 := Nat.lt_of_lt_of_le BX11.out.lt yx16
  have qx12_15 : gx12 < gx15 := Nat.lt_of_lt_of_le BX12.out.lt yx15
  have qx12_16 : gx12 < gx16 := Nat.lt_of_lt_of_le BX12.out.lt yx16
  have qx14_15 : gx14 < gx15 := Nat.lt_of_lt_of_le BX14.out.lt yx15
  have qx14_16 : gx14 < gx16 := Nat.lt_of_lt_of_le BX14.out.lt yx16
  replace yx15 : w.heap.size ≤ gx15 := Nat.le_trans HB.out.size yx15
  replace yx16 : w.heap.size ≤ gx16 := Nat.le_trans HB.out.size yx16
  replace BX4 := bG BX4 HG
  replace BX5 := bG BX5 HG
  replace BX10 := bG BX10 HG
  replace BX11 := bG BX11 HG
  replace BX12 := bG BX12 HG
  replace BX14 := bG BX14 HG
  have lx15 := bx15.cells; have fx15 := bx15.free
  have lx16 := bx16.cells; have fx16 := bx16.free
  have r0 := Gr.refl vw9
  have BX15 := Lib.hid bx15; clear bx15
  have BX16 := Lib.hid bx16; clear bx16
  go_wp2
  refine hK.out _ _ ?_; clear hK K
  show Code.wp _ _ _ _ _
  clear lx15 fx15
  clear lx16 fx16
  clear r0
  refine forgetW (fun w2 => Bx w2 gx4 29 #[.int .u64 (lo (Int.natAbs (a))), .string (bg (Int.natAbs (a))), .bool (decide ((a) < 0))] ∧ Bx w2 gx5 29 #[.int .u64 (lo (Int.natAbs (b))), .string (bg (Int.natAbs (b))), .bool (decide ((b) < 0))] ∧ Bx w2 gx10 29 #[.int .u64 (lo (Int.natAbs (u9))), .string (bg (Int.natAbs (u9))), .bool (decide ((u9) < 0))] ∧ Bx w2 gx11 29 #[.int .u64 (lo (Int.natAbs (u10))), .string (bg (Int.natAbs (u10))), .bool (decide ((u10) < 0))] ∧ Bx w2 gx12 29 #[.int .u64 (lo (Int.natAbs (u11))), .string (bg (Int.natAbs (u11))), .bool (decide ((u11) < 0))] ∧ Bx w2 gx14 29 #[.int .u64 (lo (Int.natAbs (u13))), .string (bg (Int.natAbs (u13))), .bool (decide ((u13) < 0))] ∧ Bx w2 gx15 29 #[.int .u64 (lo (Int.natAbs (a))), .string (bg (Int.natAbs (a))), .bool (decide ((a) < 0))] ∧ Bx w2 gx16 29 #[.int .u64 (lo (Int.natAbs (u13))), .string (bg (Int.natAbs (u13))), .bool (decide ((u13) < 0))] ∧ Below w.heap.size w w2) ⟨so3 (so3 (BX4.out) (by show gx4 ≠ gx15; omega)) (by show gx4 ≠ gx16; omega), so3 (so3 (BX5.out) (by show gx5 ≠ gx15; omega)) (by show gx5 ≠ gx16; omega), so3 (so3 (BX10.out) (by show gx10 ≠ gx15; omega)) (by show gx10 ≠ gx16; omega), so3 (so3 (BX11.out) (by show gx11 ≠ gx15; omega)) (by show gx11 ≠ gx16; omega), so3 (so3 (BX12.out) (by show gx12 ≠ gx15; omega)) (by show gx12 ≠ gx16; omega), so3 (so3 (BX14.out) (by show gx14 ≠ gx15; omega)) (by show gx14 ≠ gx16; omega), (so3 ((((BX15.out).set 0 _).set 1 _).set 2 _) (by show gx15 ≠ gx16; omega)).eq (by simp only [rA, rB, rC]), ((((so3 (BX16.out) (by show gx16 ≠ gx15; omega)).set 0 _).set 1 _).set 2 _).eq (by simp only [rA, rB, rC]), sc3 (sc3 (HB.out.trans (HG.out.mono HB.out.size)) (by show w.heap.size ≤ gx15; omega)) (by show w.heap.size ≤ gx16; omega)⟩ ?_
  clear HB HG BX4 BX5 BX10 BX11 BX12 BX14 BX15 BX16
  rintro Wx12 ⟨bx4, bx5, bx10, bx11, bx12, bx14, bx15, bx16, HB⟩
  replace HB := Lib.hid HB
  obtain ⟨u18, HZ18⟩ : ∃ z, Hid ((u10) * (b) = z) := ⟨_, Lib.hid rfl⟩
  have su18 : wl (Int.natAbs (u18)) ≤ 33 := by rw [← HZ18.out]; have := wl_imul (u10) (b); omega
  have HZ19 : Hid ((u18) + (u11) = a) := Lib.hid (by first | rfl | omega | (simp; done) | exact eg0 _ | (rw [egcd_zero]; done) | (rw [egcd_zero]; simp; done) | exact elt _ _ (by assumption) | exact zback _ | exact eg_comb _ _ | exact eg_abs _ _ | exact idv0 _ _ | exact idv1 _ _ _ (by assumption) | exact idv2 _ _ _ | (simp only [← HZ18.out, ← HZ15.out, ← HZ14.out, ← HZ13.out, ← HZ12.out, ← HZ11.out, ← HZ10.out, ← HZ9.out, ← HZ8.out, ← HZ5.out, ← HZ4.out, ← HZ3.out, ← HZ2.out, ← HZ1.out] <;> first | rfl | omega | (simp; done) | exact eg0 _ | (rw [egcd_zero]; done) | (rw [egcd_zero]; simp; done) | exact elt _ _ (by assumption) | exact zback _ | exact eg_comb _ _ | exact eg_abs _ _ | exact idv0 _ _ | exact idv1 _ _ _ (by assumption) | exact idv2 _ _ _ | grind))
  have su19 : wl (Int.natAbs (a)) ≤ 34 := by have e := HZ19.out; first | omega | (rw [← e]; have := wl_iadd (u18) (u11); omega)
  obtain ⟨t20, HT20⟩ : ∃ z, Hid (sgI (u11) = z) := ⟨_, Lib.hid rfl⟩
  have ht20 : 0 ≤ t20 := by rw [← HT20.out]; exact sgI_nonneg (by simp only [← HZ18.out, ← HZ15.out, ← HZ14.out, ← HZ13.out, ← HZ12.out, ← HZ11.out, ← HZ10.out, ← HZ9.out, ← HZ8.out, ← HZ5.out, ← HZ4.out, ← HZ3.out, ← HZ2.out, ← HZ1.out]; exact Int.emod_nonneg _ (by assumption))
  have hd3 : 0 ≤ t20 := by omega
  have lx4 := bx4.cells
  have lx5 := bx5.cells
  have lx10 := bx10.cells
  have lx11 := bx11.cells
  have lx12 := bx12.cells
  have lx14 := bx14.cells
  have lx15 := bx15.cells
  have lx16 := bx16.cells
  have BX4 := Lib.hid bx4
  have BX5 := Lib.hid bx5
  have BX10 := Lib.hid bx10
  have BX11 := Lib.hid bx11
  have BX12 := Lib.hid bx12
  have BX14 := Lib.hid bx14
  have BX15 := Lib.hid bx15
  have BX16 := Lib.hid bx16
  clear bx4 bx5 bx10 bx11 bx12 bx14 bx15 bx16
  refine sK fun K hK => ?_
  refine wp_region_plan 37 [] [] (fun _ => 0) (fun _ => .cells #[] 0) [(true, 0), (true, 1), (true, 2), (true, 3), (true, 5), (true, 7), (true, 4), (true, 6), (true, 8), (true, 9), (true, 10), (true, 11), (true, 12), (true, 13), (true, 14), (true, 15), (true, 16), (true, 17), (true, 18), (true, 19), (true, 20), (true, 21), (true, 22), (true, 23), (true, 24), (true, 25), (true, 26), (true, 27), (true, 28), (true, 29), (true, 30), (true, 31), (true, 32), (true, 33), (true, 34), (true, 35), (true, 36)] (by kernel_rfl) (by kernel_rfl) (fun i hi => by cases hi) (fun i hi => by cases hi) (fun _ _ _ _ _ h => h) (fun T hT => ?_)
  iterate 6 (refine wpPlan_takeL (v := ?_) rfl (by rfl) (fun w' hw => ?_) ?_; rotate_left; go_simp; with_reducible rfl; simp only [Act.put, rA, rB, rC])
  refine wpPlan_callL rfl (by rfl) Tryd.call20 (fun w' hw => zimul (u10) (b) (u18) _ HZ18.out (by first | omega | exact wlc (by decide)) (by first | omega | exact wlc (by decide))) (by rfl) ?_
  simp only [Act.put, rA, rB, rC]
  refine wpPlan_callL rfl (by rfl) Tryd.call19 (fun w' hw => ziadd (u18) (u11) (a) _ HZ19.out (by first | omega | exact wlc (by decide)) (by first | omega | exact wlc (by decide))) (by rfl) ?_
  simp only [Act.put, rA, rB, rC]
  iterate 4 (refine wpPlan_takeL (v := ?_) rfl (by rfl) (fun w' hw => ?_) ?_; rotate_left; go_simp; with_reducible rfl; simp only [Act.put, rA, rB, rC])
  refine wpPlan_callL rfl (by rfl) Tryd.call16 (fun w' hw => zisign (u11) (t20) _ HT20.out) (by rfl) ?_
  simp only [Act.put, rA, rB, rC]
  iterate 5 (refine wpPlan_takeL (v := ?_) rfl (by rfl) (fun w' hw => ?_) ?_; rotate_left; go_simp; with_reducible rfl; simp only [Act.put, rA, rB, rC])
  refine wpPlan_callL rfl (by rfl) Tryd.call24 (fun w' hw => zicmp (u11) (u9) (-1) _ (by have e9 : ((u11) : Int) < (u9) := (by first | rfl | omega | (simp; done) | exact eg0 _ | (rw [egcd_zero]; done) | (rw [egcd_zero]; simp; done) | exact elt _ _ (by assumption) | exact zback _ | exact eg_comb _ _ | exact eg_abs _ _ | exact idv0 _ _ | exact idv1 _ _ _ (by assumption) | exact idv2 _ _ _ | (simp only [← HZ18.out, ← HZ15.out, ← HZ14.out, ← HZ13.out, ← HZ12.out, ← HZ11.out, ← HZ10.out, ← HZ9.out, ← HZ8.out, ← HZ5.out, ← HZ4.out, ← HZ3.out, ← HZ2.out, ← HZ1.out] <;> first | rfl | omega | (simp; done) | exact eg0 _ | (rw [egcd_zero]; done) | (rw [egcd_zero]; simp; done) | exact elt _ _ (by assumption) | exact zback _ | exact eg_comb _ _ | exact eg_abs _ _ | exact idv0 _ _ | exact idv1 _ _ _ (by assumption) | exact idv2 _ _ _ | grind)); exact sgs_lt e9) (by first | omega | exact wlc (by decide)) (by first | omega | exact wlc (by decide))) (by rfl) ?_
  simp only [Act.put, rA, rB, rC]
  iterate 16 (refine wpPlan_takeL (v := ?_) rfl (by rfl) (fun w' hw => ?_) ?_; rotate_left; go_simp; with_reducible rfl; simp only [Act.put, rA, rB, rC])
  refine wpPlan_callL rfl (by rfl) Tryd.call8 (fun w' hw => worksz_any _ (Lib.hid (HT.out.gr (Gr.trans HB.out hw)))) (by rfl) ?_
  simp only [Act.put, rA, rB, rC]
  refine wpPlan_takeL (v := ?_) rfl (by rfl) (fun w' hw => ?_) ?_; rotate_left; go_simp; with_reducible rfl; simp only [Act.put, rA, rB, rC]
  refine wpPlan_nil (hT.out _ _ ?_); clear hT T
  intro G vw10 hg hf
  simp only [puts, Act.put, rA, rB, rC, rD, rE, ↓reduceIte, Nat.reduceEqDiff]
  clear lx4 lx5 lx10 lx11 lx12 lx14 lx15 lx16
  have HG := Lib.hid (hg)
  clear hg
  replace BX4 := bG BX4 HG
  replace BX5 := bG BX5 HG
  replace BX10 := bG BX10 HG
  replace BX11 := bG BX11 HG
  replace BX12 := bG BX12 HG
  replace BX14 := bG BX14 HG
  replace BX15 := bG BX15 HG
  replace BX16 := bG BX16 HG
  have r0 := Gr.refl vw10
  go_wp2
  refine hK.out _ _ ?_; clear hK K
  show Code.wp _ _ _ _ _
  clear r0
  refine forgetW (fun w2 => Below w.heap.size w w2) (HB.out.trans (HG.out.mono HB.out.size)) ?_
  clear HB HG BX4 BX5 BX10 BX11 BX12 BX14 BX15 BX16
  rintro Wx13 HB
  replace HB := Lib.hid HB
  clear ht20 hd3
  refine wp_ret ?_
  try simp only [Exit.then, Exit.inBlock]
  have r0 := Gr.refl Wx13
  exact bodyPost_ret (v := .bool true) (by simp [results, Tryd.results6, go_sem]) rfl ⟨rfl, HB.out⟩

set_option maxRecDepth 100000 in
set_option maxHeartbeats 4000000 in
theorem dvz_big1 (bbx : Bool) (vx : Value) (kx : Nat) (fx : Nat → Nat) (mx : Nat) (bby : Bool) (vy : Value) (ky : Nat) (fy : Nat → Nat) (my : Nat) (bbz : Bool) (vz : Value) (kz : Nat) (fz : Nat → Nat) (mz : Nat) (a b c : Int)  (w : World) (HWx : Hid (Wa w vx kx fx)) (HFx : Hid (∀ i, i < kx → fx i < 4294967296)) (HVx : Hid (vl fx kx = mx)) (HAx : Hid ((if bbx then -((mx : Nat) : Int) else ((mx : Nat) : Int)) = a)) (HWy : Hid (Wa w vy ky fy)) (HFy : Hid (∀ i, i < ky → fy i < 4294967296)) (HVy : Hid (vl fy ky = my)) (HAy : Hid ((if bby then -((my : Nat) : Int) else ((my : Nat) : Int)) = b)) (HWz : Hid (Wa w vz kz fz)) (HFz : Hid (∀ i, i < kz → fz i < 4294967296)) (HVz : Hid (vl fz kz = mz)) (HAz : Hid ((if bbz then -((mz : Nat) : Int) else ((mz : Nat) : Int)) = c))  (hkx : 16 < kx) (HT : Hid (Tab w)) :
    Calls Tryd.prog 6 #[.agg #[.bool bbx, vx], .agg #[.bool bby, vy], .agg #[.bool bbz, vz]] w fun e w' => e = .returned (.bool true) ∧ Below w.heap.size w w' := by
  obtain ⟨ao_x, c_x, rfl⟩ := HWx.out.slice
  obtain ⟨ao_y, c_y, rfl⟩ := HWy.out.slice
  obtain ⟨ao_z, c_z, rfl⟩ := HWz.out.slice
  go_enter Tryd.func6, Tryd.ntmps6
  refine sK fun K hK => ?_
  refine wp_region_lit ?_
  go_wp2
  refine hK.out _ _ ?_; clear hK K
  show Code.wp _ _ _ _ _
  refine forgetW (fun w2 => Bx w2 (w.heap.size) 45 #[.bool (bbx), (.slice ao_x kx c_x)] ∧ Bx w2 (w.heap.size + 1) 45 #[.bool (bby), (.slice ao_y ky c_y)] ∧ Bx w2 (w.heap.size + 1 + 1) 45 #[.bool (bbz), (.slice ao_z kz c_z)] ∧ Below w.heap.size w w2) ⟨((Bx.at rfl).alloc _).alloc _, (Bx.at (by simp)).alloc _, Bx.at (by simp), (((Below.refl _ _).alloc (Nat.le_refl _) _).alloc (by simp) _).alloc (by simp; omega) _⟩ ?_
  rintro Wx ⟨bx0, bx1, bx2, HB⟩
  replace HB := Lib.hid HB
  refine wp_seq ?_
  have lx0 := bx0.cells
  have lx1 := bx1.cells
  have lx2 := bx2.cells
  have BX0 := Lib.hid bx0
  have BX1 := Lib.hid bx1
  have BX2 := Lib.hid bx2
  clear bx0 bx1 bx2
  refine sK fun K hK => ?_
  have HS0 := Lib.hid (HB.out.size)
  have MX0 : w.heap.size < Wx.heap.size := BX0.out.lt
  have MX1 : w.heap.size + 1 < Wx.heap.size := BX1.out.lt
  have MX2 : w.heap.size + 1 + 1 < Wx.heap.size := BX2.out.lt
  refine wp_region_seqplan 6 [(true, 0), (true, 1), (true, 2), (false, 3), (true, 4), (true, 5)] (by rfl) (by simp) (fun T hT => ?_)
  iterate 3 (refine wpPlan_takeL (v := ?_) rfl (by rfl) (fun w' hw => ?_) ?_; rotate_left; go_simp; with_reducible rfl; simp only [Act.put, rA, rB, rC])
  refine wpPlan_slice (cs := #[.bool (bbx), (.slice ao_x kx c_x), .bool (bby), (.slice ao_y ky c_y), .bool (bbz), (.slice ao_z kz c_z)]) (E := 45) (n := 3) rfl (by rfl) (fun w' hw => ?_) (fun gx3 vv1 hg0 yx3 bx3 => ?_)
  · go_simp
  have HG0 := Lib.hid hg0; clear hg0
  replace yx3 : w.heap.size ≤ gx3 := by first | exact Nat.le_trans HS0.out yx3 | exact Nat.le_trans HB.out.size yx3
  have BX3 := Lib.hid bx3; clear bx3
  replace BX0 := bG BX0 HG0
  replace BX1 := bG BX1 HG0
  replace BX2 := bG BX2 HG0
  replace HB := Lib.hid (HB.out.trans (HG0.out.mono HB.out.size))
  clear HG0
  clear lx0; have lx0 := BX0.out.cells
  clear lx1; have lx1 := BX1.out.cells
  clear lx2; have lx2 := BX2.out.cells
  simp only [Act.put, rA, rB, rC]
  refine wpPlan_callL rfl (by rfl) Tryd.call14 (fun w' hw => few3_no0 _ _ _ _ _ _ _ _ _ _ _ _ 16 gx3 _ (BX3.out.gr hw) (by omega)) (by rfl) ?_
  simp only [Act.put, rA, rB, rC]
  refine wpPlan_takeL (v := ?_) rfl (by rfl) (fun w' hw => ?_) ?_; rotate_left; go_simp; with_reducible rfl; simp only [Act.put, rA, rB, rC]
  refine wpPlan_nil (hT.out _ _ ?_); clear hT T
  intro vw1 hg
  simp only [puts, Act.put, rA, rB, rC, rD, rE, ↓reduceIte, Nat.reduceEqDiff]
  clear lx0 lx1 lx2
  clear BX3
  have HG := Lib.hid (hg)
  clear hg
  replace BX0 := bG BX0 HG
  replace BX1 := bG BX1 HG
  replace BX2 := bG BX2 HG
  have r0 := Gr.refl vw1
  go_wp2
  refine hK.out _ _ ?_; clear hK K
  show Code.wp _ _ _ _ _
  clear r0
  refine forgetW (fun w2 => Bx w2 (w.heap.size) 45 #[.bool (bbx), (.slice ao_x kx c_x)] ∧ Bx w2 (w.heap.size + 1) 45 #[.bool (bby), (.slice ao_y ky c_y)] ∧ Bx w2 (w.heap.size + 1 + 1) 45 #[.bool (bbz), (.slice ao_z kz c_z)] ∧ Below w.heap.size w w2) ⟨BX0.out, BX1.out, BX2.out, HB.out.trans (HG.out.mono HB.out.size)⟩ ?_
  clear HB HG BX0 BX1 BX2
  rintro Wx1 ⟨bx0, bx1, bx2, HB⟩
  replace HB := Lib.hid HB
  refine wp_cond_true (by rfl) ?_
  have BX0 := Lib.hid bx0
  have BX1 := Lib.hid bx1
  have BX2 := Lib.hid bx2
  clear bx0 bx1 bx2
  refine sK fun K hK => ?_
  refine wp_region_seqplan 2 [(true, 0), (true, 1)] (by rfl) (by simp) (fun T hT => ?_)
  refine wpPlan_callL rfl (by rfl) Tryd.call8 (fun w' hw => worksz_any _ (Lib.hid (HT.out.gr (Gr.trans HB.out hw)))) (by rfl) ?_
  simp only [Act.put, rA, rB, rC]
  refine wpPlan_takeL (v := ?_) rfl (by rfl) (fun w' hw => ?_) ?_; rotate_left; go_simp; with_reducible rfl; simp only [Act.put, rA, rB, rC]
  refine wpPlan_nil (hT.out _ _ ?_); clear hT T
  intro vw2 hg
  simp only [puts, Act.put, rA, rB, rC, rD, rE, ↓reduceIte, Nat.reduceEqDiff]
  have HG := Lib.hid (hg)
  clear hg
  replace BX0 := bG BX0 HG
  replace BX1 := bG BX1 HG
  replace BX2 := bG BX2 HG
  have r0 := Gr.refl vw2
  go_wp2
  refine hK.out _ _ ?_; clear hK K
  show Code.wp _ _ _ _ _
  clear r0
  refine forgetW (fun w2 => Bx w2 (w.heap.size) 45 #[.bool (bbx), (.slice ao_x kx c_x)] ∧ Bx w2 (w.heap.size + 1) 45 #[.bool (bby), (.slice ao_y ky c_y)] ∧ Bx w2 (w.heap.size + 1 + 1) 45 #[.bool (bbz), (.slice ao_z kz c_z)] ∧ Below w.heap.size w w2) ⟨BX0.out, BX1.out, BX2.out, HB.out.trans (HG.out.mono HB.out.size)⟩ ?_
  clear HB HG BX0 BX1 BX2
  rintro Wx2 ⟨bx0, bx1, bx2, HB⟩
  replace HB := Lib.hid HB
  refine wp_ret ?_
  try simp only [Exit.then, Exit.inBlock]
  have r0 := Gr.refl Wx2
  exact bodyPost_ret (v := .bool true) (by simp [results, Tryd.results6, go_sem]) rfl ⟨rfl, HB.out⟩

set_option maxRecDepth 100000 in
set_option maxHeartbeats 4000000 in
theorem dvz_big2 (bbx : Bool) (vx : Value) (kx : Nat) (fx : Nat → Nat) (mx : Nat) (bby : Bool) (vy : Value) (ky : Nat) (fy : Nat → Nat) (my : Nat) (bbz : Bool) (vz : Value) (kz : Nat) (fz : Nat → Nat) (mz : Nat) (a b c : Int)  (w : World) (HWx : Hid (Wa w vx kx fx)) (HFx : Hid (∀ i, i < kx → fx i < 4294967296)) (HVx : Hid (vl fx kx = mx)) (HAx : Hid ((if bbx then -((mx : Nat) : Int) else ((mx : Nat) : Int)) = a)) (HWy : Hid (Wa w vy ky fy)) (HFy : Hid (∀ i, i < ky → fy i < 4294967296)) (HVy : Hid (vl fy ky = my)) (HAy : Hid ((if bby then -((my : Nat) : Int) else ((my : Nat) : Int)) = b)) (HWz : Hid (Wa w vz kz fz)) (HFz : Hid (∀ i, i < kz → fz i < 4294967296)) (HVz : Hid (vl fz kz = mz)) (HAz : Hid ((if bbz then -((mz : Nat) : Int) else ((mz : Nat) : Int)) = c)) (hkx : kx ≤ 16) (hky : 16 < ky) (HT : Hid (Tab w)) :
    Calls Tryd.prog 6 #[.agg #[.bool bbx, vx], .agg #[.bool bby, vy], .agg #[.bool bbz, vz]] w fun e w' => e = .returned (.bool true) ∧ Below w.heap.size w w' := by
  obtain ⟨ao_x, c_x, rfl⟩ := HWx.out.slice
  obtain ⟨ao_y, c_y, rfl⟩ := HWy.out.slice
  obtain ⟨ao_z, c_z, rfl⟩ := HWz.out.slice
  go_enter Tryd.func6, Tryd.ntmps6
  refine sK fun K hK => ?_
  refine wp_region_lit ?_
  go_wp2
  refine hK.out _ _ ?_; clear hK K
  show Code.wp _ _ _ _ _
  refine forgetW (fun w2 => Bx w2 (w.heap.size) 45 #[.bool (bbx), (.slice ao_x kx c_x)] ∧ Bx w2 (w.heap.size + 1) 45 #[.bool (bby), (.slice ao_y ky c_y)] ∧ Bx w2 (w.heap.size + 1 + 1) 45 #[.bool (bbz), (.slice ao_z kz c_z)] ∧ Below w.heap.size w w2) ⟨((Bx.at rfl).alloc _).alloc _, (Bx.at (by simp)).alloc _, Bx.at (by simp), (((Below.refl _ _).alloc (Nat.le_refl _) _).alloc (by simp) _).alloc (by simp; omega) _⟩ ?_
  rintro Wx ⟨bx0, bx1, bx2, HB⟩
  replace HB := Lib.hid HB
  refine wp_seq ?_
  have lx0 := bx0.cells
  have lx1 := bx1.cells
  have lx2 := bx2.cells
  have BX0 := Lib.hid bx0
  have BX1 := Lib.hid bx1
  have BX2 := Lib.hid bx2
  clear bx0 bx1 bx2
  refine sK fun K hK => ?_
  have HS0 := Lib.hid (HB.out.size)
  have MX0 : w.heap.size < Wx.heap.size := BX0.out.lt
  have MX1 : w.heap.size + 1 < Wx.heap.size := BX1.out.lt
  have MX2 : w.heap.size + 1 + 1 < Wx.heap.size := BX2.out.lt
  refine wp_region_seqplan 6 [(true, 0), (true, 1), (true, 2), (false, 3), (true, 4), (true, 5)] (by rfl) (by simp) (fun T hT => ?_)
  iterate 3 (refine wpPlan_takeL (v := ?_) rfl (by rfl) (fun w' hw => ?_) ?_; rotate_left; go_simp; with_reducible rfl; simp only [Act.put, rA, rB, rC])
  refine wpPlan_slice (cs := #[.bool (bbx), (.slice ao_x kx c_x), .bool (bby), (.slice ao_y ky c_y), .bool (bbz), (.slice ao_z kz c_z)]) (E := 45) (n := 3) rfl (by rfl) (fun w' hw => ?_) (fun gx3 vv1 hg0 yx3 bx3 => ?_)
  · go_simp
  have HG0 := Lib.hid hg0; clear hg0
  replace yx3 : w.heap.size ≤ gx3 := by first | exact Nat.le_trans HS0.out yx3 | exact Nat.le_trans HB.out.size yx3
  have BX3 := Lib.hid bx3; clear bx3
  replace BX0 := bG BX0 HG0
  replace BX1 := bG BX1 HG0
  replace BX2 := bG BX2 HG0
  replace HB := Lib.hid (HB.out.trans (HG0.out.mono HB.out.size))
  clear HG0
  clear lx0; have lx0 := BX0.out.cells
  clear lx1; have lx1 := BX1.out.cells
  clear lx2; have lx2 := BX2.out.cells
  simp only [Act.put, rA, rB, rC]
  refine wpPlan_callL rfl (by rfl) Tryd.call14 (fun w' hw => few3_no1 _ _ _ _ _ _ _ _ _ _ _ _ 16 gx3 _ (BX3.out.gr hw) (by omega) (by omega)) (by rfl) ?_
  simp only [Act.put, rA, rB, rC]
  refine wpPlan_takeL (v := ?_) rfl (by rfl) (fun w' hw => ?_) ?_; rotate_left; go_simp; with_reducible rfl; simp only [Act.put, rA, rB, rC]
  refine wpPlan_nil (hT.out _ _ ?_); clear hT T
  intro vw1 hg
  simp only [puts, Act.put, rA, rB, rC, rD, rE, ↓reduceIte, Nat.reduceEqDiff]
  clear lx0 lx1 lx2
  clear BX3
  have HG := Lib.hid (hg)
  clear hg
  replace BX0 := bG BX0 HG
  replace BX1 := bG BX1 HG
  replace BX2 := bG BX2 HG
  have r0 := Gr.refl vw1
  go_wp2
  refine hK.out _ _ ?_; clear hK K
  show Code.wp _ _ _ _ _
  clear r0
  refine forgetW (fun w2 => Bx w2 (w.heap.size) 45 #[.bool (bbx), (.slice ao_x kx c_x)] ∧ Bx w2 (w.heap.size + 1) 45 #[.bool (bby), (.slice ao_y ky c_y)] ∧ Bx w2 (w.heap.size + 1 + 1) 45 #[.bool (bbz), (.slice ao_z kz c_z)] ∧ Below w.heap.size w w2) ⟨BX0.out, BX1.out, BX2.out, HB.out.trans (HG.out.mono HB.out.size)⟩ ?_
  clear HB HG BX0 BX1 BX2
  rintro Wx1 ⟨bx0, bx1, bx2, HB⟩
  replace HB := Lib.hid HB
  refine wp_cond_true (by rfl) ?_
  have BX0 := Lib.hid bx0
  have BX1 := Lib.hid bx1
  have BX2 := Lib.hid bx2
  clear bx0 bx1 bx2
  refine sK fun K hK => ?_
  refine wp_region_seqplan 2 [(true, 0), (true, 1)] (by rfl) (by simp) (fun T hT => ?_)
  refine wpPlan_callL rfl (by rfl) Tryd.call8 (fun w' hw => worksz_any _ (Lib.hid (HT.out.gr (Gr.trans HB.out hw)))) (by rfl) ?_
  simp only [Act.put, rA, rB, rC]
  refine wpPlan_takeL (v := ?_) rfl (by rfl) (fun w' hw => ?_) ?_; rotate_left; go_simp; with_reducible rfl; simp only [Act.put, rA, rB, rC]
  refine wpPlan_nil (hT.out _ _ ?_); clear hT T
  intro vw2 hg
  simp only [puts, Act.put, rA, rB, rC, rD, rE, ↓reduceIte, Nat.reduceEqDiff]
  have HG := Lib.hid (hg)
  clear hg
  replace BX0 := bG BX0 HG
  replace BX1 := bG BX1 HG
  replace BX2 := bG BX2 HG
  have r0 := Gr.refl vw2
  go_wp2
  refine hK.out _ _ ?_; clear hK K
  show Code.wp _ _ _ _ _
  clear r0
  refine forgetW (fun w2 => Bx w2 (w.heap.size) 45 #[.bool (bbx), (.slice ao_x kx c_x)] ∧ Bx w2 (w.heap.size + 1) 45 #[.bool (bby), (.slice ao_y ky c_y)] ∧ Bx w2 (w.heap.size + 1 + 1) 45 #[.bool (bbz), (.slice ao_z kz c_z)] ∧ Below w.heap.size w w2) ⟨BX0.out, BX1.out, BX2.out, HB.out.trans (HG.out.mono HB.out.size)⟩ ?_
  clear HB HG BX0 BX1 BX2
  rintro Wx2 ⟨bx0, bx1, bx2, HB⟩
  replace HB := Lib.hid HB
  refine wp_ret ?_
  try simp only [Exit.then, Exit.inBlock]
  have r0 := Gr.refl Wx2
  exact bodyPost_ret (v := .bool true) (by simp [results, Tryd.results6, go_sem]) rfl ⟨rfl, HB.out⟩

set_option maxRecDepth 100000 in
set_option maxHeartbeats 4000000 in
theorem dvz_big3 (bbx : Bool) (vx : Value) (kx : Nat) (fx : Nat → Nat) (mx : Nat) (bby : Bool) (vy : Value) (ky : Nat) (fy : Nat → Nat) (my : Nat) (bbz : Bool) (vz : Value) (kz : Nat) (fz : Nat → Nat) (mz : Nat) (a b c : Int)  (w : World) (HWx : Hid (Wa w vx kx fx)) (HFx : Hid (∀ i, i < kx → fx i < 4294967296)) (HVx : Hid (vl fx kx = mx)) (HAx : Hid ((if bbx then -((mx : Nat) : Int) else ((mx : Nat) : Int)) = a)) (HWy : Hid (Wa w vy ky fy)) (HFy : Hid (∀ i, i < ky → fy i < 4294967296)) (HVy : Hid (vl fy ky = my)) (HAy : Hid ((if bby then -((my : Nat) : Int) else ((my : Nat) : Int)) = b)) (HWz : Hid (Wa w vz kz fz)) (HFz : Hid (∀ i, i < kz → fz i < 4294967296)) (HVz : Hid (vl fz kz = mz)) (HAz : Hid ((if bbz then -((mz : Nat) : Int) else ((mz : Nat) : Int)) = c)) (hkx : kx ≤ 16) (hky : ky ≤ 16) (hkz : 16 < kz) (HT : Hid (Tab w)) :
    Calls Tryd.prog 6 #[.agg #[.bool bbx, vx], .agg #[.bool bby, vy], .agg #[.bool bbz, vz]] w fun e w' => e = .returned (.bool true) ∧ Below w.heap.size w w' := by
  obtain ⟨ao_x, c_x, rfl⟩ := HWx.out.slice
  obtain ⟨ao_y, c_y, rfl⟩ := HWy.out.slice
  obtain ⟨ao_z, c_z, rfl⟩ := HWz.out.slice
  go_enter Tryd.func6, Tryd.ntmps6
  refine sK fun K hK => ?_
  refine wp_region_lit ?_
  go_wp2
  refine hK.out _ _ ?_; clear hK K
  show Code.wp _ _ _ _ _
  refine forgetW (fun w2 => Bx w2 (w.heap.size) 45 #[.bool (bbx), (.slice ao_x kx c_x)] ∧ Bx w2 (w.heap.size + 1) 45 #[.bool (bby), (.slice ao_y ky c_y)] ∧ Bx w2 (w.heap.size + 1 + 1) 45 #[.bool (bbz), (.slice ao_z kz c_z)] ∧ Below w.heap.size w w2) ⟨((Bx.at rfl).alloc _).alloc _, (Bx.at (by simp)).alloc _, Bx.at (by simp), (((Below.refl _ _).alloc (Nat.le_refl _) _).alloc (by simp) _).alloc (by simp; omega) _⟩ ?_
  rintro Wx ⟨bx0, bx1, bx2, HB⟩
  replace HB := Lib.hid HB
  refine wp_seq ?_
  have lx0 := bx0.cells
  have lx1 := bx1.cells
  have lx2 := bx2.cells
  have BX0 := Lib.hid bx0
  have BX1 := Lib.hid bx1
  have BX2 := Lib.hid bx2
  clear bx0 bx1 bx2
  refine sK fun K hK => ?_
  have HS0 := Lib.hid (HB.out.size)
  have MX0 : w.heap.size < Wx.heap.size := BX0.out.lt
  have MX1 : w.heap.size + 1 < Wx.heap.size := BX1.out.lt
  have MX2 : w.heap.size + 1 + 1 < Wx.heap.size := BX2.out.lt
  refine wp_region_seqplan 6 [(true, 0), (true, 1), (true, 2), (false, 3), (true, 4), (true, 5)] (by rfl) (by simp) (fun T hT => ?_)
  iterate 3 (refine wpPlan_takeL (v := ?_) rfl (by rfl) (fun w' hw => ?_) ?_; rotate_left; go_simp; with_reducible rfl; simp only [Act.put, rA, rB, rC])
  refine wpPlan_slice (cs := #[.bool (bbx), (.slice ao_x kx c_x), .bool (bby), (.slice ao_y ky c_y), .bool (bbz), (.slice ao_z kz c_z)]) (E := 45) (n := 3) rfl (by rfl) (fun w' hw => ?_) (fun gx3 vv1 hg0 yx3 bx3 => ?_)
  · go_simp
  have HG0 := Lib.hid hg0; clear hg0
  replace yx3 : w.heap.size ≤ gx3 := by first | exact Nat.le_trans HS0.out yx3 | exact Nat.le_trans HB.out.size yx3
  have BX3 := Lib.hid bx3; clear bx3
  replace BX0 := bG BX0 HG0
  replace BX1 := bG BX1 HG0
  replace BX2 := bG BX2 HG0
  replace HB := Lib.hid (HB.out.trans (HG0.out.mono HB.out.size))
  clear HG0
  clear lx0; have lx0 := BX0.out.cells
  clear lx1; have lx1 := BX1.out.cells
  clear lx2; have lx2 := BX2.out.cells
  simp only [Act.put, rA, rB, rC]
  refine wpPlan_callL rfl (by rfl) Tryd.call14 (fun w' hw => few3_no2 _ _ _ _ _ _ _ _ _ _ _ _ 16 gx3 _ (BX3.out.gr hw) (by omega) (by omega) (by omega)) (by rfl) ?_
  simp only [Act.put, rA, rB, rC]
  refine wpPlan_takeL (v := ?_) rfl (by rfl) (fun w' hw => ?_) ?_; rotate_left; go_simp; with_reducible rfl; simp only [Act.put, rA, rB, rC]
  refine wpPlan_nil (hT.out _ _ ?_); clear hT T
  intro vw1 hg
  simp only [puts, Act.put, rA, rB, rC, rD, rE, ↓reduceIte, Nat.reduceEqDiff]
  clear lx0 lx1 lx2
  clear BX3
  have HG := Lib.hid (hg)
  clear hg
  replace BX0 := bG BX0 HG
  replace BX1 := bG BX1 HG
  replace BX2 := bG BX2 HG
  have r0 := Gr.refl vw1
  go_wp2
  refine hK.out _ _ ?_; clear hK K
  show Code.wp _ _ _ _ _
  clear r0
  refine forgetW (fun w2 => Bx w2 (w.heap.size) 45 #[.bool (bbx), (.slice ao_x kx c_x)] ∧ Bx w2 (w.heap.size + 1) 45 #[.bool (bby), (.slice ao_y ky c_y)] ∧ Bx w2 (w.heap.size + 1 + 1) 45 #[.bool (bbz), (.slice ao_z kz c_z)] ∧ Below w.heap.size w w2) ⟨BX0.out, BX1.out, BX2.out, HB.out.trans (HG.out.mono HB.out.size)⟩ ?_
  clear HB HG BX0 BX1 BX2
  rintro Wx1 ⟨bx0, bx1, bx2, HB⟩
  replace HB := Lib.hid HB
  refine wp_cond_true (by rfl) ?_
  have BX0 := Lib.hid bx0
  have BX1 := Lib.hid bx1
  have BX2 := Lib.hid bx2
  clear bx0 bx1 bx2
  refine sK fun K hK => ?_
  refine wp_region_seqplan 2 [(true, 0), (true, 1)] (by rfl) (by simp) (fun T hT => ?_)
  refine wpPlan_callL rfl (by rfl) Tryd.call8 (fun w' hw => worksz_any _ (Lib.hid (HT.out.gr (Gr.trans HB.out hw)))) (by rfl) ?_
  simp only [Act.put, rA, rB, rC]
  refine wpPlan_takeL (v := ?_) rfl (by rfl) (fun w' hw => ?_) ?_; rotate_left; go_simp; with_reducible rfl; simp only [Act.put, rA, rB, rC]
  refine wpPlan_nil (hT.out _ _ ?_); clear hT T
  intro vw2 hg
  simp only [puts, Act.put, rA, rB, rC, rD, rE, ↓reduceIte, Nat.reduceEqDiff]
  have HG := Lib.hid (hg)
  clear hg
  replace BX0 := bG BX0 HG
  replace BX1 := bG BX1 HG
  replace BX2 := bG BX2 HG
  have r0 := Gr.refl vw2
  go_wp2
  refine hK.out _ _ ?_; clear hK K
  show Code.wp _ _ _ _ _
  clear r0
  refine forgetW (fun w2 => Bx w2 (w.heap.size) 45 #[.bool (bbx), (.slice ao_x kx c_x)] ∧ Bx w2 (w.heap.size + 1) 45 #[.bool (bby), (.slice ao_y ky c_y)] ∧ Bx w2 (w.heap.size + 1 + 1) 45 #[.bool (bbz), (.slice ao_z kz c_z)] ∧ Below w.heap.size w w2) ⟨BX0.out, BX1.out, BX2.out, HB.out.trans (HG.out.mono HB.out.size)⟩ ?_
  clear HB HG BX0 BX1 BX2
  rintro Wx2 ⟨bx0, bx1, bx2, HB⟩
  replace HB := Lib.hid HB
  refine wp_ret ?_
  try simp only [Exit.then, Exit.inBlock]
  have r0 := Gr.refl Wx2
  exact bodyPost_ret (v := .bool true) (by simp [results, Tryd.results6, go_sem]) rfl ⟨rfl, HB.out⟩

theorem dvz_law (bbx : Bool) (vx : Value) (kx : Nat) (fx : Nat → Nat) (bby : Bool) (vy : Value) (ky : Nat) (fy : Nat → Nat) (bbz : Bool) (vz : Value) (kz : Nat) (fz : Nat → Nat) (w : World) (HWx : Hid (Wa w vx kx fx)) (HFx : Hid (∀ i, i < kx → fx i < 4294967296)) (HWy : Hid (Wa w vy ky fy)) (HFy : Hid (∀ i, i < ky → fy i < 4294967296)) (HWz : Hid (Wa w vz kz fz)) (HFz : Hid (∀ i, i < kz → fz i < 4294967296)) (HT : Hid (Tab w)) :
    Calls Tryd.prog 6 #[.agg #[.bool bbx, vx], .agg #[.bool bby, vy], .agg #[.bool bbz, vz]] w fun e w' => e = .returned (.bool true) ∧ Below w.heap.size w w' := by
  obtain ⟨a, ha⟩ : ∃ z, Hid ((if bbx then -((vl fx kx : Nat) : Int) else ((vl fx kx : Nat) : Int)) = z) := ⟨_, Lib.hid rfl⟩
  obtain ⟨b, hb⟩ : ∃ z, Hid ((if bby then -((vl fy ky : Nat) : Int) else ((vl fy ky : Nat) : Int)) = z) := ⟨_, Lib.hid rfl⟩
  obtain ⟨c, hc⟩ : ∃ z, Hid ((if bbz then -((vl fz kz : Nat) : Int) else ((vl fz kz : Nat) : Int)) = z) := ⟨_, Lib.hid rfl⟩
  by_cases hkx : kx ≤ 16
  · skip
    by_cases hky : ky ≤ 16
    · skip
      by_cases hkz : kz ≤ 16
      · skip
        by_cases h : b = 0
        · subst h
          exact dvz_zero bbx vx kx fx _ bby vy ky fy _ bbz vz kz fz _ a c w HWx HFx (Lib.hid rfl) ha HWy HFy (Lib.hid rfl) hb HWz HFz (Lib.hid rfl) hc hkx hky hkz HT
        · exact dvz_pos bbx vx kx fx _ bby vy ky fy _ bbz vz kz fz _ a b c w HWx HFx (Lib.hid rfl) ha HWy HFy (Lib.hid rfl) hb HWz HFz (Lib.hid rfl) hc hkx hky hkz h HT
      · exact dvz_big3 bbx vx kx fx _ bby vy ky fy _ bbz vz kz fz _ a b c w HWx HFx (Lib.hid rfl) ha HWy HFy (Lib.hid rfl) hb HWz HFz (Lib.hid rfl) hc hkx hky (by omega) HT
    · exact dvz_big2 bbx vx kx fx _ bby vy ky fy _ bbz vz kz fz _ a b c w HWx HFx (Lib.hid rfl) ha HWy HFy (Lib.hid rfl) hb HWz HFz (Lib.hid rfl) hc hkx (by omega) HT
  · exact dvz_big1 bbx vx kx fx _ bby vy ky fy _ bbz vz kz fz _ a b c w HWx HFx (Lib.hid rfl) ha HWy HFy (Lib.hid rfl) hb HWz HFz (Lib.hid rfl) hc  (by omega) HT

end Go.Proofs.YtflhpdlecpehkaaDoor
