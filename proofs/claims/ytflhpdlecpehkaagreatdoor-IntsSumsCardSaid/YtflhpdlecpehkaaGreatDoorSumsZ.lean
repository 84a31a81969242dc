
/- IntsSums: the law's walk. -/
import Derived.Test.YtflhpdlecpehkaaGreatDoorSh
import Derived.Test.YtflhpdlecpehkaaGreatDoorWorksZ
namespace Go.Proofs.YtflhpdlecpehkaaGreatDoor
open Go.RowKit
set_option linter.unusedSimpArgs false
set_option linter.unusedVariables false
attribute [local go_sem ↓] Go.wp_at_zero Go.wp_at_succ
attribute [local go_sem ↓] eq_nat eq_nat_zero eq_int
set_option maxRecDepth 100000 in
set_option maxHeartbeats 8000000 in
theorem sumz_lt (bbx : Bool) (vx : Value) (kx : Nat) (fx : Nat → Nat) (mx : Nat) (bby : Bool) (vy : Value) (ky : Nat) (fy : Nat → Nat) (my : Nat) (a b : Int) (s : Int) (tx : ByteArray) (w : World) (HWx : Hid (Wa w vx kx fx)) (HFx : Hid (∀ i, i < kx → fx i < 4294967296)) (HVx : Hid (vl fx kx = mx)) (HAx : Hid ((if bbx then -((mx : Nat) : Int) else ((mx : Nat) : Int)) = a)) (HWy : Hid (Wa w vy ky fy)) (HFy : Hid (∀ i, i < ky → fy i < 4294967296)) (HVy : Hid (vl fy ky = my)) (HAy : Hid ((if bby then -((my : Nat) : Int) else ((my : Nat) : Int)) = b)) (hkx : kx ≤ 16) (hky : ky ≤ 16) (hlt : a < b) (HSA : Hid (sgI a = s)) (HTX : Hid ((⟨(Lib.decDigits (Int.natAbs a)).toArray⟩ : ByteArray) = tx)) (HT : Hid (Tab w)) :
    Calls Tryz.prog 4 #[.agg #[.bool bbx, vx], .agg #[.bool bby, vy]] w fun e w' => e = .returned (.bool true) ∧ Below w.heap.size w w' := by
  obtain ⟨ao_x, c_x, rfl⟩ := HWx.out.slice
  obtain ⟨ao_y, c_y, rfl⟩ := HWy.out.slice
  have hm_x : wl mx ≤ 16 := by rw [← HVx.out]; have := wl_le.2 (vl_lt HFx.out); omega
  have hb_x : wl (Int.natAbs (a)) ≤ 16 := by rw [zsize HAx.out]; exact hm_x
  have ht_x : tw (Int.natAbs (a)) ≤ 48 := by have := tw_wl (Int.natAbs (a)); omega
  have hm_y : wl my ≤ 16 := by rw [← HVy.out]; have := wl_le.2 (vl_lt HFy.out); omega
  have hb_y : wl (Int.natAbs (b)) ≤ 16 := by rw [zsize HAy.out]; exact hm_y
  have ht_y : tw (Int.natAbs (b)) ≤ 48 := by have := tw_wl (Int.natAbs (b)); omega
  go_enter Tryz.func4, Tryz.ntmps4
  refine sK fun K hK => ?_
  refine wp_region_lit ?_
  go_wp2
  refine hK.out _ _ ?_; clear hK K
  show Code.wp _ _ _ _ _
  refine forgetW (fun w2 => Bx w2 (w.heap.size) 24 #[.bool (bbx), (.slice ao_x kx c_x)] ∧ Bx w2 (w.heap.size + 1) 24 #[.bool (bby), (.slice ao_y ky c_y)] ∧ Below w.heap.size w w2) ⟨(Bx.at rfl).alloc _, Bx.at (by simp), ((Below.refl _ _).alloc (Nat.le_refl _) _).alloc (by simp) _⟩ ?_
  rintro Wx ⟨bx0, bx1, HB⟩
  replace HB := Lib.hid HB
  refine wp_seq ?_
  have lx0 := bx0.cells
  have lx1 := bx1.cells
  have BX0 := Lib.hid bx0
  have BX1 := Lib.hid bx1
  clear bx0 bx1
  refine sK fun K hK => ?_
  have HS0 := Lib.hid (HB.out.size)
  have MX0 : w.heap.size < Wx.heap.size := BX0.out.lt
  have MX1 : w.heap.size + 1 < Wx.heap.size := BX1.out.lt
  refine wp_region_seqplan 5 [(true, 0), (true, 1), (false, 2), (true, 3), (true, 4)] (by rfl) (by simp) (fun T hT => ?_)
  iterate 2 (refine wpPlan_takeL (v := ?_) rfl (by rfl) (fun w' hw => ?_) ?_; rotate_left; go_simp; with_reducible rfl; simp only [Act.put, rA, rB, rC])
  refine wpPlan_slice (cs := #[.bool (bbx), (.slice ao_x kx c_x), .bool (bby), (.slice ao_y ky c_y)]) (E := 24) (n := 2) rfl (by rfl) (fun w' hw => ?_) (fun gx2 vv1 hg0 yx2 bx2 => ?_)
  · go_simp
  have HG0 := Lib.hid hg0; clear hg0
  replace yx2 : w.heap.size ≤ gx2 := by first | exact Nat.le_trans HS0.out yx2 | exact Nat.le_trans HB.out.size yx2
  have BX2 := Lib.hid bx2; clear bx2
  replace BX0 := bG BX0 HG0
  replace BX1 := bG BX1 HG0
  replace HB := Lib.hid (HB.out.trans (HG0.out.mono HB.out.size))
  clear HG0
  clear lx0; have lx0 := BX0.out.cells
  clear lx1; have lx1 := BX1.out.cells
  simp only [Act.put, rA, rB, rC]
  refine wpPlan_callL rfl (by rfl) Tryz.call6 (fun w' hw => few2_ok _ _ _ _ _ _ _ _ 16 gx2 _ (BX2.out.gr hw) (by omega) (by omega)) (by rfl) ?_
  simp only [Act.put, rA, rB, rC]
  refine wpPlan_takeL (v := ?_) rfl (by rfl) (fun w' hw => ?_) ?_; rotate_left; go_simp; with_reducible rfl; simp only [Act.put, rA, rB, rC]
  refine wpPlan_nil (hT.out _ _ ?_); clear hT T
  intro vw1 hg
  simp only [puts, Act.put, rA, rB, rC, rD, rE, ↓reduceIte, Nat.reduceEqDiff]
  clear lx0 lx1
  clear BX2
  have HG := Lib.hid (hg)
  clear hg
  replace BX0 := bG BX0 HG
  replace BX1 := bG BX1 HG
  have r0 := Gr.refl vw1
  go_wp2
  refine hK.out _ _ ?_; clear hK K
  show Code.wp _ _ _ _ _
  clear r0
  refine forgetW (fun w2 => Bx w2 (w.heap.size) 24 #[.bool (bbx), (.slice ao_x kx c_x)] ∧ Bx w2 (w.heap.size + 1) 24 #[.bool (bby), (.slice ao_y ky c_y)] ∧ Below w.heap.size w w2) ⟨BX0.out, BX1.out, HB.out.trans (HG.out.mono HB.out.size)⟩ ?_
  clear HB HG BX0 BX1
  rintro Wx1 ⟨bx0, bx1, HB⟩
  replace HB := Lib.hid HB
  refine wp_cond_false (by rfl) ?_
  refine wp_skip ?_
  show Code.wp _ _ _ _ _
  have lx0 := bx0.cells
  have lx1 := bx1.cells
  have BX0 := Lib.hid bx0
  have BX1 := Lib.hid bx1
  clear bx0 bx1
  refine sK fun K hK => ?_
  have HS0 := Lib.hid (HB.out.size)
  have MX0 : w.heap.size < Wx1.heap.size := BX0.out.lt
  have MX1 : w.heap.size + 1 < Wx1.heap.size := BX1.out.lt
  refine wp_region_plan 12 [8, 9, 10, 11] [] (fun i => if i = 8 then 5 else if i = 9 then 6 else if i = 10 then 7 else 8) (fun i => if i = 8 then .cells #[.int .u64 0, .string ⟨#[]⟩, .bool false] 33 else if i = 9 then .cells #[.int .u64 0, .string ⟨#[]⟩, .bool false] 33 else if i = 10 then .cells #[.bool false, .slice none 0 0] 38 else .cells #[.bool false, .slice none 0 0] 38) [(true, 0), (true, 2), (true, 4), (true, 6), (true, 1), (true, 3), (false, 5), (false, 7)] (by kernel_rfl) (by kernel_rfl) (by intro i hi; simp only [List.mem_cons, List.not_mem_nil, or_false] at hi; rcases hi with rfl | rfl | rfl | rfl <;> exact ⟨_, rfl, rfl, rfl, by simp, fun ρ w => by kernel_rfl⟩) (fun i hi => by cases hi) (fun _ _ _ _ _ h => h) (fun T hT => ?_)
  iterate 4 (refine wpPlan_takeL (v := ?_) rfl (by rfl) (fun w' hw => ?_) ?_; rotate_left; go_simp; with_reducible rfl; simp only [Act.put, rA, rB, rC])
  refine wpPlan_callL rfl (by rfl) Tryz.call8 (fun w' hw => zlof bbx kx fx mx a ao_x c_x w' (Lib.hid (HWx.out.gr (Gr.trans HB.out hw))) HFx HVx HAx (by first | omega | exact wlc (by decide)) (by first | omega | exact wlc (by decide))) (by rfl) ?_
  simp only [Act.put, rA, rB, rC]
  refine wpPlan_callL rfl (by rfl) Tryz.call8 (fun w' hw => zlof bby ky fy my b ao_y c_y w' (Lib.hid (HWy.out.gr (Gr.trans HB.out hw))) HFy HVy HAy (by first | omega | exact wlc (by decide)) (by first | omega | exact wlc (by decide))) (by rfl) ?_
  simp only [Act.put, rA, rB, rC]
  refine wpPlan_callE rfl (by rfl) Tryz.call9 (by rfl) (fun w' hw => ((zlref bbx kx fx mx a ao_x c_x w' (Lib.hid (HWx.out.gr (Gr.trans HB.out hw))) HFx HVx HAx (by first | omega | exact wlc (by decide)) (by first | omega | exact wlc (by decide)))).mono ?_)
  rintro e vv1 ⟨⟨rv1, rfl, bx3⟩, hg0⟩
  obtain ⟨ao1, nn1, cc1, rfl⟩ := Rn.sl bx3
  refine ⟨_, rfl, hg0, ?_⟩
  replace hg0 := Gr.trans hw hg0; clear hw
  have HG0 := Lib.hid hg0; clear hg0
  replace BX0 := bG BX0 HG0
  replace BX1 := bG BX1 HG0
  replace HB := Lib.hid (HB.out.trans (HG0.out.mono HB.out.size))
  have BX3 := Lib.hid bx3; clear bx3
  clear HG0
  clear lx0; have lx0 := BX0.out.cells
  clear lx1; have lx1 := BX1.out.cells
  simp only [Act.put, rA, rB, rC]
  refine wpPlan_callE rfl (by rfl) Tryz.call9 (by rfl) (fun w' hw => ((zlref bby ky fy my b ao_y c_y w' (Lib.hid (HWy.out.gr (Gr.trans HB.out hw))) HFy HVy HAy (by first | omega | exact wlc (by decide)) (by first | omega | exact wlc (by decide)))).mono ?_)
  rintro e vv2 ⟨⟨rv2, rfl, bx4⟩, hg0⟩
  obtain ⟨ao2, nn2, cc2, rfl⟩ := Rn.sl bx4
  refine ⟨_, rfl, hg0, ?_⟩
  replace hg0 := Gr.trans hw hg0; clear hw
  have HG0 := Lib.hid hg0; clear hg0
  replace BX0 := bG BX0 HG0
  replace BX1 := bG BX1 HG0
  replace BX3 := rG BX3 HG0
  replace HB := Lib.hid (HB.out.trans (HG0.out.mono HB.out.size))
  have BX4 := Lib.hid bx4; clear bx4
  clear HG0
  clear lx0; have lx0 := BX0.out.cells
  clear lx1; have lx1 := BX1.out.cells
  simp only [Act.put, rA, rB, rC]
  refine wpPlan_nil (hT.out _ _ ?_); clear hT T
  intro G vw2 hg hf
  simp only [puts, Act.put, rA, rB, rC, rD, rE, ↓reduceIte, Nat.reduceEqDiff]
  clear lx0 lx1
  have HG := Lib.hid (hg)
  clear hg
  have bx5 := Bx.of_fresh hf (i := 8) (by decide) rfl
  have yx5 := (hf.1 8 (by decide)).1
  have bx6 := Bx.of_fresh hf (i := 9) (by decide) rfl
  have yx6 := (hf.1 9 (by decide)).1
  have dx5_6 : G 8 ≠ G 9 := fun e => absurd (hf.2 8 (by decide) 9 (by decide) e) (by decide)
  have bx7 := Bx.of_fresh hf (i := 10) (by decide) rfl
  have yx7 := (hf.1 10 (by decide)).1
  have dx5_7 : G 8 ≠ G 10 := fun e => absurd (hf.2 8 (by decide) 10 (by decide) e) (by decide)
  have dx6_7 : G 9 ≠ G 10 := fun e => absurd (hf.2 9 (by decide) 10 (by decide) e) (by decide)
  have bx8 := Bx.of_fresh hf (i := 11) (by decide) rfl
  have yx8 := (hf.1 11 (by decide)).1
  have dx5_8 : G 8 ≠ G 11 := fun e => absurd (hf.2 8 (by decide) 11 (by decide) e) (by decide)
  have dx6_8 : G 9 ≠ G 11 := fun e => absurd (hf.2 9 (by decide) 11 (by decide) e) (by decide)
  have dx7_8 : G 10 ≠ G 11 := fun e => absurd (hf.2 10 (by decide) 11 (by decide) e) (by decide)
  clear hf
  generalize G 8 = gx5 at *
  generalize G 9 = gx6 at *
  generalize G 10 = gx7 at *
  generalize G 11 = gx8 at *
  have qx0_5 : w.heap.size < gx5 := Nat.lt_of_lt_of_le MX0 yx5
  have qx0_6 : w.heap.size < gx6 := Nat.lt_of_lt_of_le MX0 yx6
  have qx0_7 : w.heap.size < gx7 := Nat.lt_of_lt_of_le MX0 yx7
  have qx0_8 : w.heap.size < gx8 := Nat.lt_of_lt_of_le MX0 yx8
  have qx1_5 : w.heap.size + 1 < gx5 := Nat.lt_of_lt_of_le MX1 yx5
  have qx1_6 : w.heap.size + 1 < gx6 := Nat.lt_of_lt_of_le MX1 yx6
  have qx1_7 : w.heap.size + 1 < gx7 := Nat.lt_of_lt_of_le MX1 yx7
  have qx1_8 : w.heap.size + 1 < gx8 := Nat.lt_of_lt_of_le MX1 yx8
  replace yx5 : w.heap.size ≤ gx5 := Nat.le_trans HS0.out yx5
  replace yx6 : w.heap.size ≤ gx6 := Nat.le_trans HS0.out yx6
  replace yx7 : w.heap.size ≤ gx7 := Nat.le_trans HS0.out yx7
  replace yx8 : w.heap.size ≤ gx8 := Nat.le_trans HS0.out yx8
  replace BX0 := bG BX0 HG
  replace BX1 := bG BX1 HG
  replace BX3 := rG BX3 HG
  replace BX4 := rG BX4 HG
  have lx5 := bx5.cells; have fx5 := bx5.free
  have lx6 := bx6.cells; have fx6 := bx6.free
  have lx7 := bx7.cells; have fx7 := bx7.free
  have lx8 := bx8.cells; have fx8 := bx8.free
  have r0 := Gr.refl vw2
  have BX5 := Lib.hid bx5; clear bx5
  have BX6 := Lib.hid bx6; clear bx6
  have BX7 := Lib.hid bx7; clear bx7
  have BX8 := Lib.hid bx8; clear bx8
  go_wp2
  refine hK.out _ _ ?_; clear hK K
  show Code.wp _ _ _ _ _
  clear lx5 fx5
  clear lx6 fx6
  clear lx7 fx7
  clear lx8 fx8
  clear r0
  refine forgetW (fun w2 => Rn w2 (.slice ao1 nn1 cc1) (Int.natAbs (a)) ∧ Rn w2 (.slice ao2 nn2 cc2) (Int.natAbs (b)) ∧ Bx w2 gx5 33 #[.int .u64 (lo (Int.natAbs (a))), .string (bg (Int.natAbs (a))), .bool (decide ((a) < 0))] ∧ Bx w2 gx6 33 #[.int .u64 (lo (Int.natAbs (b))), .string (bg (Int.natAbs (b))), .bool (decide ((b) < 0))] ∧ Bx w2 gx7 38 #[.bool (decide ((a) < 0)), (.slice ao1 nn1 cc1)] ∧ Bx w2 gx8 38 #[.bool (decide ((b) < 0)), (.slice ao2 nn2 cc2)] ∧ Below w.heap.size w w2) ⟨ro2 (ro2 (ro3 (ro3 (BX3.out) (Rn.ne BX3.out BX5.out (by decide))) (Rn.ne BX3.out BX6.out (by decide))) (Rn.ne BX3.out BX7.out (by decide))) (Rn.ne BX3.out BX8.out (by decide)), ro2 (ro2 (ro3 (ro3 (BX4.out) (Rn.ne BX4.out BX5.out (by decide))) (Rn.ne BX4.out BX6.out (by decide))) (Rn.ne BX4.out BX7.out (by decide))) (Rn.ne BX4.out BX8.out (by decide)), (so2 (so2 (so3 ((((BX5.out).set 0 _).set 1 _).set 2 _) (by show gx5 ≠ gx6; omega)) (by show gx5 ≠ gx7; omega)) (by show gx5 ≠ gx8; omega)).eq (by simp only [rA, rB, rC]), (so2 (so2 ((((so3 (BX6.out) (by show gx6 ≠ gx5; omega)).set 0 _).set 1 _).set 2 _) (by show gx6 ≠ gx7; omega)) (by show gx6 ≠ gx8; omega)).eq (by simp only [rA, rB, rC]), (so2 (((so3 (so3 (BX7.out) (by show gx7 ≠ gx5; omega)) (by show gx7 ≠ gx6; omega)).set 0 _).set 1 _) (by show gx7 ≠ gx8; omega)).eq (by simp only [rA, rB, rC]), (((so2 (so3 (so3 (BX8.out) (by show gx8 ≠ gx5; omega)) (by show gx8 ≠ gx6; omega)) (by show gx8 ≠ gx7; omega)).set 0 _).set 1 _).eq (by simp only [rA, rB, rC]), sc2 (sc2 (sc3 (sc3 (HB.out.trans (HG.out.mono HB.out.size)) (by show w.heap.size ≤ gx5; omega)) (by show w.heap.size ≤ gx6; omega)) (by show w.heap.size ≤ gx7; omega)) (by show w.heap.size ≤ gx8; omega)⟩ ?_
  clear HB HG BX0 BX1 BX3 BX4 BX5 BX6 BX7 BX8
  rintro Wx3 ⟨bx3, bx4, bx5, bx6, bx7, bx8, HB⟩
  replace HB := Lib.hid HB
  have lx7 := bx7.cells
  have lx8 := bx8.cells
  have BX3 := Lib.hid bx3
  have BX4 := Lib.hid bx4
  have BX5 := Lib.hid bx5
  have BX6 := Lib.hid bx6
  have BX7 := Lib.hid bx7
  have BX8 := Lib.hid bx8
  clear bx3 bx4 bx5 bx6 bx7 bx8
  refine sK fun K hK => ?_
  refine wp_region_seqplan 4 [(true, 0), (true, 1), (true, 2), (true, 3)] (by rfl) (by simp) (fun T hT => ?_)
  iterate 2 (refine wpPlan_takeL (v := ?_) rfl (by rfl) (fun w' hw => ?_) ?_; rotate_left; go_simp; with_reducible rfl; simp only [Act.put, rA, rB, rC])
  refine wpPlan_callL rfl (by rfl) Tryz.call17 (fun w' hw => zzcmp (a) (b) (-1) _ _ _ (by have e9 : ((a) : Int) < (b) := (by first | rfl | omega | (simp; done) | exact eg0 _ | (rw [egcd_zero]; done) | (rw [egcd_zero]; simp; done) | exact elt _ _ (by assumption) | exact zback _ | exact eg_comb _ _ | exact eg_abs _ _ | exact idv0 _ _ | exact idv1 _ _ _ (by assumption) | exact idv2 _ _ _ | grind); exact sgs_lt e9) (by omega) (by omega) (BX3.out.gr hw) (BX4.out.gr hw)) (by rfl) ?_
  simp only [Act.put, rA, rB, rC]
  refine wpPlan_takeL (v := ?_) rfl (by rfl) (fun w' hw => ?_) ?_; rotate_left; go_simp; with_reducible rfl; simp only [Act.put, rA, rB, rC]
  refine wpPlan_nil (hT.out _ _ ?_); clear hT T
  intro vw3 hg
  simp only [puts, Act.put, rA, rB, rC, rD, rE, ↓reduceIte, Nat.reduceEqDiff]
  clear lx7 lx8
  have HG := Lib.hid (hg)
  clear hg
  replace BX3 := rG BX3 HG
  replace BX4 := rG BX4 HG
  replace BX5 := bG BX5 HG
  replace BX6 := bG BX6 HG
  replace BX7 := bG BX7 HG
  replace BX8 := bG BX8 HG
  have r0 := Gr.refl vw3
  go_wp2
  refine hK.out _ _ ?_; clear hK K
  show Code.wp _ _ _ _ _
  clear r0
  refine forgetW (fun w2 => Rn w2 (.slice ao1 nn1 cc1) (Int.natAbs (a)) ∧ Rn w2 (.slice ao2 nn2 cc2) (Int.natAbs (b)) ∧ Bx w2 gx5 33 #[.int .u64 (lo (Int.natAbs (a))), .string (bg (Int.natAbs (a))), .bool (decide ((a) < 0))] ∧ Bx w2 gx6 33 #[.int .u64 (lo (Int.natAbs (b))), .string (bg (Int.natAbs (b))), .bool (decide ((b) < 0))] ∧ Bx w2 gx7 38 #[.bool (decide ((a) < 0)), (.slice ao1 nn1 cc1)] ∧ Bx w2 gx8 38 #[.bool (decide ((b) < 0)), (.slice ao2 nn2 cc2)] ∧ Below w.heap.size w w2) ⟨BX3.out, BX4.out, BX5.out, BX6.out, BX7.out, BX8.out, HB.out.trans (HG.out.mono HB.out.size)⟩ ?_
  clear HB HG BX3 BX4 BX5 BX6 BX7 BX8
  rintro Wx4 ⟨bx3, bx4, bx5, bx6, bx7, bx8, HB⟩
  replace HB := Lib.hid HB
  obtain ⟨u1, HZ1⟩ : ∃ z, Hid ((a) + (b) = z) := ⟨_, Lib.hid rfl⟩
  have su1 : wl (Int.natAbs (u1)) ≤ 17 := by rw [← HZ1.out]; have := wl_iadd (a) (b); omega
  have HZ2 : Hid ((a) + (b) = u1) := Lib.hid (by first | rfl | omega | (simp; done) | exact eg0 _ | (rw [egcd_zero]; done) | (rw [egcd_zero]; simp; done) | exact elt _ _ (by assumption) | exact zback _ | exact eg_comb _ _ | exact eg_abs _ _ | exact idv0 _ _ | exact idv1 _ _ _ (by assumption) | exact idv2 _ _ _ | (simp only [← HZ1.out] <;> first | rfl | omega | (simp; done) | exact eg0 _ | (rw [egcd_zero]; done) | (rw [egcd_zero]; simp; done) | exact elt _ _ (by assumption) | exact zback _ | exact eg_comb _ _ | exact eg_abs _ _ | exact idv0 _ _ | exact idv1 _ _ _ (by assumption) | exact idv2 _ _ _ | grind))
  have su2 : tw (Int.natAbs (u1)) ≤ 49 := by have e := HZ2.out; first | omega | (rw [← e]; have := tw_iadd (a) (b); omega)
  obtain ⟨u3, HZ3⟩ : ∃ z, Hid ((a) - (b) = z) := ⟨_, Lib.hid rfl⟩
  have su3 : wl (Int.natAbs (u3)) ≤ 17 := by rw [← HZ3.out]; have := wl_isub (a) (b); omega
  have HZ4 : Hid ((a) - (b) = u3) := Lib.hid (by first | rfl | omega | (simp; done) | exact eg0 _ | (rw [egcd_zero]; done) | (rw [egcd_zero]; simp; done) | exact elt _ _ (by assumption) | exact zback _ | exact eg_comb _ _ | exact eg_abs _ _ | exact idv0 _ _ | exact idv1 _ _ _ (by assumption) | exact idv2 _ _ _ | (simp only [← HZ3.out, ← HZ1.out] <;> first | rfl | omega | (simp; done) | exact eg0 _ | (rw [egcd_zero]; done) | (rw [egcd_zero]; simp; done) | exact elt _ _ (by assumption) | exact zback _ | exact eg_comb _ _ | exact eg_abs _ _ | exact idv0 _ _ | exact idv1 _ _ _ (by assumption) | exact idv2 _ _ _ | grind))
  have su4 : tw (Int.natAbs (u3)) ≤ 49 := by have e := HZ4.out; first | omega | (rw [← e]; have := tw_isub (a) (b); omega)
  obtain ⟨u5, HZ5⟩ : ∃ z, Hid ((a) * (b) = z) := ⟨_, Lib.hid rfl⟩
  have su5 : wl (Int.natAbs (u5)) ≤ 32 := by rw [← HZ5.out]; have := wl_imul (a) (b); omega
  have HZ6 : Hid ((a) * (b) = u5) := Lib.hid (by first | rfl | omega | (simp; done) | exact eg0 _ | (rw [egcd_zero]; done) | (rw [egcd_zero]; simp; done) | exact elt _ _ (by assumption) | exact zback _ | exact eg_comb _ _ | exact eg_abs _ _ | exact idv0 _ _ | exact idv1 _ _ _ (by assumption) | exact idv2 _ _ _ | (simp only [← HZ5.out, ← HZ3.out, ← HZ1.out] <;> first | rfl | omega | (simp; done) | exact eg0 _ | (rw [egcd_zero]; done) | (rw [egcd_zero]; simp; done) | exact elt _ _ (by assumption) | exact zback _ | exact eg_comb _ _ | exact eg_abs _ _ | exact idv0 _ _ | exact idv1 _ _ _ (by assumption) | exact idv2 _ _ _ | grind))
  have su6 : tw (Int.natAbs (u5)) ≤ 96 := by have e := HZ6.out; first | omega | (rw [← e]; have := tw_imul (a) (b); omega)
  obtain ⟨u7, HZ7⟩ : ∃ z, Hid (-(a) = z) := ⟨_, Lib.hid rfl⟩
  have su7 : wl (Int.natAbs (u7)) ≤ 16 := by rw [← HZ7.out]; rw [Int.natAbs_neg]; omega
  have HZ8 : Hid (-(a) = u7) := Lib.hid (by first | rfl | omega | (simp; done) | exact eg0 _ | (rw [egcd_zero]; done) | (rw [egcd_zero]; simp; done) | exact elt _ _ (by assumption) | exact zback _ | exact eg_comb _ _ | exact eg_abs _ _ | exact idv0 _ _ | exact idv1 _ _ _ (by assumption) | exact idv2 _ _ _ | (simp only [← HZ7.out, ← HZ5.out, ← HZ3.out, ← HZ1.out] <;> first | rfl | omega | (simp; done) | exact eg0 _ | (rw [egcd_zero]; done) | (rw [egcd_zero]; simp; done) | exact elt _ _ (by assumption) | exact zback _ | exact eg_comb _ _ | exact eg_abs _ _ | exact idv0 _ _ | exact idv1 _ _ _ (by assumption) | exact idv2 _ _ _ | grind))
  have su8 : tw (Int.natAbs (u7)) ≤ 48 := by have e := HZ8.out; first | omega | (rw [← e]; rw [Int.natAbs_neg]; omega)
  have hd1 : decide (a = b) = false := decide_eq_false (by first | rfl | omega | (simp; done) | exact eg0 _ | (rw [egcd_zero]; done) | (rw [egcd_zero]; simp; done) | exact elt _ _ (by assumption) | exact zback _ | exact eg_comb _ _ | exact eg_abs _ _ | exact idv0 _ _ | exact idv1 _ _ _ (by assumption) | exact idv2 _ _ _ | (simp only [← HZ7.out, ← HZ5.out, ← HZ3.out, ← HZ1.out] <;> first | rfl | omega | (simp; done) | exact eg0 _ | (rw [egcd_zero]; done) | (rw [egcd_zero]; simp; done) | exact elt _ _ (by assumption) | exact zback _ | exact eg_comb _ _ | exact eg_abs _ _ | exact idv0 _ _ | exact idv1 _ _ _ (by assumption) | exact idv2 _ _ _ | grind))
  have lx5 := bx5.cells
  have lx6 := bx6.cells
  have lx7 := bx7.cells
  have lx8 := bx8.cells
  have BX3 := Lib.hid bx3
  have BX4 := Lib.hid bx4
  have BX5 := Lib.hid bx5
  have BX6 := Lib.hid bx6
  have BX7 := Lib.hid bx7
  have BX8 := Lib.hid bx8
  clear bx3 bx4 bx5 bx6 bx7 bx8
  refine sK fun K hK => ?_
  have HS0 := Lib.hid (HB.out.size)
  have MX5 : gx5 < Wx4.heap.size := BX5.out.lt
  have MX6 : gx6 < Wx4.heap.size := BX6.out.lt
  have MX7 : gx7 < Wx4.heap.size := BX7.out.lt
  have MX8 : gx8 < Wx4.heap.size := BX8.out.lt
  refine wp_region_planQ 71 [] [] (fun _ => 0) (fun _ => .cells #[] 0) [(true, 0), (true, 1), (true, 2), (true, 3), (true, 4), (true, 5), (true, 6), (true, 7), (true, 8), (false, 9), (true, 10), (true, 11), (true, 12), (true, 13), (true, 14), (true, 15), (true, 16), (true, 17), (false, 18), (true, 19), (true, 20), (true, 21), (true, 22), (true, 23), (true, 24), (true, 25), (true, 26), (false, 27), (true, 28), (true, 29), (true, 30), (true, 31), (true, 32), (true, 33), (false, 34), (true, 35), (true, 36), (true, 37), (true, 38), (true, 39), (true, 40), (true, 41), (true, 42), (true, 43), (true, 44), (true, 45), (true, 46), (true, 47), (true, 48), (true, 49), (true, 50), (true, 51), (true, 52), (true, 53), (true, 54), (true, 55), (true, 56), (true, 57), (true, 58), (true, 59), (true, 60), (true, 61), (true, 62), (true, 63), (true, 64), (true, 65), (true, 66), (true, 67), (true, 68), (true, 69), (true, 70)] (by kernel_rfl) (by kernel_rfl) (fun i hi => by cases hi) (fun i hi => by cases hi) (fun _ _ _ _ _ h => h) (fun T hT => ?_)
  iterate 2 (refine wpPlan_takeL (v := ?_) rfl (by rfl) (fun w' hw => ?_) ?_; rotate_left; go_simp; with_reducible rfl; simp only [Act.put, rA, rB, rC])
  refine wpPlan_callL rfl (by rfl) Tryz.call12 (fun w' hw => samez_any (a) (a) _ _ (rfl) (BX3.out.gr hw) (by first | omega | exact wlc (by decide)) (by first | omega | exact wlc (by decide)) (Lib.hid (HT.out.gr (Gr.trans HB.out hw)))) (by rfl) ?_
  simp only [Act.put, rA, rB, rC]
  iterate 3 (refine wpPlan_takeL (v := ?_) rfl (by rfl) (fun w' hw => ?_) ?_; rotate_left; go_simp; with_reducible rfl; simp only [Act.put, rA, rB, rC])
  refine wpPlan_callL rfl (by rfl) Tryz.call18 (fun w' hw => ziadd (a) (b) (u1) _ HZ1.out (by first | omega | exact wlc (by decide)) (by first | omega | exact wlc (by decide))) (by rfl) ?_
  simp only [Act.put, rA, rB, rC]
  iterate 2 (refine wpPlan_takeL (v := ?_) rfl (by rfl) (fun w' hw => ?_) ?_; rotate_left; go_simp; with_reducible rfl; simp only [Act.put, rA, rB, rC])
  refine wpPlan_callE rfl (by rfl) Tryz.call19 (by rfl) (fun w' hw => (zadd_any (a) (b) (u1) _ _ _ HZ2.out (by omega) (by omega) (BX3.out.gr hw) (BX4.out.gr hw)).mono ?_)
  rintro e vv1 ⟨⟨rv3, rfl, bx9⟩, hg0⟩
  obtain ⟨ao3, nn3, cc3, rfl⟩ := Rn.sl bx9
  refine ⟨_, rfl, hg0, ?_⟩
  replace hg0 := Gr.trans hw hg0; clear hw
  have HG0 := Lib.hid hg0; clear hg0
  replace BX3 := rG BX3 HG0
  replace BX4 := rG BX4 HG0
  replace BX5 := bG BX5 HG0
  replace BX6 := bG BX6 HG0
  replace BX7 := bG BX7 HG0
  replace BX8 := bG BX8 HG0
  replace HB := Lib.hid (HB.out.trans (HG0.out.mono HB.out.size))
  have BX9 := Lib.hid bx9; clear bx9
  clear HG0
  clear lx5; have lx5 := BX5.out.cells
  clear lx6; have lx6 := BX6.out.cells
  clear lx7; have lx7 := BX7.out.cells
  clear lx8; have lx8 := BX8.out.cells
  simp only [Act.put, rA, rB, rC]
  refine wpPlan_callL rfl (by rfl) Tryz.call12 (fun w' hw => samez_any (u1) (u1) _ _ (rfl) (BX9.out.gr hw) (by first | omega | exact wlc (by decide)) (by first | omega | exact wlc (by decide)) (Lib.hid (HT.out.gr (Gr.trans HB.out hw)))) (by rfl) ?_
  simp only [Act.put, rA, rB, rC]
  iterate 4 (refine wpPlan_takeL (v := ?_) rfl (by rfl) (fun w' hw => ?_) ?_; rotate_left; go_simp; with_reducible rfl; simp only [Act.put, rA, rB, rC])
  refine wpPlan_callL rfl (by rfl) Tryz.call20 (fun w' hw => zisub (a) (b) (u3) _ HZ3.out (by first | omega | exact wlc (by decide)) (by first | omega | exact wlc (by decide))) (by rfl) ?_
  simp only [Act.put, rA, rB, rC]
  iterate 2 (refine wpPlan_takeL (v := ?_) rfl (by rfl) (fun w' hw => ?_) ?_; rotate_left; go_simp; with_reducible rfl; simp only [Act.put, rA, rB, rC])
  refine wpPlan_callE rfl (by rfl) Tryz.call21 (by rfl) (fun w' hw => (zsub_any (a) (b) (u3) _ _ _ HZ4.out (by omega) (by omega) (BX3.out.gr hw) (BX4.out.gr hw)).mono ?_)
  rintro e vv2 ⟨⟨rv4, rfl, bx10⟩, hg0⟩
  obtain ⟨ao4, nn4, cc4, rfl⟩ := Rn.sl bx10
  refine ⟨_, rfl, hg0, ?_⟩
  replace hg0 := Gr.trans hw hg0; clear hw
  have HG0 := Lib.hid hg0; clear hg0
  replace BX3 := rG BX3 HG0
  replace BX4 := rG BX4 HG0
  replace BX5 := bG BX5 HG0
  replace BX6 := bG BX6 HG0
  replace BX7 := bG BX7 HG0
  replace BX8 := bG BX8 HG0
  replace BX9 := rG BX9 HG0
  replace HB := Lib.hid (HB.out.trans (HG0.out.mono HB.out.size))
  have BX10 := Lib.hid bx10; clear bx10
  clear HG0
  clear lx5; have lx5 := BX5.out.cells
  clear lx6; have lx6 := BX6.out.cells
  clear lx7; have lx7 := BX7.out.cells
  clear lx8; have lx8 := BX8.out.cells
  simp only [Act.put, rA, rB, rC]
  refine wpPlan_callL rfl (by rfl) Tryz.call12 (fun w' hw => samez_any (u3) (u3) _ _ (rfl) (BX10.out.gr hw) (by first | omega | exact wlc (by decide)) (by first | omega | exact wlc (by decide)) (Lib.hid (HT.out.gr (Gr.trans HB.out hw)))) (by rfl) ?_
  simp only [Act.put, rA, rB, rC]
  iterate 4 (refine wpPlan_takeL (v := ?_) rfl (by rfl) (fun w' hw => ?_) ?_; rotate_left; go_simp; with_reducible rfl; simp only [Act.put, rA, rB, rC])
  refine wpPlan_callL rfl (by rfl) Tryz.call22 (fun w' hw => zimul (a) (b) (u5) _ HZ5.out (by first | omega | exact wlc (by decide)) (by first | omega | exact wlc (by decide))) (by rfl) ?_
  simp only [Act.put, rA, rB, rC]
  iterate 2 (refine wpPlan_takeL (v := ?_) rfl (by rfl) (fun w' hw => ?_) ?_; rotate_left; go_simp; with_reducible rfl; simp only [Act.put, rA, rB, rC])
  refine wpPlan_callE rfl (by rfl) Tryz.call23 (by rfl) (fun w' hw => (zmul_any (a) (b) (u5) _ _ _ HZ6.out (by omega) (by omega) (BX3.out.gr hw) (BX4.out.gr hw)).mono ?_)
  rintro e vv3 ⟨⟨rv5, rfl, bx11⟩, hg0⟩
  obtain ⟨ao5, nn5, cc5, rfl⟩ := Rn.sl bx11
  refine ⟨_, rfl, hg0, ?_⟩
  replace hg0 := Gr.trans hw hg0; clear hw
  have HG0 := Lib.hid hg0; clear hg0
  replace BX3 := rG BX3 HG0
  replace BX4 := rG BX4 HG0
  replace BX5 := bG BX5 HG0
  replace BX6 := bG BX6 HG0
  replace BX7 := bG BX7 HG0
  replace BX8 := bG BX8 HG0
  replace BX9 := rG BX9 HG0
  replace BX10 := rG BX10 HG0
  replace HB := Lib.hid (HB.out.trans (HG0.out.mono HB.out.size))
  have BX11 := Lib.hid bx11; clear bx11
  clear HG0
  clear lx5; have lx5 := BX5.out.cells
  clear lx6; have lx6 := BX6.out.cells
  clear lx7; have lx7 := BX7.out.cells
  clear lx8; have lx8 := BX8.out.cells
  simp only [Act.put, rA, rB, rC]
  refine wpPlan_callL rfl (by rfl) Tryz.call12 (fun w' hw => samez_any (u5) (u5) _ _ (rfl) (BX11.out.gr hw) (by first | omega | exact wlc (by decide)) (by first | omega | exact wlc (by decide)) (Lib.hid (HT.out.gr (Gr.trans HB.out hw)))) (by rfl) ?_
  simp only [Act.put, rA, rB, rC]
  iterate 3 (refine wpPlan_takeL (v := ?_) rfl (by rfl) (fun w' hw => ?_) ?_; rotate_left; go_simp; with_reducible rfl; simp only [Act.put, rA, rB, rC])
  refine wpPlan_callL rfl (by rfl) Tryz.call24 (fun w' hw => zineg (a) (u7) _ HZ7.out) (by rfl) ?_
  simp only [Act.put, rA, rB, rC]
  refine wpPlan_takeL (v := ?_) rfl (by rfl) (fun w' hw => ?_) ?_; rotate_left; go_simp; with_reducible rfl; simp only [Act.put, rA, rB, rC]
  refine wpPlan_callE rfl (by rfl) Tryz.call25 (by rfl) (fun w' hw => (zneg_any (a) (u7) _ _ HZ8.out (BX3.out.gr hw)).mono ?_)
  rintro e vv4 ⟨⟨rv6, rfl, bx12⟩, hg0⟩
  obtain ⟨ao6, nn6, cc6, rfl⟩ := Rn.sl bx12
  refine ⟨_, rfl, hg0, ?_⟩
  replace hg0 := Gr.trans hw hg0; clear hw
  have HG0 := Lib.hid hg0; clear hg0
  replace BX3 := rG BX3 HG0
  replace BX4 := rG BX4 HG0
  replace BX5 := bG BX5 HG0
  replace BX6 := bG BX6 HG0
  replace BX7 := bG BX7 HG0
  replace BX8 := bG BX8 HG0
  replace BX9 := rG BX9 HG0
  replace BX10 := rG BX10 HG0
  replace BX11 := rG BX11 HG0
  replace HB := Lib.hid (HB.out.trans (HG0.out.mono HB.out.size))
  have BX12 := Lib.hid bx12; clear bx12
  clear HG0
  clear lx5; have lx5 := BX5.out.cells
  clear lx6; have lx6 := BX6.out.cells
  clear lx7; have lx7 := BX7.out.cells
  clear lx8; have lx8 := BX8.out.cells
  simp only [Act.put, rA, rB, rC]
  refine wpPlan_callL rfl (by rfl) Tryz.call12 (fun w' hw => samez_any (u7) (u7) _ _ (rfl) (BX12.out.gr hw) (by first | omega | exact wlc (by decide)) (by first | omega | exact wlc (by decide)) (Lib.hid (HT.out.gr (Gr.trans HB.out hw)))) (by rfl) ?_
  simp only [Act.put, rA, rB, rC]
  iterate 3 (refine wpPlan_takeL (v := ?_) rfl (by rfl) (fun w' hw => ?_) ?_; rotate_left; go_simp; with_reducible rfl; simp only [Act.put, rA, rB, rC])
  refine wpPlan_callL rfl (by rfl) Tryz.call26 (fun w' hw => zisign (a) (s) _ HSA.out) (by rfl) ?_
  simp only [Act.put, rA, rB, rC]
  refine wpPlan_takeL (v := ?_) rfl (by rfl) (fun w' hw => ?_) ?_; rotate_left; go_simp; with_reducible rfl; simp only [Act.put, rA, rB, rC]
  refine wpPlan_callL rfl (by rfl) Tryz.call14 (fun w' hw => zrsign (a) (s) _ _ HSA.out (BX3.out.gr hw)) (by rfl) ?_
  simp only [Act.put, rA, rB, rC]
  iterate 5 (refine wpPlan_takeL (v := ?_) rfl (by rfl) (fun w' hw => ?_) ?_; rotate_left; go_simp; with_reducible rfl; simp only [Act.put, rA, rB, rC])
  refine wpPlan_callL rfl (by rfl) Tryz.call27 (fun w' hw => zicmp (a) (b) (-1) _ (by have e9 : ((a) : Int) < (b) := (by first | rfl | omega | (simp; done) | exact eg0 _ | (rw [egcd_zero]; done) | (rw [egcd_zero]; simp; done) | exact elt _ _ (by assumption) | exact zback _ | exact eg_comb _ _ | exact eg_abs _ _ | exact idv0 _ _ | exact idv1 _ _ _ (by assumption) | exact idv2 _ _ _ | (simp only [← HZ7.out, ← HZ5.out, ← HZ3.out, ← HZ1.out] <;> first | rfl | omega | (simp; done) | exact eg0 _ | (rw [egcd_zero]; done) | (rw [egcd_zero]; simp; done) | exact elt _ _ (by assumption) | exact zback _ | exact eg_comb _ _ | exact eg_abs _ _ | exact idv0 _ _ | exact idv1 _ _ _ (by assumption) | exact idv2 _ _ _ | grind)); exact sgs_lt e9) (by first | omega | exact wlc (by decide)) (by first | omega | exact wlc (by decide))) (by rfl) ?_
  simp only [Act.put, rA, rB, rC]
  iterate 13 (refine wpPlan_takeL (v := ?_) rfl (by rfl) (fun w' hw => ?_) ?_; rotate_left; go_simp; with_reducible rfl; simp only [Act.put, rA, rB, rC])
  refine wpPlan_callL rfl (by rfl) Tryz.call29 (fun w' hw => abs_any (a) _) (by rfl) ?_
  simp only [Act.put, rA, rB, rC]
  refine wpPlan_callL rfl (by rfl) Tryz.call28 (fun w' hw => nztexts (Int.natAbs (a)) tx _ HTX.out (by first | omega | exact wlc (by decide)) (Lib.hid (HT.out.gr (Gr.trans HB.out hw)))) (by rfl) ?_
  simp only [Act.put, rA, rB, rC]
  iterate 2 (refine wpPlan_takeL (v := ?_) rfl (by rfl) (fun w' hw => ?_) ?_; rotate_left; go_simp; with_reducible rfl; simp only [Act.put, rA, rB, rC])
  refine wpPlan_callL rfl (by rfl) Tryz.call30 (fun w' hw => zrtext _ (Int.natAbs (a)) tx _ HTX.out (BX3.out.gr hw) (by omega)) (by rfl) ?_
  simp only [Act.put, rA, rB, rC]
  iterate 3 (refine wpPlan_takeL (v := ?_) rfl (by rfl) (fun w' hw => ?_) ?_; rotate_left; go_simp; with_reducible rfl; simp only [Act.put, rA, rB, rC])
  refine wpPlan_callL rfl (by rfl) Tryz.call7 (fun w' hw => worksz_any _ (Lib.hid (HT.out.gr (Gr.trans HB.out hw)))) (by rfl) ?_
  simp only [Act.put, rA, rB, rC]
  refine wpPlan_takeL (v := ?_) rfl (by rfl) (fun w' hw => ?_) ?_; rotate_left; go_simp; with_reducible rfl; simp only [Act.put, rA, rB, rC]
  refine wpPlan_nil (hT.out _ _ ?_); clear hT T
  intro G vw4 hg hf
  simp only [puts, Act.put, List.setIfInBounds_toArray, List.set_cons_zero, List.set_cons_succ, List.drop_succ_cons, List.drop_zero, ↓reduceIte, Nat.reduceEqDiff, List.append_eq, List.cons_append, List.nil_append]
  clear lx5 lx6 lx7 lx8
  have HG := Lib.hid (hg)
  clear hg
  replace BX3 := rG BX3 HG
  replace BX4 := rG BX4 HG
  replace BX5 := bG BX5 HG
  replace BX6 := bG BX6 HG
  replace BX7 := bG BX7 HG
  replace BX8 := bG BX8 HG
  replace BX9 := rG BX9 HG
  replace BX10 := rG BX10 HG
  replace BX11 := rG BX11 HG
  replace BX12 := rG BX12 HG
  have r0 := Gr.refl vw4
  go_wp2
  refine hK.out _ _ ?_; clear hK K
  show Code.wp _ _ _ _ _
  clear r0
  refine forgetW (fun w2 => Below w.heap.size w w2) (HB.out.trans (HG.out.mono HB.out.size)) ?_
  clear HB HG BX3 BX4 BX5 BX6 BX7 BX8 BX9 BX10 BX11 BX12
  rintro Wx5 HB
  replace HB := Lib.hid HB
  clear hd1
  refine wp_ret ?_
  try simp only [Exit.then, Exit.inBlock]
  have r0 := Gr.refl Wx5
  exact bodyPost_ret (v := .bool true) (by simp [results, Tryz.results4, go_sem]) rfl ⟨rfl, HB.out⟩

set_option maxRecDepth 100000 in
set_option maxHeartbeats 8000000 in
theorem sumz_gt (bbx : Bool) (vx : Value) (kx : Nat) (fx : Nat → Nat) (mx : Nat) (bby : Bool) (vy : Value) (ky : Nat) (fy : Nat → Nat) (my : Nat) (a b : Int) (s : Int) (tx : ByteArray) (w : World) (HWx : Hid (Wa w vx kx fx)) (HFx : Hid (∀ i, i < kx → fx i < 4294967296)) (HVx : Hid (vl fx kx = mx)) (HAx : Hid ((if bbx then -((mx : Nat) : Int) else ((mx : Nat) : Int)) = a)) (HWy : Hid (Wa w vy ky fy)) (HFy : Hid (∀ i, i < ky → fy i < 4294967296)) (HVy : Hid (vl fy ky = my)) (HAy : Hid ((if bby then -((my : Nat) : Int) else ((my : Nat) : Int)) = b)) (hkx : kx ≤ 16) (hky : ky ≤ 16) (hlt : b < a) (HSA : Hid (sgI a = s)) (HTX : Hid ((⟨(Lib.decDigits (Int.natAbs a)).toArray⟩ : ByteArray) = tx)) (HT : Hid (Tab w)) :
    Calls Tryz.prog 4 #[.agg #[.bool bbx, vx], .agg #[.bool bby, vy]] w fun e w' => e = .returned (.bool true) ∧ Below w.heap.size w w' := by
  obtain ⟨ao_x, c_x, rfl⟩ := HWx.out.slice
  obtain ⟨ao_y, c_y, rfl⟩ := HWy.out.slice
  have hm_x : wl mx ≤ 16 := by rw [← HVx.out]; have := wl_le.2 (vl_lt HFx.out); omega
  have hb_x : wl (Int.natAbs (a)) ≤ 16 := by rw [zsize HAx.out]; exact hm_x
  have ht_x : tw (Int.natAbs (a)) ≤ 48 := by have := tw_wl (Int.natAbs (a)); omega
  have hm_y : wl my ≤ 16 := by rw [← HVy.out]; have := wl_le.2 (vl_lt HFy.out); omega
  have hb_y : wl (Int.natAbs (b)) ≤ 16 := by rw [zsize HAy.out]; exact hm_y
  have ht_y : tw (Int.natAbs (b)) ≤ 48 := by have := tw_wl (Int.natAbs (b)); omega
  go_enter Tryz.func4, Tryz.ntmps4
  refine sK fun K hK => ?_
  refine wp_region_lit ?_
  go_wp2
  refine hK.out _ _ ?_; clear hK K
  show Code.wp _ _ _ _ _
  refine forgetW (fun w2 => Bx w2 (w.heap.size) 24 #[.bool (bbx), (.slice ao_x kx c_x)] ∧ Bx w2 (w.heap.size + 1) 24 #[.bool (bby), (.slice ao_y ky c_y)] ∧ Below w.heap.size w w2) ⟨(Bx.at rfl).alloc _, Bx.at (by simp), ((Below.refl _ _).alloc (Nat.le_refl _) _).alloc (by simp) _⟩ ?_
  rintro Wx ⟨bx0, bx1, HB⟩
  replace HB := Lib.hid HB
  refine wp_seq ?_
  have lx0 := bx0.cells
  have lx1 := bx1.cells
  have BX0 := Lib.hid bx0
  have BX1 := Lib.hid bx1
  clear bx0 bx1
  refine sK fun K hK => ?_
  have HS0 := Lib.hid (HB.out.size)
  have MX0 : w.heap.size < Wx.heap.size := BX0.out.lt
  have MX1 : w.heap.size + 1 < Wx.heap.size := BX1.out.lt
  refine wp_region_seqplan 5 [(true, 0), (true, 1), (false, 2), (true, 3), (true, 4)] (by rfl) (by simp) (fun T hT => ?_)
  iterate 2 (refine wpPlan_takeL (v := ?_) rfl (by rfl) (fun w' hw => ?_) ?_; rotate_left; go_simp; with_reducible rfl; simp only [Act.put, rA, rB, rC])
  refine wpPlan_slice (cs := #[.bool (bbx), (.slice ao_x kx c_x), .bool (bby), (.slice ao_y ky c_y)]) (E := 24) (n := 2) rfl (by rfl) (fun w' hw => ?_) (fun gx2 vv1 hg0 yx2 bx2 => ?_)
  · go_simp
  have HG0 := Lib.hid hg0; clear hg0
  replace yx2 : w.heap.size ≤ gx2 := by first | exact Nat.le_trans HS0.out yx2 | exact Nat.le_trans HB.out.size yx2
  have BX2 := Lib.hid bx2; clear bx2
  replace BX0 := bG BX0 HG0
  replace BX1 := bG BX1 HG0
  replace HB := Lib.hid (HB.out.trans (HG0.out.mono HB.out.size))
  clear HG0
  clear lx0; have lx0 := BX0.out.cells
  clear lx1; have lx1 := BX1.out.cells
  simp only [Act.put, rA, rB, rC]
  refine wpPlan_callL rfl (by rfl) Tryz.call6 (fun w' hw => few2_ok _ _ _ _ _ _ _ _ 16 gx2 _ (BX2.out.gr hw) (by omega) (by omega)) (by rfl) ?_
  simp only [Act.put, rA, rB, rC]
  refine wpPlan_takeL (v := ?_) rfl (by rfl) (fun w' hw => ?_) ?_; rotate_left; go_simp; with_reducible rfl; simp only [Act.put, rA, rB, rC]
  refine wpPlan_nil (hT.out _ _ ?_); clear hT T
  intro vw1 hg
  simp only [puts, Act.put, rA, rB, rC, rD, rE, ↓reduceIte, Nat.reduceEqDiff]
  clear lx0 lx1
  clear BX2
  have HG := Lib.hid (hg)
  clear hg
  replace BX0 := bG BX0 HG
  replace BX1 := bG BX1 HG
  have r0 := Gr.refl vw1
  go_wp2
  refine hK.out _ _ ?_; clear hK K
  show Code.wp _ _ _ _ _
  clear r0
  refine forgetW (fun w2 => Bx w2 (w.heap.size) 24 #[.bool (bbx), (.slice ao_x kx c_x)] ∧ Bx w2 (w.heap.size + 1) 24 #[.bool (bby), (.slice ao_y ky c_y)] ∧ Below w.heap.size w w2) ⟨BX0.out, BX1.out, HB.out.trans (HG.out.mono HB.out.size)⟩ ?_
  clear HB HG BX0 BX1
  rintro Wx1 ⟨bx0, bx1, HB⟩
  replace HB := Lib.hid HB
  refine wp_cond_false (by rfl) ?_
  refine wp_skip ?_
  show Code.wp _ _ _ _ _
  have lx0 := bx0.cells
  have lx1 := bx1.cells
  have BX0 := Lib.hid bx0
  have BX1 := Lib.hid bx1
  clear bx0 bx1
  refine sK fun K hK => ?_
  have HS0 := Lib.hid (HB.out.size)
  have MX0 : w.heap.size < Wx1.heap.size := BX0.out.lt
  have MX1 : w.heap.size + 1 < Wx1.heap.size := BX1.out.lt
  refine wp_region_plan 12 [8, 9, 10, 11] [] (fun i => if i = 8 then 5 else if i = 9 then 6 else if i = 10 then 7 else 8) (fun i => if i = 8 then .cells #[.int .u64 0, .string ⟨#[]⟩, .bool false] 33 else if i = 9 then .cells #[.int .u64 0, .string ⟨#[]⟩, .bool false] 33 else if i = 10 then .cells #[.bool false, .slice none 0 0] 38 else .cells #[.bool false, .slice none 0 0] 38) [(true, 0), (true, 2), (true, 4), (true, 6), (true, 1), (true, 3), (false, 5), (false, 7)] (by kernel_rfl) (by kernel_rfl) (by intro i hi; simp only [List.mem_cons, List.not_mem_nil, or_false] at hi; rcases hi with rfl | rfl | rfl | rfl <;> exact ⟨_, rfl, rfl, rfl, by simp, fun ρ w => by kernel_rfl⟩) (fun i hi => by cases hi) (fun _ _ _ _ _ h => h) (fun T hT => ?_)
  iterate 4 (refine wpPlan_takeL (v := ?_) rfl (by rfl) (fun w' hw => ?_) ?_; rotate_left; go_simp; with_reducible rfl; simp only [Act.put, rA, rB, rC])
  refine wpPlan_callL rfl (by rfl) Tryz.call8 (fun w' hw => zlof bbx kx fx mx a ao_x c_x w' (Lib.hid (HWx.out.gr (Gr.trans HB.out hw))) HFx HVx HAx (by first | omega | exact wlc (by decide)) (by first | omega | exact wlc (by decide))) (by rfl) ?_
  simp only [Act.put, rA, rB, rC]
  refine wpPlan_callL rfl (by rfl) Tryz.call8 (fun w' hw => zlof bby ky fy my b ao_y c_y w' (Lib.hid (HWy.out.gr (Gr.trans HB.out hw))) HFy HVy HAy (by first | omega | exact wlc (by decide)) (by first | omega | exact wlc (by decide))) (by rfl) ?_
  simp only [Act.put, rA, rB, rC]
  refine wpPlan_callE rfl (by rfl) Tryz.call9 (by rfl) (fun w' hw => ((zlref bbx kx fx mx a ao_x c_x w' (Lib.hid (HWx.out.gr (Gr.trans HB.out hw))) HFx HVx HAx (by first | omega | exact wlc (by decide)) (by first | omega | exact wlc (by decide)))).mono ?_)
  rintro e vv1 ⟨⟨rv1, rfl, bx3⟩, hg0⟩
  obtain ⟨ao1, nn1, cc1, rfl⟩ := Rn.sl bx3
  refine ⟨_, rfl, hg0, ?_⟩
  replace hg0 := Gr.trans hw hg0; clear hw
  have HG0 := Lib.hid hg0; clear hg0
  replace BX0 := bG BX0 HG0
  replace BX1 := bG BX1 HG0
  replace HB := Lib.hid (HB.out.trans (HG0.out.mono HB.out.size))
  have BX3 := Lib.hid bx3; clear bx3
  clear HG0
  clear lx0; have lx0 := BX0.out.cells
  clear lx1; have lx1 := BX1.out.cells
  simp only [Act.put, rA, rB, rC]
  refine wpPlan_callE rfl (by rfl) Tryz.call9 (by rfl) (fun w' hw => ((zlref bby ky fy my b ao_y c_y w' (Lib.hid (HWy.out.gr (Gr.trans HB.out hw))) HFy HVy HAy (by first | omega | exact wlc (by decide)) (by first | omega | exact wlc (by decide)))).mono ?_)
  rintro e vv2 ⟨⟨rv2, rfl, bx4⟩, hg0⟩
  obtain ⟨ao2, nn2, cc2, rfl⟩ := Rn.sl bx4
  refine ⟨_, rfl, hg0, ?_⟩
  replace hg0 := Gr.trans hw hg0; clear hw
  have HG0 := Lib.hid hg0; clear hg0
  replace BX0 := bG BX0 HG0
  replace BX1 := bG BX1 HG0
  replace BX3 := rG BX3 HG0
  replace HB := Lib.hid (HB.out.trans (HG0.out.mono HB.out.size))
  have BX4 := Lib.hid bx4; clear bx4
  clear HG0
  clear lx0; have lx0 := BX0.out.cells
  clear lx1; have lx1 := BX1.out.cells
  simp only [Act.put, rA, rB, rC]
  refine wpPlan_nil (hT.out _ _ ?_); clear hT T
  intro G vw2 hg hf
  simp only [puts, Act.put, rA, rB, rC, rD, rE, ↓reduceIte, Nat.reduceEqDiff]
  clear lx0 lx1
  have HG := Lib.hid (hg)
  clear hg
  have bx5 := Bx.of_fresh hf (i := 8) (by decide) rfl
  have yx5 := (hf.1 8 (by decide)).1
  have bx6 := Bx.of_fresh hf (i := 9) (by decide) rfl
  have yx6 := (hf.1 9 (by decide)).1
  have dx5_6 : G 8 ≠ G 9 := fun e => absurd (hf.2 8 (by decide) 9 (by decide) e) (by decide)
  have bx7 := Bx.of_fresh hf (i := 10) (by decide) rfl
  have yx7 := (hf.1 10 (by decide)).1
  have dx5_7 : G 8 ≠ G 10 := fun e => absurd (hf.2 8 (by decide) 10 (by decide) e) (by decide)
  have dx6_7 : G 9 ≠ G 10 := fun e => absurd (hf.2 9 (by decide) 10 (by decide) e) (by decide)
  have bx8 := Bx.of_fresh hf (i := 11) (by decide) rfl
  have yx8 := (hf.1 11 (by decide)).1
  have dx5_8 : G 8 ≠ G 11 := fun e => absurd (hf.2 8 (by decide) 11 (by decide) e) (by decide)
  have dx6_8 : G 9 ≠ G 11 := fun e => absurd (hf.2 9 (by decide) 11 (by decide) e) (by decide)
  have dx7_8 : G 10 ≠ G 11 := fun e => absurd (hf.2 10 (by decide) 11 (by decide) e) (by decide)
  clear hf
  generalize G 8 = gx5 at *
  generalize G 9 = gx6 at *
  generalize G 10 = gx7 at *
  generalize G 11 = gx8 at *
  have qx0_5 : w.heap.size < gx5 := Nat.lt_of_lt_of_le MX0 yx5
  have qx0_6 : w.heap.size < gx6 := Nat.lt_of_lt_of_le MX0 yx6
  have qx0_7 : w.heap.size < gx7 := Nat.lt_of_lt_of_le MX0 yx7
  have qx0_8 : w.heap.size < gx8 := Nat.lt_of_lt_of_le MX0 yx8
  have qx1_5 : w.heap.size + 1 < gx5 := Nat.lt_of_lt_of_le MX1 yx5
  have qx1_6 : w.heap.size + 1 < gx6 := Nat.lt_of_lt_of_le MX1 yx6
  have qx1_7 : w.heap.size + 1 < gx7 := Nat.lt_of_lt_of_le MX1 yx7
  have qx1_8 : w.heap.size + 1 < gx8 := Nat.lt_of_lt_of_le MX1 yx8
  replace yx5 : w.heap.size ≤ gx5 := Nat.le_trans HS0.out yx5
  replace yx6 : w.heap.size ≤ gx6 := Nat.le_trans HS0.out yx6
  replace yx7 : w.heap.size ≤ gx7 := Nat.le_trans HS0.out yx7
  replace yx8 : w.heap.size ≤ gx8 := Nat.le_trans HS0.out yx8
  replace BX0 := bG BX0 HG
  replace BX1 := bG BX1 HG
  replace BX3 := rG BX3 HG
  replace BX4 := rG BX4 HG
  have lx5 := bx5.cells; have fx5 := bx5.free
  have lx6 := bx6.cells; have fx6 := bx6.free
  have lx7 := bx7.cells; have fx7 := bx7.free
  have lx8 := bx8.cells; have fx8 := bx8.free
  have r0 := Gr.refl vw2
  have BX5 := Lib.hid bx5; clear bx5
  have BX6 := Lib.hid bx6; clear bx6
  have BX7 := Lib.hid bx7; clear bx7
  have BX8 := Lib.hid bx8; clear bx8
  go_wp2
  refine hK.out _ _ ?_; clear hK K
  show Code.wp _ _ _ _ _
  clear lx5 fx5
  clear lx6 fx6
  clear lx7 fx7
  clear lx8 fx8
  clear r0
  refine forgetW (fun w2 => Rn w2 (.slice ao1 nn1 cc1) (Int.natAbs (a)) ∧ Rn w2 (.slice ao2 nn2 cc2) (Int.natAbs (b)) ∧ Bx w2 gx5 33 #[.int .u64 (lo (Int.natAbs (a))), .string (bg (Int.natAbs (a))), .bool (decide ((a) < 0))] ∧ Bx w2 gx6 33 #[.int .u64 (lo (Int.natAbs (b))), .string (bg (Int.natAbs (b))), .bool (decide ((b) < 0))] ∧ Bx w2 gx7 38 #[.bool (decide ((a) < 0)), (.slice ao1 nn1 cc1)] ∧ Bx w2 gx8 38 #[.bool (decide ((b) < 0)), (.slice ao2 nn2 cc2)] ∧ Below w.heap.size w w2) ⟨ro2 (ro2 (ro3 (ro3 (BX3.out) (Rn.ne BX3.out BX5.out (by decide))) (Rn.ne BX3.out BX6.out (by decide))) (Rn.ne BX3.out BX7.out (by decide))) (Rn.ne BX3.out BX8.out (by decide)), ro2 (ro2 (ro3 (ro3 (BX4.out) (Rn.ne BX4.out BX5.out (by decide))) (Rn.ne BX4.out BX6.out (by decide))) (Rn.ne BX4.out BX7.out (by decide))) (Rn.ne BX4.out BX8.out (by decide)), (so2 (so2 (so3 ((((BX5.out).set 0 _).set 1 _).set 2 _) (by show gx5 ≠ gx6; omega)) (by show gx5 ≠ gx7; omega)) (by show gx5 ≠ gx8; omega)).eq (by simp only [rA, rB, rC]), (so2 (so2 ((((so3 (BX6.out) (by show gx6 ≠ gx5; omega)).set 0 _).set 1 _).set 2 _) (by show gx6 ≠ gx7; omega)) (by show gx6 ≠ gx8; omega)).eq (by simp only [rA, rB, rC]), (so2 (((so3 (so3 (BX7.out) (by show gx7 ≠ gx5; omega)) (by show gx7 ≠ gx6; omega)).set 0 _).set 1 _) (by show gx7 ≠ gx8; omega)).eq (by simp only [rA, rB, rC]), (((so2 (so3 (so3 (BX8.out) (by show gx8 ≠ gx5; omega)) (by show gx8 ≠ gx6; omega)) (by show gx8 ≠ gx7; omega)).set 0 _).set 1 _).eq (by simp only [rA, rB, rC]), sc2 (sc2 (sc3 (sc3 (HB.out.trans (HG.out.mono HB.out.size)) (by show w.heap.size ≤ gx5; omega)) (by show w.heap.size ≤ gx6; omega)) (by show w.heap.size ≤ gx7; omega)) (by show w.heap.size ≤ gx8; omega)⟩ ?_
  clear HB HG BX0 BX1 BX3 BX4 BX5 BX6 BX7 BX8
  rintro Wx3 ⟨bx3, bx4, bx5, bx6, bx7, bx8, HB⟩
  replace HB := Lib.hid HB
  have lx7 := bx7.cells
  have lx8 := bx8.cells
  have BX3 := Lib.hid bx3
  have BX4 := Lib.hid bx4
  have BX5 := Lib.hid bx5
  have BX6 := Lib.hid bx6
  have BX7 := Lib.hid bx7
  have BX8 := Lib.hid bx8
  clear bx3 bx4 bx5 bx6 bx7 bx8
  refine sK fun K hK => ?_
  refine wp_region_seqplan 4 [(true, 0), (true, 1), (true, 2), (true, 3)] (by rfl) (by simp) (fun T hT => ?_)
  iterate 2 (refine wpPlan_takeL (v := ?_) rfl (by rfl) (fun w' hw => ?_) ?_; rotate_left; go_simp; with_reducible rfl; simp only [Act.put, rA, rB, rC])
  refine wpPlan_callL rfl (by rfl) Tryz.call17 (fun w' hw => zzcmp (a) (b) (1) _ _ _ (by have e9 : ((a) : Int) > (b) := (by first | rfl | omega | (simp; done) | exact eg0 _ | (rw [egcd_zero]; done) | (rw [egcd_zero]; simp; done) | exact elt _ _ (by assumption) | exact zback _ | exact eg_comb _ _ | exact eg_abs _ _ | exact idv0 _ _ | exact idv1 _ _ _ (by assumption) | exact idv2 _ _ _ | grind); exact sgs_gt e9) (by omega) (by omega) (BX3.out.gr hw) (BX4.out.gr hw)) (by rfl) ?_
  simp only [Act.put, rA, rB, rC]
  refine wpPlan_takeL (v := ?_) rfl (by rfl) (fun w' hw => ?_) ?_; rotate_left; go_simp; with_reducible rfl; simp only [Act.put, rA, rB, rC]
  refine wpPlan_nil (hT.out _ _ ?_); clear hT T
  intro vw3 hg
  simp only [puts, Act.put, rA, rB, rC, rD, rE, ↓reduceIte, Nat.reduceEqDiff]
  clear lx7 lx8
  have HG := Lib.hid (hg)
  clear hg
  replace BX3 := rG BX3 HG
  replace BX4 := rG BX4 HG
  replace BX5 := bG BX5 HG
  replace BX6 := bG BX6 HG
  replace BX7 := bG BX7 HG
  replace BX8 := bG BX8 HG
  have r0 := Gr.refl vw3
  go_wp2
  refine hK.out _ _ ?_; clear hK K
  show Code.wp _ _ _ _ _
  clear r0
  refine forgetW (fun w2 => Rn w2 (.slice ao1 nn1 cc1) (Int.natAbs (a)) ∧ Rn w2 (.slice ao2 nn2 cc2) (Int.natAbs (b)) ∧ Bx w2 gx5 33 #[.int .u64 (lo (Int.natAbs (a))), .string (bg (Int.natAbs (a))), .bool (decide ((a) < 0))] ∧ Bx w2 gx6 33 #[.int .u64 (lo (Int.natAbs (b))), .string (bg (Int.natAbs (b))), .bool (decide ((b) < 0))] ∧ Bx w2 gx7 38 #[.bool (decide ((a) < 0)), (.slice ao1 nn1 cc1)] ∧ Bx w2 gx8 38 #[.bool (decide ((b) < 0)), (.slice ao2 nn2 cc2)] ∧ Below w.heap.size w w2) ⟨BX3.out, BX4.out, BX5.out, BX6.out, BX7.out, BX8.out, HB.out.trans (HG.out.mono HB.out.size)⟩ ?_
  clear HB HG BX3 BX4 BX5 BX6 BX7 BX8
  rintro Wx4 ⟨bx3, bx4, bx5, bx6, bx7, bx8, HB⟩
  replace HB := Lib.hid HB
  obtain ⟨u1, HZ1⟩ : ∃ z, Hid ((a) + (b) = z) := ⟨_, Lib.hid rfl⟩
  have su1 : wl (Int.natAbs (u1)) ≤ 17 := by rw [← HZ1.out]; have := wl_iadd (a) (b); omega
  have HZ2 : Hid ((a) + (b) = u1) := Lib.hid (by first | rfl | omega | (simp; done) | exact eg0 _ | (rw [egcd_zero]; done) | (rw [egcd_zero]; simp; done) | exact elt _ _ (by assumption) | exact zback _ | exact eg_comb _ _ | exact eg_abs _ _ | exact idv0 _ _ | exact idv1 _ _ _ (by assumption) | exact idv2 _ _ _ | (simp only [← HZ1.out] <;> first | rfl | omega | (simp; done) | exact eg0 _ | (rw [egcd_zero]; done) | (rw [egcd_zero]; simp; done) | exact elt _ _ (by assumption) | exact zback _ | exact eg_comb _ _ | exact eg_abs _ _ | exact idv0 _ _ | exact idv1 _ _ _ (by assumption) | exact idv2 _ _ _ | grind))
  have su2 : tw (Int.natAbs (u1)) ≤ 49 := by have e := HZ2.out; first | omega | (rw [← e]; have := tw_iadd (a) (b); omega)
  obtain ⟨u3, HZ3⟩ : ∃ z, Hid ((a) - (b) = z) := ⟨_, Lib.hid rfl⟩
  have su3 : wl (Int.natAbs (u3)) ≤ 17 := by rw [← HZ3.out]; have := wl_isub (a) (b); omega
  have HZ4 : Hid ((a) - (b) = u3) := Lib.hid (by first | rfl | omega | (simp; done) | exact eg0 _ | (rw [egcd_zero]; done) | (rw [egcd_zero]; simp; done) | exact elt _ _ (by assumption) | exact zback _ | exact eg_comb _ _ | exact eg_abs _ _ | exact idv0 _ _ | exact idv1 _ _ _ (by assumption) | exact idv2 _ _ _ | (simp only [← HZ3.out, ← HZ1.out] <;> first | rfl | omega | (simp; done) | exact eg0 _ | (rw [egcd_zero]; done) | (rw [egcd_zero]; simp; done) | exact elt _ _ (by assumption) | exact zback _ | exact eg_comb _ _ | exact eg_abs _ _ | exact idv0 _ _ | exact idv1 _ _ _ (by assumption) | exact idv2 _ _ _ | grind))
  have su4 : tw (Int.natAbs (u3)) ≤ 49 := by have e := HZ4.out; first | omega | (rw [← e]; have := tw_isub (a) (b); omega)
  obtain ⟨u5, HZ5⟩ : ∃ z, Hid ((a) * (b) = z) := ⟨_, Lib.hid rfl⟩
  have su5 : wl (Int.natAbs (u5)) ≤ 32 := by rw [← HZ5.out]; have := wl_imul (a) (b); omega
  have HZ6 : Hid ((a) * (b) = u5) := Lib.hid (by first | rfl | omega | (simp; done) | exact eg0 _ | (rw [egcd_zero]; done) | (rw [egcd_zero]; simp; done) | exact elt _ _ (by assumption) | exact zback _ | exact eg_comb _ _ | exact eg_abs _ _ | exact idv0 _ _ | exact idv1 _ _ _ (by assumption) | exact idv2 _ _ _ | (simp only [← HZ5.out, ← HZ3.out, ← HZ1.out] <;> first | rfl | omega | (simp; done) | exact eg0 _ | (rw [egcd_zero]; done) | (rw [egcd_zero]; simp; done) | exact elt _ _ (by assumption) | exact zback _ | exact eg_comb _ _ | exact eg_abs _ _ | exact idv0 _ _ | exact idv1 _ _ _ (by assumption) | exact idv2 _ _ _ | grind))
  have su6 : tw (Int.natAbs (u5)) ≤ 96 := by have e := HZ6.out; first | omega | (rw [← e]; have := tw_imul (a) (b); omega)
  obtain ⟨u7, HZ7⟩ : ∃ z, Hid (-(a) = z) := ⟨_, Lib.hid rfl⟩
  have su7 : wl (Int.natAbs (u7)) ≤ 16 := by rw [← HZ7.out]; rw [Int.natAbs_neg]; omega
  have HZ8 : Hid (-(a) = u7) := Lib.hid (by first | rfl | omega | (simp; done) | exact eg0 _ | (rw [egcd_zero]; done) | (rw [egcd_zero]; simp; done) | exact elt _ _ (by assumption) | exact zback _ | exact eg_comb _ _ | exact eg_abs _ _ | exact idv0 _ _ | exact idv1 _ _ _ (by assumption) | exact idv2 _ _ _ | (simp only [← HZ7.out, ← HZ5.out, ← HZ3.out, ← HZ1.out] <;> first | rfl | omega | (simp; done) | exact eg0 _ | (rw [egcd_zero]; done) | (rw [egcd_zero]; simp; done) | exact elt _ _ (by assumption) | exact zback _ | exact eg_comb _ _ | exact eg_abs _ _ | exact idv0 _ _ | exact idv1 _ _ _ (by assumption) | exact idv2 _ _ _ | grind))
  have su8 : tw (Int.natAbs (u7)) ≤ 48 := by have e := HZ8.out; first | omega | (rw [← e]; rw [Int.natAbs_neg]; omega)
  have hd1 : decide (a = b) = false := decide_eq_false (by first | rfl | omega | (simp; done) | exact eg0 _ | (rw [egcd_zero]; done) | (rw [egcd_zero]; simp; done) | exact elt _ _ (by assumption) | exact zback _ | exact eg_comb _ _ | exact eg_abs _ _ | exact idv0 _ _ | exact idv1 _ _ _ (by assumption) | exact idv2 _ _ _ | (simp only [← HZ7.out, ← HZ5.out, ← HZ3.out, ← HZ1.out] <;> first | rfl | omega | (simp; done) | exact eg0 _ | (rw [egcd_zero]; done) | (rw [egcd_zero]; simp; done) | exact elt _ _ (by assumption) | exact zback _ | exact eg_comb _ _ | exact eg_abs _ _ | exact idv0 _ _ | exact idv1 _ _ _ (by assumption) | exact idv2 _ _ _ | grind))
  have lx5 := bx5.cells
  have lx6 := bx6.cells
  have lx7 := bx7.cells
  have lx8 := bx8.cells
  have BX3 := Lib.hid bx3
  have BX4 := Lib.hid bx4
  have BX5 := Lib.hid bx5
  have BX6 := Lib.hid bx6
  have BX7 := Lib.hid bx7
  have BX8 := Lib.hid bx8
  clear bx3 bx4 bx5 bx6 bx7 bx8
  refine sK fun K hK => ?_
  have HS0 := Lib.hid (HB.out.size)
  have MX5 : gx5 < Wx4.heap.size := BX5.out.lt
  have MX6 : gx6 < Wx4.heap.size := BX6.out.lt
  have MX7 : gx7 < Wx4.heap.size := BX7.out.lt
  have MX8 : gx8 < Wx4.heap.size := BX8.out.lt
  refine wp_region_planQ 71 [] [] (fun _ => 0) (fun _ => .cells #[] 0) [(true, 0), (true, 1), (true, 2), (true, 3), (true, 4), (true, 5), (true, 6), (true, 7), (true, 8), (false, 9), (true, 10), (true, 11), (true, 12), (true, 13), (true, 14), (true, 15), (true, 16), (true, 17), (false, 18), (true, 19), (true, 20), (true, 21), (true, 22), (true, 23), (true, 24), (true, 25), (true, 26), (false, 27), (true, 28), (true, 29), (true, 30), (true, 31), (true, 32), (true, 33), (false, 34), (true, 35), (true, 36), (true, 37), (true, 38), (true, 39), (true, 40), (true, 41), (true, 42), (true, 43), (true, 44), (true, 45), (true, 46), (true, 47), (true, 48), (true, 49), (true, 50), (true, 51), (true, 52), (true, 53), (true, 54), (true, 55), (true, 56), (true, 57), (true, 58), (true, 59), (true, 60), (true, 61), (true, 62), (true, 63), (true, 64), (true, 65), (true, 66), (true, 67), (true, 68), (true, 69), (true, 70)] (by kernel_rfl) (by kernel_rfl) (fun i hi => by cases hi) (fun i hi => by cases hi) (fun _ _ _ _ _ h => h) (fun T hT => ?_)
  iterate 2 (refine wpPlan_takeL (v := ?_) rfl (by rfl) (fun w' hw => ?_) ?_; rotate_left; go_simp; with_reducible rfl; simp only [Act.put, rA, rB, rC])
  refine wpPlan_callL rfl (by rfl) Tryz.call12 (fun w' hw => samez_any (a) (a) _ _ (rfl) (BX3.out.gr hw) (by first | omega | exact wlc (by decide)) (by first | omega | exact wlc (by decide)) (Lib.hid (HT.out.gr (Gr.trans HB.out hw)))) (by rfl) ?_
  simp only [Act.put, rA, rB, rC]
  iterate 3 (refine wpPlan_takeL (v := ?_) rfl (by rfl) (fun w' hw => ?_) ?_; rotate_left; go_simp; with_reducible rfl; simp only [Act.put, rA, rB, rC])
  refine wpPlan_callL rfl (by rfl) Tryz.call18 (fun w' hw => ziadd (a) (b) (u1) _ HZ1.out (by first | omega | exact wlc (by decide)) (by first | omega | exact wlc (by decide))) (by rfl) ?_
  simp only [Act.put, rA, rB, rC]
  iterate 2 (refine wpPlan_takeL (v := ?_) rfl (by rfl) (fun w' hw => ?_) ?_; rotate_left; go_simp; with_reducible rfl; simp only [Act.put, rA, rB, rC])
  refine wpPlan_callE rfl (by rfl) Tryz.call19 (by rfl) (fun w' hw => (zadd_any (a) (b) (u1) _ _ _ HZ2.out (by omega) (by omega) (BX3.out.gr hw) (BX4.out.gr hw)).mono ?_)
  rintro e vv1 ⟨⟨rv3, rfl, bx9⟩, hg0⟩
  obtain ⟨ao3, nn3, cc3, rfl⟩ := Rn.sl bx9
  refine ⟨_, rfl, hg0, ?_⟩
  replace hg0 := Gr.trans hw hg0; clear hw
  have HG0 := Lib.hid hg0; clear hg0
  replace BX3 := rG BX3 HG0
  replace BX4 := rG BX4 HG0
  replace BX5 := bG BX5 HG0
  replace BX6 := bG BX6 HG0
  replace BX7 := bG BX7 HG0
  replace BX8 := bG BX8 HG0
  replace HB := Lib.hid (HB.out.trans (HG0.out.mono HB.out.size))
  have BX9 := Lib.hid bx9; clear bx9
  clear HG0
  clear lx5; have lx5 := BX5.out.cells
  clear lx6; have lx6 := BX6.out.cells
  clear lx7; have lx7 := BX7.out.cells
  clear lx8; have lx8 := BX8.out.cells
  simp only [Act.put, rA, rB, rC]
  refine wpPlan_callL rfl (by rfl) Tryz.call12 (fun w' hw => samez_any (u1) (u1) _ _ (rfl) (BX9.out.gr hw) (by first | omega | exact wlc (by decide)) (by first | omega | exact wlc (by decide)) (Lib.hid (HT.out.gr (Gr.trans HB.out hw)))) (by rfl) ?_
  simp only [Act.put, rA, rB, rC]
  iterate 4 (refine wpPlan_takeL (v := ?_) rfl (by rfl) (fun w' hw => ?_) ?_; rotate_left; go_simp; with_reducible rfl; simp only [Act.put, rA, rB, rC])
  refine wpPlan_callL rfl (by rfl) Tryz.call20 (fun w' hw => zisub (a) (b) (u3) _ HZ3.out (by first | omega | exact wlc (by decide)) (by first | omega | exact wlc (by decide))) (by rfl) ?_
  simp only [Act.put, rA, rB, rC]
  iterate 2 (refine wpPlan_takeL (v := ?_) rfl (by rfl) (fun w' hw => ?_) ?_; rotate_left; go_simp; with_reducible rfl; simp only [Act.put, rA, rB, rC])
  refine wpPlan_callE rfl (by rfl) Tryz.call21 (by rfl) (fun w' hw => (zsub_any (a) (b) (u3) _ _ _ HZ4.out (by omega) (by omega) (BX3.out.gr hw) (BX4.out.gr hw)).mono ?_)
  rintro e vv2 ⟨⟨rv4, rfl, bx10⟩, hg0⟩
  obtain ⟨ao4, nn4, cc4, rfl⟩ := Rn.sl bx10
  refine ⟨_, rfl, hg0, ?_⟩
  replace hg0 := Gr.trans hw hg0; clear hw
  have HG0 := Lib.hid hg0; clear hg0
  replace BX3 := rG BX3 HG0
  replace BX4 := rG BX4 HG0
  replace BX5 := bG BX5 HG0
  replace BX6 := bG BX6 HG0
  replace BX7 := bG BX7 HG0
  replace BX8 := bG BX8 HG0
  replace BX9 := rG BX9 HG0
  replace HB := Lib.hid (HB.out.trans (HG0.out.mono HB.out.size))
  have BX10 := Lib.hid bx10; clear bx10
  clear HG0
  clear lx5; have lx5 := BX5.out.cells
  clear lx6; have lx6 := BX6.out.cells
  clear lx7; have lx7 := BX7.out.cells
  clear lx8; have lx8 := BX8.out.cells
  simp only [Act.put, rA, rB, rC]
  refine wpPlan_callL rfl (by rfl) Tryz.call12 (fun w' hw => samez_any (u3) (u3) _ _ (rfl) (BX10.out.gr hw) (by first | omega | exact wlc (by decide)) (by first | omega | exact wlc (by decide)) (Lib.hid (HT.out.gr (Gr.trans HB.out hw)))) (by rfl) ?_
  simp only [Act.put, rA, rB, rC]
  iterate 4 (refine wpPlan_takeL (v := ?_) rfl (by rfl) (fun w' hw => ?_) ?_; rotate_left; go_simp; with_reducible rfl; simp only [Act.put, rA, rB, rC])
  refine wpPlan_callL rfl (by rfl) Tryz.call22 (fun w' hw => zimul (a) (b) (u5) _ HZ5.out (by first | omega | exact wlc (by decide)) (by first | omega | exact wlc (by decide))) (by rfl) ?_
  simp only [Act.put, rA, rB, rC]
  iterate 2 (refine wpPlan_takeL (v := ?_) rfl (by rfl) (fun w' hw => ?_) ?_; rotate_left; go_simp; with_reducible rfl; simp only [Act.put, rA, rB, rC])
  refine wpPlan_callE rfl (by rfl) Tryz.call23 (by rfl) (fun w' hw => (zmul_any (a) (b) (u5) _ _ _ HZ6.out (by omega) (by omega) (BX3.out.gr hw) (BX4.out.gr hw)).mono ?_)
  rintro e vv3 ⟨⟨rv5, rfl, bx11⟩, hg0⟩
  obtain ⟨ao5, nn5, cc5, rfl⟩ := Rn.sl bx11
  refine ⟨_, rfl, hg0, ?_⟩
  replace hg0 := Gr.trans hw hg0; clear hw
  have HG0 := Lib.hid hg0; clear hg0
  replace BX3 := rG BX3 HG0
  replace BX4 := rG BX4 HG0
  replace BX5 := bG BX5 HG0
  replace BX6 := bG BX6 HG0
  replace BX7 := bG BX7 HG0
  replace BX8 := bG BX8 HG0
  replace BX9 := rG BX9 HG0
  replace BX10 := rG BX10 HG0
  replace HB := Lib.hid (HB.out.trans (HG0.out.mono HB.out.size))
  have BX11 := Lib.hid bx11; clear bx11
  clear HG0
  clear lx5; have lx5 := BX5.out.cells
  clear lx6; have lx6 := BX6.out.cells
  clear lx7; have lx7 := BX7.out.cells
  clear lx8; have lx8 := BX8.out.cells
  simp only [Act.put, rA, rB, rC]
  refine wpPlan_callL rfl (by rfl) Tryz.call12 (fun w' hw => samez_any (u5) (u5) _ _ (rfl) (BX11.out.gr hw) (by first | omega | exact wlc (by decide)) (by first | omega | exact wlc (by decide)) (Lib.hid (HT.out.gr (Gr.trans HB.out hw)))) (by rfl) ?_
  simp only [Act.put, rA, rB, rC]
  iterate 3 (refine wpPlan_takeL (v := ?_) rfl (by rfl) (fun w' hw => ?_) ?_; rotate_left; go_simp; with_reducible rfl; simp only [Act.put, rA, rB, rC])
  refine wpPlan_callL rfl (by rfl) Tryz.call24 (fun w' hw => zineg (a) (u7) _ HZ7.out) (by rfl) ?_
  simp only [Act.put, rA, rB, rC]
  refine wpPlan_takeL (v := ?_) rfl (by rfl) (fun w' hw => ?_) ?_; rotate_left; go_simp; with_reducible rfl; simp only [Act.put, rA, rB, rC]
  refine wpPlan_callE rfl (by rfl) Tryz.call25 (by rfl) (fun w' hw => (zneg_any (a) (u7) _ _ HZ8.out (BX3.out.gr hw)).mono ?_)
  rintro e vv4 ⟨⟨rv6, rfl, bx12⟩, hg0⟩
  obtain ⟨ao6, nn6, cc6, rfl⟩ := Rn.sl bx12
  refine ⟨_, rfl, hg0, ?_⟩
  replace hg0 := Gr.trans hw hg0; clear hw
  have HG0 := Lib.hid hg0; clear hg0
  replace BX3 := rG BX3 HG0
  replace BX4 := rG BX4 HG0
  replace BX5 := bG BX5 HG0
  replace BX6 := bG BX6 HG0
  replace BX7 := bG BX7 HG0
  replace BX8 := bG BX8 HG0
  replace BX9 := rG BX9 HG0
  replace BX10 := rG BX10 HG0
  replace BX11 := rG BX11 HG0
  replace HB := Lib.hid (HB.out.trans (HG0.out.mono HB.out.size))
  have BX12 := Lib.hid bx12; clear bx12
  clear HG0
  clear lx5; have lx5 := BX5.out.cells
  clear lx6; have lx6 := BX6.out.cells
  clear lx7; have lx7 := BX7.out.cells
  clear lx8; have lx8 := BX8.out.cells
  simp only [Act.put, rA, rB, rC]
  refine wpPlan_callL rfl (by rfl) Tryz.call12 (fun w' hw => samez_any (u7) (u7) _ _ (rfl) (BX12.out.gr hw) (by first | omega | exact wlc (by decide)) (by first | omega | exact wlc (by decide)) (Lib.hid (HT.out.gr (Gr.trans HB.out hw)))) (by rfl) ?_
  simp only [Act.put, rA, rB, rC]
  iterate 3 (refine wpPlan_takeL (v := ?_) rfl (by rfl) (fun w' hw => ?_) ?_; rotate_left; go_simp; with_reducible rfl; simp only [Act.put, rA, rB, rC])
  refine wpPlan_callL rfl (by rfl) Tryz.call26 (fun w' hw => zisign (a) (s) _ HSA.out) (by rfl) ?_
  simp only [Act.put, rA, rB, rC]
  refine wpPlan_takeL (v := ?_) rfl (by rfl) (fun w' hw => ?_) ?_; rotate_left; go_simp; with_reducible rfl; simp only [Act.put, rA, rB, rC]
  refine wpPlan_callL rfl (by rfl) Tryz.call14 (fun w' hw => zrsign (a) (s) _ _ HSA.out (BX3.out.gr hw)) (by rfl) ?_
  simp only [Act.put, rA, rB, rC]
  iterate 5 (refine wpPlan_takeL (v := ?_) rfl (by rfl) (fun w' hw => ?_) ?_; rotate_left; go_simp; with_reducible rfl; simp only [Act.put, rA, rB, rC])
  refine wpPlan_callL rfl (by rfl) Tryz.call27 (fun w' hw => zicmp (a) (b) (1) _ (by have e9 : ((a) : Int) > (b) := (by first | rfl | omega | (simp; done) | exact eg0 _ | (rw [egcd_zero]; done) | (rw [egcd_zero]; simp; done) | exact elt _ _ (by assumption) | exact zback _ | exact eg_comb _ _ | exact eg_abs _ _ | exact idv0 _ _ | exact idv1 _ _ _ (by assumption) | exact idv2 _ _ _ | (simp only [← HZ7.out, ← HZ5.out, ← HZ3.out, ← HZ1.out] <;> first | rfl | omega | (simp; done) | exact eg0 _ | (rw [egcd_zero]; done) | (rw [egcd_zero]; simp; done) | exact elt _ _ (by assumption) | exact zback _ | exact eg_comb _ _ | exact eg_abs _ _ | exact idv0 _ _ | exact idv1 _ _ _ (by assumption) | exact idv2 _ _ _ | grind)); exact sgs_gt e9) (by first | omega | exact wlc (by decide)) (by first | omega | exact wlc (by decide))) (by rfl) ?_
  simp only [Act.put, rA, rB, rC]
  iterate 13 (refine wpPlan_takeL (v := ?_) rfl (by rfl) (fun w' hw => ?_) ?_; rotate_left; go_simp; with_reducible rfl; simp only [Act.put, rA, rB, rC])
  refine wpPlan_callL rfl (by rfl) Tryz.call29 (fun w' hw => abs_any (a) _) (by rfl) ?_
  simp only [Act.put, rA, rB, rC]
  refine wpPlan_callL rfl (by rfl) Tryz.call28 (fun w' hw => nztexts (Int.natAbs (a)) tx _ HTX.out (by first | omega | exact wlc (by decide)) (Lib.hid (HT.out.gr (Gr.trans HB.out hw)))) (by rfl) ?_
  simp only [Act.put, rA, rB, rC]
  iterate 2 (refine wpPlan_takeL (v := ?_) rfl (by rfl) (fun w' hw => ?_) ?_; rotate_left; go_simp; with_reducible rfl; simp only [Act.put, rA, rB, rC])
  refine wpPlan_callL rfl (by rfl) Tryz.call30 (fun w' hw => zrtext _ (Int.natAbs (a)) tx _ HTX.out (BX3.out.gr hw) (by omega)) (by rfl) ?_
  simp only [Act.put, rA, rB, rC]
  iterate 3 (refine wpPlan_takeL (v := ?_) rfl (by rfl) (fun w' hw => ?_) ?_; rotate_left; go_simp; with_reducible rfl; simp only [Act.put, rA, rB, rC])
  refine wpPlan_callL rfl (by rfl) Tryz.call7 (fun w' hw => worksz_any _ (Lib.hid (HT.out.gr (Gr.trans HB.out hw)))) (by rfl) ?_
  simp only [Act.put, rA, rB, rC]
  refine wpPlan_takeL (v := ?_) rfl (by rfl) (fun w' hw => ?_) ?_; rotate_left; go_simp; with_reducible rfl; simp only [Act.put, rA, rB, rC]
  refine wpPlan_nil (hT.out _ _ ?_); clear hT T
  intro G vw4 hg hf
  simp only [puts, Act.put, List.setIfInBounds_toArray, List.set_cons_zero, List.set_cons_succ, List.drop_succ_cons, List.drop_zero, ↓reduceIte, Nat.reduceEqDiff, List.append_eq, List.cons_append, List.nil_append]
  clear lx5 lx6 lx7 lx8
  have HG := Lib.hid (hg)
  clear hg
  replace BX3 := rG BX3 HG
  replace BX4 := rG BX4 HG
  replace BX5 := bG BX5 HG
  replace BX6 := bG BX6 HG
  replace BX7 := bG BX7 HG
  replace BX8 := bG BX8 HG
  replace BX9 := rG BX9 HG
  replace BX10 := rG BX10 HG
  replace BX11 := rG BX11 HG
  replace BX12 := rG BX12 HG
  have r0 := Gr.refl vw4
  go_wp2
  refine hK.out _ _ ?_; clear hK K
  show Code.wp _ _ _ _ _
  clear r0
  refine forgetW (fun w2 => Below w.heap.size w w2) (HB.out.trans (HG.out.mono HB.out.size)) ?_
  clear HB HG BX3 BX4 BX5 BX6 BX7 BX8 BX9 BX10 BX11 BX12
  rintro Wx5 HB
  replace HB := Lib.hid HB
  clear hd1
  refine wp_ret ?_
  try simp only [Exit.then, Exit.inBlock]
  have r0 := Gr.refl Wx5
  exact bodyPost_ret (v := .bool true) (by simp [results, Tryz.results4, go_sem]) rfl ⟨rfl, HB.out⟩

set_option maxRecDepth 100000 in
set_option maxHeartbeats 8000000 in
theorem sumz_eq (bbx : Bool) (vx : Value) (kx : Nat) (fx : Nat → Nat) (mx : Nat) (bby : Bool) (vy : Value) (ky : Nat) (fy : Nat → Nat) (my : Nat) (a : Int) (s : Int) (tx : ByteArray) (w : World) (HWx : Hid (Wa w vx kx fx)) (HFx : Hid (∀ i, i < kx → fx i < 4294967296)) (HVx : Hid (vl fx kx = mx)) (HAx : Hid ((if bbx then -((mx : Nat) : Int) else ((mx : Nat) : Int)) = a)) (HWy : Hid (Wa w vy ky fy)) (HFy : Hid (∀ i, i < ky → fy i < 4294967296)) (HVy : Hid (vl fy ky = my)) (HAy : Hid ((if bby then -((my : Nat) : Int) else ((my : Nat) : Int)) = a)) (hkx : kx ≤ 16) (hky : ky ≤ 16)  (HSA : Hid (sgI a = s)) (HTX : Hid ((⟨(Lib.decDigits (Int.natAbs a)).toArray⟩ : ByteArray) = tx)) (HT : Hid (Tab w)) :
    Calls Tryz.prog 4 #[.agg #[.bool bbx, vx], .agg #[.bool bby, vy]] w fun e w' => e = .returned (.bool true) ∧ Below w.heap.size w w' := by
  obtain ⟨ao_x, c_x, rfl⟩ := HWx.out.slice
  obtain ⟨ao_y, c_y, rfl⟩ := HWy.out.slice
  have hm_x : wl mx ≤ 16 := by rw [← HVx.out]; have := wl_le.2 (vl_lt HFx.out); omega
  have hb_x : wl (Int.natAbs (a)) ≤ 16 := by rw [zsize HAx.out]; exact hm_x
  have ht_x : tw (Int.natAbs (a)) ≤ 48 := by have := tw_wl (Int.natAbs (a)); omega
  have hm_y : wl my ≤ 16 := by rw [← HVy.out]; have := wl_le.2 (vl_lt HFy.out); omega
  have hb_y : wl (Int.natAbs (a)) ≤ 16 := by rw [zsize HAy.out]; exact hm_y
  have ht_y : tw (Int.natAbs (a)) ≤ 48 := by have := tw_wl (Int.natAbs (a)); omega
  go_enter Tryz.func4, Tryz.ntmps4
  refine sK fun K hK => ?_
  refine wp_region_lit ?_
  go_wp2
  refine hK.out _ _ ?_; clear hK K
  show Code.wp _ _ _ _ _
  refine forgetW (fun w2 => Bx w2 (w.heap.size) 24 #[.bool (bbx), (.slice ao_x kx c_x)] ∧ Bx w2 (w.heap.size + 1) 24 #[.bool (bby), (.slice ao_y ky c_y)] ∧ Below w.heap.size w w2) ⟨(Bx.at rfl).alloc _, Bx.at (by simp), ((Below.refl _ _).alloc (Nat.le_refl _) _).alloc (by simp) _⟩ ?_
  rintro Wx ⟨bx0, bx1, HB⟩
  replace HB := Lib.hid HB
  refine wp_seq ?_
  have lx0 := bx0.cells
  have lx1 := bx1.cells
  have BX0 := Lib.hid bx0
  have BX1 := Lib.hid bx1
  clear bx0 bx1
  refine sK fun K hK => ?_
  have HS0 := Lib.hid (HB.out.size)
  have MX0 : w.heap.size < Wx.heap.size := BX0.out.lt
  have MX1 : w.heap.size + 1 < Wx.heap.size := BX1.out.lt
  refine wp_region_seqplan 5 [(true, 0), (true, 1), (false, 2), (true, 3), (true, 4)] (by rfl) (by simp) (fun T hT => ?_)
  iterate 2 (refine wpPlan_takeL (v := ?_) rfl (by rfl) (fun w' hw => ?_) ?_; rotate_left; go_simp; with_reducible rfl; simp only [Act.put, rA, rB, rC])
  refine wpPlan_slice (cs := #[.bool (bbx), (.slice ao_x kx c_x), .bool (bby), (.slice ao_y ky c_y)]) (E := 24) (n := 2) rfl (by rfl) (fun w' hw => ?_) (fun gx2 vv1 hg0 yx2 bx2 => ?_)
  · go_simp
  have HG0 := Lib.hid hg0; clear hg0
  replace yx2 : w.heap.size ≤ gx2 := by first | exact Nat.le_trans HS0.out yx2 | exact Nat.le_trans HB.out.size yx2
  have BX2 := Lib.hid bx2; clear bx2
  replace BX0 := bG BX0 HG0
  replace BX1 := bG BX1 HG0
  replace HB := Lib.hid (HB.out.trans (HG0.out.mono HB.out.size))
  clear HG0
  clear lx0; have lx0 := BX0.out.cells
  clear lx1; have lx1 := BX1.out.cells
  simp only [Act.put, rA, rB, rC]
  refine wpPlan_callL rfl (by rfl) Tryz.call6 (fun w' hw => few2_ok _ _ _ _ _ _ _ _ 16 gx2 _ (BX2.out.gr hw) (by omega) (by omega)) (by rfl) ?_
  simp only [Act.put, rA, rB, rC]
  refine wpPlan_takeL (v := ?_) rfl (by rfl) (fun w' hw => ?_) ?_; rotate_left; go_simp; with_reducible rfl; simp only [Act.put, rA, rB, rC]
  refine wpPlan_nil (hT.out _ _ ?_); clear hT T
  intro vw1 hg
  simp only [puts, Act.put, rA, rB, rC, rD, rE, ↓reduceIte, Nat.reduceEqDiff]
  clear lx0 lx1
  clear BX2
  have HG := Lib.hid (hg)
  clear hg
  replace BX0 := bG BX0 HG
  replace BX1 := bG BX1 HG
  have r0 := Gr.refl vw1
  go_wp2
  refine hK.out _ _ ?_; clear hK K
  show Code.wp _ _ _ _ _
  clear r0
  refine forgetW (fun w2 => Bx w2 (w.heap.size) 24 #[.bool (bbx), (.slice ao_x kx c_x)] ∧ Bx w2 (w.heap.size + 1) 24 #[.bool (bby), (.slice ao_y ky c_y)] ∧ Below w.heap.size w w2) ⟨BX0.out, BX1.out, HB.out.trans (HG.out.mono HB.out.size)⟩ ?_
  clear HB HG BX0 BX1
  rintro Wx1 ⟨bx0, bx1, HB⟩
  replace HB := Lib.hid HB
  refine wp_cond_false (by rfl) ?_
  refine wp_skip ?_
  show Code.wp _ _ _ _ _
  have lx0 := bx0.cells
  have lx1 := bx1.cells
  have BX0 := Lib.hid bx0
  have BX1 := Lib.hid bx1
  clear bx0 bx1
  refine sK fun K hK => ?_
  have HS0 := Lib.hid (HB.out.size)
  have MX0 : w.heap.size < Wx1.heap.size := BX0.out.lt
  have MX1 : w.heap.size + 1 < Wx1.heap.size := BX1.out.lt
  refine wp_region_plan 12 [8, 9, 10, 11] [] (fun i => if i = 8 then 5 else if i = 9 then 6 else if i = 10 then 7 else 8) (fun i => if i = 8 then .cells #[.int .u64 0, .string ⟨#[]⟩, .bool false] 33 else if i = 9 then .cells #[.int .u64 0, .string ⟨#[]⟩, .bool false] 33 else if i = 10 then .cells #[.bool false, .slice none 0 0] 38 else .cells #[.bool false, .slice none 0 0] 38) [(true, 0), (true, 2), (true, 4), (true, 6), (true, 1), (true, 3), (false, 5), (false, 7)] (by kernel_rfl) (by kernel_rfl) (by intro i hi; simp only [List.mem_cons, List.not_mem_nil, or_false] at hi; rcases hi with rfl | rfl | rfl | rfl <;> exact ⟨_, rfl, rfl, rfl, by simp, fun ρ w => by kernel_rfl⟩) (fun i hi => by cases hi) (fun _ _ _ _ _ h => h) (fun T hT => ?_)
  iterate 4 (refine wpPlan_takeL (v := ?_) rfl (by rfl) (fun w' hw => ?_) ?_; rotate_left; go_simp; with_reducible rfl; simp only [Act.put, rA, rB, rC])
  refine wpPlan_callL rfl (by rfl) Tryz.call8 (fun w' hw => zlof bbx kx fx mx a ao_x c_x w' (Lib.hid (HWx.out.gr (Gr.trans HB.out hw))) HFx HVx HAx (by first | omega | exact wlc (by decide)) (by first | omega | exact wlc (by decide))) (by rfl) ?_
  simp only [Act.put, rA, rB, rC]
  refine wpPlan_callL rfl (by rfl) Tryz.call8 (fun w' hw => zlof bby ky fy my a ao_y c_y w' (Lib.hid (HWy.out.gr (Gr.trans HB.out hw))) HFy HVy HAy (by first | omega | exact wlc (by decide)) (by first | omega | exact wlc (by decide))) (by rfl) ?_
  simp only [Act.put, rA, rB, rC]
  refine wpPlan_callE rfl (by rfl) Tryz.call9 (by rfl) (fun w' hw => ((zlref bbx kx fx mx a ao_x c_x w' (Lib.hid (HWx.out.gr (Gr.trans HB.out hw))) HFx HVx HAx (by first | omega | exact wlc (by decide)) (by first | omega | exact wlc (by decide)))).mono ?_)
  rintro e vv1 ⟨⟨rv1, rfl, bx3⟩, hg0⟩
  obtain ⟨ao1, nn1, cc1, rfl⟩ := Rn.sl bx3
  refine ⟨_, rfl, hg0, ?_⟩
  replace hg0 := Gr.trans hw hg0; clear hw
  have HG0 := Lib.hid hg0; clear hg0
  replace BX0 := bG BX0 HG0
  replace BX1 := bG BX1 HG0
  replace HB := Lib.hid (HB.out.trans (HG0.out.mono HB.out.size))
  have BX3 := Lib.hid bx3; clear bx3
  clear HG0
  clear lx0; have lx0 := BX0.out.cells
  clear lx1; have lx1 := BX1.out.cells
  simp only [Act.put, rA, rB, rC]
  refine wpPlan_callE rfl (by rfl) Tryz.call9 (by rfl) (fun w' hw => ((zlref bby ky fy my a ao_y c_y w' (Lib.hid (HWy.out.gr (Gr.trans HB.out hw))) HFy HVy HAy (by first | omega | exact wlc (by decide)) (by first | omega | exact wlc (by decide)))).mono ?_)
  rintro e vv2 ⟨⟨rv2, rfl, bx4⟩, hg0⟩
  obtain ⟨ao2, nn2, cc2, rfl⟩ := Rn.sl bx4
  refine ⟨_, rfl, hg0, ?_⟩
  replace hg0 := Gr.trans hw hg0; clear hw
  have HG0 := Lib.hid hg0; clear hg0
  replace BX0 := bG BX0 HG0
  replace BX1 := bG BX1 HG0
  replace BX3 := rG BX3 HG0
  replace HB := Lib.hid (HB.out.trans (HG0.out.mono HB.out.size))
  have BX4 := Lib.hid bx4; clear bx4
  clear HG0
  clear lx0; have lx0 := BX0.out.cells
  clear lx1; have lx1 := BX1.out.cells
  simp only [Act.put, rA, rB, rC]
  refine wpPlan_nil (hT.out _ _ ?_); clear hT T
  intro G vw2 hg hf
  simp only [puts, Act.put, rA, rB, rC, rD, rE, ↓reduceIte, Nat.reduceEqDiff]
  clear lx0 lx1
  have HG := Lib.hid (hg)
  clear hg
  have bx5 := Bx.of_fresh hf (i := 8) (by decide) rfl
  have yx5 := (hf.1 8 (by decide)).1
  have bx6 := Bx.of_fresh hf (i := 9) (by decide) rfl
  have yx6 := (hf.1 9 (by decide)).1
  have dx5_6 : G 8 ≠ G 9 := fun e => absurd (hf.2 8 (by decide) 9 (by decide) e) (by decide)
  have bx7 := Bx.of_fresh hf (i := 10) (by decide) rfl
  have yx7 := (hf.1 10 (by decide)).1
  have dx5_7 : G 8 ≠ G 10 := fun e => absurd (hf.2 8 (by decide) 10 (by decide) e) (by decide)
  have dx6_7 : G 9 ≠ G 10 := fun e => absurd (hf.2 9 (by decide) 10 (by decide) e) (by decide)
  have bx8 := Bx.of_fresh hf (i := 11) (by decide) rfl
  have yx8 := (hf.1 11 (by decide)).1
  have dx5_8 : G 8 ≠ G 11 := fun e => absurd (hf.2 8 (by decide) 11 (by decide) e) (by decide)
  have dx6_8 : G 9 ≠ G 11 := fun e => absurd (hf.2 9 (by decide) 11 (by decide) e) (by decide)
  have dx7_8 : G 10 ≠ G 11 := fun e => absurd (hf.2 10 (by decide) 11 (by decide) e) (by decide)
  clear hf
  generalize G 8 = gx5 at *
  generalize G 9 = gx6 at *
  generalize G 10 = gx7 at *
  generalize G 11 = gx8 at *
  have qx0_5 : w.heap.size < gx5 := Nat.lt_of_lt_of_le MX0 yx5
  have qx0_6 : w.heap.size < gx6 := Nat.lt_of_lt_of_le MX0 yx6
  have qx0_7 : w.heap.size < gx7 := Nat.lt_of_lt_of_le MX0 yx7
  have qx0_8 : w.heap.size < gx8 := Nat.lt_of_lt_of_le MX0 yx8
  have qx1_5 : w.heap.size + 1 < gx5 := Nat.lt_of_lt_of_le MX1 yx5
  have qx1_6 : w.heap.size + 1 < gx6 := Nat.lt_of_lt_of_le MX1 yx6
  have qx1_7 : w.heap.size + 1 < gx7 := Nat.lt_of_lt_of_le MX1 yx7
  have qx1_8 : w.heap.size + 1 < gx8 := Nat.lt_of_lt_of_le MX1 yx8
  replace yx5 : w.heap.size ≤ gx5 := Nat.le_trans HS0.out yx5
  replace yx6 : w.heap.size ≤ gx6 := Nat.le_trans HS0.out yx6
  replace yx7 : w.heap.size ≤ gx7 := Nat.le_trans HS0.out yx7
  replace yx8 : w.heap.size ≤ gx8 := Nat.le_trans HS0.out yx8
  replace BX0 := bG BX0 HG
  replace BX1 := bG BX1 HG
  replace BX3 := rG BX3 HG
  replace BX4 := rG BX4 HG
  have lx5 := bx5.cells; have fx5 := bx5.free
  have lx6 := bx6.cells; have fx6 := bx6.free
  have lx7 := bx7.cells; have fx7 := bx7.free
  have lx8 := bx8.cells; have fx8 := bx8.free
  have r0 := Gr.refl vw2
  have BX5 := Lib.hid bx5; clear bx5
  have BX6 := Lib.hid bx6; clear bx6
  have BX7 := Lib.hid bx7; clear bx7
  have BX8 := Lib.hid bx8; clear bx8
  go_wp2
  refine hK.out _ _ ?_; clear hK K
  show Code.wp _ _ _ _ _
  clear lx5 fx5
  clear lx6 fx6
  clear lx7 fx7
  clear lx8 fx8
  clear r0
  refine forgetW (fun w2 => Rn w2 (.slice ao1 nn1 cc1) (Int.natAbs (a)) ∧ Rn w2 (.slice ao2 nn2 cc2) (Int.natAbs (a)) ∧ Bx w2 gx5 33 #[.int .u64 (lo (Int.natAbs (a))), .string (bg (Int.natAbs (a))), .bool (decide ((a) < 0))] ∧ Bx w2 gx6 33 #[.int .u64 (lo (Int.natAbs (a))), .string (bg (Int.natAbs (a))), .bool (decide ((a) < 0))] ∧ Bx w2 gx7 38 #[.bool (decide ((a) < 0)), (.slice ao1 nn1 cc1)] ∧ Bx w2 gx8 38 #[.bool (decide ((a) < 0)), (.slice ao2 nn2 cc2)] ∧ Below w.heap.size w w2) ⟨ro2 (ro2 (ro3 (ro3 (BX3.out) (Rn.ne BX3.out BX5.out (by decide))) (Rn.ne BX3.out BX6.out (by decide))) (Rn.ne BX3.out BX7.out (by decide))) (Rn.ne BX3.out BX8.out (by decide)), ro2 (ro2 (ro3 (ro3 (BX4.out) (Rn.ne BX4.out BX5.out (by decide))) (Rn.ne BX4.out BX6.out (by decide))) (Rn.ne BX4.out BX7.out (by decide))) (Rn.ne BX4.out BX8.out (by decide)), (so2 (so2 (so3 ((((BX5.out).set 0 _).set 1 _).set 2 _) (by show gx5 ≠ gx6; omega)) (by show gx5 ≠ gx7; omega)) (by show gx5 ≠ gx8; omega)).eq (by simp only [rA, rB, rC]), (so2 (so2 ((((so3 (BX6.out) (by show gx6 ≠ gx5; omega)).set 0 _).set 1 _).set 2 _) (by show gx6 ≠ gx7; omega)) (by show gx6 ≠ gx8; omega)).eq (by simp only [rA, rB, rC]), (so2 (((so3 (so3 (BX7.out) (by show gx7 ≠ gx5; omega)) (by show gx7 ≠ gx6; omega)).set 0 _).set 1 _) (by show gx7 ≠ gx8; omega)).eq (by simp only [rA, rB, rC]), (((so2 (so3 (so3 (BX8.out) (by show gx8 ≠ gx5; omega)) (by show gx8 ≠ gx6; omega)) (by show gx8 ≠ gx7; omega)).set 0 _).set 1 _).eq (by simp only [rA, rB, rC]), sc2 (sc2 (sc3 (sc3 (HB.out.trans (HG.out.mono HB.out.size)) (by show w.heap.size ≤ gx5; omega)) (by show w.heap.size ≤ gx6; omega)) (by show w.heap.size ≤ gx7; omega)) (by show w.heap.size ≤ gx8; omega)⟩ ?_
  clear HB HG BX0 BX1 BX3 BX4 BX5 BX6 BX7 BX8
  rintro Wx3 ⟨bx3, bx4, bx5, bx6, bx7, bx8, HB⟩
  replace HB := Lib.hid HB
  have lx7 := bx7.cells
  have lx8 := bx8.cells
  have BX3 := Lib.hid bx3
  have BX4 := Lib.hid bx4
  have BX5 := Lib.hid bx5
  have BX6 := Lib.hid bx6
  have BX7 := Lib.hid bx7
  have BX8 := Lib.hid bx8
  clear bx3 bx4 bx5 bx6 bx7 bx8
  refine sK fun K hK => ?_
  refine wp_region_seqplan 4 [(true, 0), (true, 1), (true, 2), (true, 3)] (by rfl) (by simp) (fun T hT => ?_)
  iterate 2 (refine wpPlan_takeL (v := ?_) rfl (by rfl) (fun w' hw => ?_) ?_; rotate_left; go_simp; with_reducible rfl; simp only [Act.put, rA, rB, rC])
  refine wpPlan_callL rfl (by rfl) Tryz.call17 (fun w' hw => zzcmp (a) (a) (0) _ _ _ (by have e9 : ((a) : Int) = (a) := (by first | rfl | omega | (simp; done) | exact eg0 _ | (rw [egcd_zero]; done) | (rw [egcd_zero]; simp; done) | exact elt _ _ (by assumption) | exact zback _ | exact eg_comb _ _ | exact eg_abs _ _ | exact idv0 _ _ | exact idv1 _ _ _ (by assumption) | exact idv2 _ _ _ | grind); exact sgs_eq e9) (by omega) (by omega) (BX3.out.gr hw) (BX4.out.gr hw)) (by rfl) ?_
  simp only [Act.put, rA, rB, rC]
  refine wpPlan_takeL (v := ?_) rfl (by rfl) (fun w' hw => ?_) ?_; rotate_left; go_simp; with_reducible rfl; simp only [Act.put, rA, rB, rC]
  refine wpPlan_nil (hT.out _ _ ?_); clear hT T
  intro vw3 hg
  simp only [puts, Act.put, rA, rB, rC, rD, rE, ↓reduceIte, Nat.reduceEqDiff]
  clear lx7 lx8
  have HG := Lib.hid (hg)
  clear hg
  replace BX3 := rG BX3 HG
  replace BX4 := rG BX4 HG
  replace BX5 := bG BX5 HG
  replace BX6 := bG BX6 HG
  replace BX7 := bG BX7 HG
  replace BX8 := bG BX8 HG
  have r0 := Gr.refl vw3
  go_wp2
  refine hK.out _ _ ?_; clear hK K
  show Code.wp _ _ _ _ _
  clear r0
  refine forgetW (fun w2 => Rn w2 (.slice ao1 nn1 cc1) (Int.natAbs (a)) ∧ Rn w2 (.slice ao2 nn2 cc2) (Int.natAbs (a)) ∧ Bx w2 gx5 33 #[.int .u64 (lo (Int.natAbs (a))), .string (bg (Int.natAbs (a))), .bool (decide ((a) < 0))] ∧ Bx w2 gx6 33 #[.int .u64 (lo (Int.natAbs (a))), .string (bg (Int.natAbs (a))), .bool (decide ((a) < 0))] ∧ Bx w2 gx7 38 #[.bool (decide ((a) < 0)), (.slice ao1 nn1 cc1)] ∧ Bx w2 gx8 38 #[.bool (decide ((a) < 0)), (.slice ao2 nn2 cc2)] ∧ Below w.heap.size w w2) ⟨BX3.out, BX4.out, BX5.out, BX6.out, BX7.out, BX8.out, HB.out.trans (HG.out.mono HB.out.size)⟩ ?_
  clear HB HG BX3 BX4 BX5 BX6 BX7 BX8
  rintro Wx4 ⟨bx3, bx4, bx5, bx6, bx7, bx8, HB⟩
  replace HB := Lib.hid HB
  obtain ⟨u1, HZ1⟩ : ∃ z, Hid ((a) + (a) = z) := ⟨_, Lib.hid rfl⟩
  have su1 : wl (Int.natAbs (u1)) ≤ 17 := by rw [← HZ1.out]; have := wl_iadd (a) (a); omega
  have HZ2 : Hid ((a) + (a) = u1) := Lib.hid (by first | rfl | omega | (simp; done) | exact eg0 _ | (rw [egcd_zero]; done) | (rw [egcd_zero]; simp; done) | exact elt _ _ (by assumption) | exact zback _ | exact eg_comb _ _ | exact eg_abs _ _ | exact idv0 _ _ | exact idv1 _ _ _ (by assumption) | exact idv2 _ _ _ | (simp only [← HZ1.out] <;> first | rfl | omega | (simp; done) | exact eg0 _ | (rw [egcd_zero]; done) | (rw [egcd_zero]; simp; done) | exact elt _ _ (by assumption) | exact zback _ | exact eg_comb _ _ | exact eg_abs _ _ | exact idv0 _ _ | exact idv1 _ _ _ (by assumption) | exact idv2 _ _ _ | grind))
  have su2 : tw (Int.natAbs (u1)) ≤ 49 := by have e := HZ2.out; first | omega | (rw [← e]; have := tw_iadd (a) (a); omega)
  have HZ3 : Hid ((a) - (a) = 0) := Lib.hid (by first | rfl | omega | (simp; done) | exact eg0 _ | (rw [egcd_zero]; done) | (rw [egcd_zero]; simp; done) | exact elt _ _ (by assumption) | exact zback _ | exact eg_comb _ _ | exact eg_abs _ _ | exact idv0 _ _ | exact idv1 _ _ _ (by assumption) | exact idv2 _ _ _ | (simp only [← HZ1.out] <;> first | rfl | omega | (simp; done) | exact eg0 _ | (rw [egcd_zero]; done) | (rw [egcd_zero]; simp; done) | exact elt _ _ (by assumption) | exact zback _ | exact eg_comb _ _ | exact eg_abs _ _ | exact idv0 _ _ | exact idv1 _ _ _ (by assumption) | exact idv2 _ _ _ | grind))
  have su3 : wl (Int.natAbs (0)) ≤ 17 := by have e := HZ3.out; first | omega | (rw [← e]; have := wl_isub (a) (a); omega) | exact wl_le.2 (by decide +kernel)
  have HZ4 : Hid ((a) - (a) = 0) := Lib.hid (by first | rfl | omega | (simp; done) | exact eg0 _ | (rw [egcd_zero]; done) | (rw [egcd_zero]; simp; done) | exact elt _ _ (by assumption) | exact zback _ | exact eg_comb _ _ | exact eg_abs _ _ | exact idv0 _ _ | exact idv1 _ _ _ (by assumption) | exact idv2 _ _ _ | (simp only [← HZ1.out] <;> first | rfl | omega | (simp; done) | exact eg0 _ | (rw [egcd_zero]; done) | (rw [egcd_zero]; simp; done) | exact elt _ _ (by assumption) | exact zback _ | exact eg_comb _ _ | exact eg_abs _ _ | exact idv0 _ _ | exact idv1 _ _ _ (by assumption) | exact idv2 _ _ _ | grind))
  have su4 : tw (Int.natAbs (0)) ≤ 49 := by have e := HZ4.out; first | omega | (rw [← e]; have := tw_isub (a) (a); omega) | exact tw_le.2 (by decide +kernel)
  obtain ⟨u5, HZ5⟩ : ∃ z, Hid ((a) * (a) = z) := ⟨_, Lib.hid rfl⟩
  have su5 : wl (Int.natAbs (u5)) ≤ 32 := by rw [← HZ5.out]; have := wl_imul (a) (a); omega
  have HZ6 : Hid ((a) * (a) = u5) := Lib.hid (by first | rfl | omega | (simp; done) | exact eg0 _ | (rw [egcd_zero]; done) | (rw [egcd_zero]; simp; done) | exact elt _ _ (by assumption) | exact zback _ | exact eg_comb _ _ | exact eg_abs _ _ | exact idv0 _ _ | exact idv1 _ _ _ (by assumption) | exact idv2 _ _ _ | (simp only [← HZ5.out, ← HZ1.out] <;> first | rfl | omega | (simp; done) | exact eg0 _ | (rw [egcd_zero]; done) | (rw [egcd_zero]; simp; done) | exact elt _ _ (by assumption) | exact zback _ | exact eg_comb _ _ | exact eg_abs _ _ | exact idv0 _ _ | exact idv1 _ _ _ (by assumption) | exact idv2 _ _ _ | grind))
  have su6 : tw (Int.natAbs (u5)) ≤ 96 := by have e := HZ6.out; first | omega | (rw [← e]; have := tw_imul (a) (a); omega)
  obtain ⟨u7, HZ7⟩ : ∃ z, Hid (-(a) = z) := ⟨_, Lib.hid rfl⟩
  have su7 : wl (Int.natAbs (u7)) ≤ 16 := by rw [← HZ7.out]; rw [Int.natAbs_neg]; omega
  have HZ8 : Hid (-(a) = u7) := Lib.hid (by first | rfl | omega | (simp; done) | exact eg0 _ | (rw [egcd_zero]; done) | (rw [egcd_zero]; simp; done) | exact elt _ _ (by assumption) | exact zback _ | exact eg_comb _ _ | exact eg_abs _ _ | exact idv0 _ _ | exact idv1 _ _ _ (by assumption) | exact idv2 _ _ _ | (simp only [← HZ7.out, ← HZ5.out, ← HZ1.out] <;> first | rfl | omega | (simp; done) | exact eg0 _ | (rw [egcd_zero]; done) | (rw [egcd_zero]; simp; done) | exact elt _ _ (by assumption) | exact zback _ | exact eg_comb _ _ | exact eg_abs _ _ | exact idv0 _ _ | exact idv1 _ _ _ (by assumption) | exact idv2 _ _ _ | grind))
  have su8 : tw (Int.natAbs (u7)) ≤ 48 := by have e := HZ8.out; first | omega | (rw [← e]; rw [Int.natAbs_neg]; omega)
  have lx5 := bx5.cells
  have lx6 := bx6.cells
  have lx7 := bx7.cells
  have lx8 := bx8.cells
  have BX3 := Lib.hid bx3
  have BX4 := Lib.hid bx4
  have BX5 := Lib.hid bx5
  have BX6 := Lib.hid bx6
  have BX7 := Lib.hid bx7
  have BX8 := Lib.hid bx8
  clear bx3 bx4 bx5 bx6 bx7 bx8
  refine sK fun K hK => ?_
  have HS0 := Lib.hid (HB.out.size)
  have MX5 : gx5 < Wx4.heap.size := BX5.out.lt
  have MX6 : gx6 < Wx4.heap.size := BX6.out.lt
  have MX7 : gx7 < Wx4.heap.size := BX7.out.lt
  have MX8 : gx8 < Wx4.heap.size := BX8.out.lt
  refine wp_region_planQ 71 [] [] (fun _ => 0) (fun _ => .cells #[] 0) [(true, 0), (true, 1), (true, 2), (true, 3), (true, 4), (true, 5), (true, 6), (true, 7), (true, 8), (false, 9), (true, 10), (true, 11), (true, 12), (true, 13), (true, 14), (true, 15), (true, 16), (true, 17), (false, 18), (true, 19), (true, 20), (true, 21), (true, 22), (true, 23), (true, 24), (true, 25), (true, 26), (false, 27), (true, 28), (true, 29), (true, 30), (true, 31), (true, 32), (true, 33), (false, 34), (true, 35), (true, 36), (true, 37), (true, 38), (true, 39), (true, 40), (true, 41), (true, 42), (true, 43), (true, 44), (true, 45), (true, 46), (true, 47), (true, 48), (true, 49), (true, 50), (true, 51), (true, 52), (true, 53), (true, 54), (true, 55), (true, 56), (true, 57), (true, 58), (true, 59), (true, 60), (true, 61), (true, 62), (true, 63), (true, 64), (true, 65), (true, 66), (true, 67), (true, 68), (true, 69), (true, 70)] (by kernel_rfl) (by kernel_rfl) (fun i hi => by cases hi) (fun i hi => by cases hi) (fun _ _ _ _ _ h => h) (fun T hT => ?_)
  iterate 2 (refine wpPlan_takeL (v := ?_) rfl (by rfl) (fun w' hw => ?_) ?_; rotate_left; go_simp; with_reducible rfl; simp only [Act.put, rA, rB, rC])
  refine wpPlan_callL rfl (by rfl) Tryz.call12 (fun w' hw => samez_any (a) (a) _ _ (rfl) (BX3.out.gr hw) (by first | omega | exact wlc (by decide)) (by first | omega | exact wlc (by decide)) (Lib.hid (HT.out.gr (Gr.trans HB.out hw)))) (by rfl) ?_
  simp only [Act.put, rA, rB, rC]
  iterate 3 (refine wpPlan_takeL (v := ?_) rfl (by rfl) (fun w' hw => ?_) ?_; rotate_left; go_simp; with_reducible rfl; simp only [Act.put, rA, rB, rC])
  refine wpPlan_callL rfl (by rfl) Tryz.call18 (fun w' hw => ziadd (a) (a) (u1) _ HZ1.out (by first | omega | exact wlc (by decide)) (by first | omega | exact wlc (by decide))) (by rfl) ?_
  simp only [Act.put, rA, rB, rC]
  iterate 2 (refine wpPlan_takeL (v := ?_) rfl (by rfl) (fun w' hw => ?_) ?_; rotate_left; go_simp; with_reducible rfl; simp only [Act.put, rA, rB, rC])
  refine wpPlan_callE rfl (by rfl) Tryz.call19 (by rfl) (fun w' hw => (zadd_any (a) (a) (u1) _ _ _ HZ2.out (by omega) (by omega) (BX3.out.gr hw) (BX4.out.gr hw)).mono ?_)
  rintro e vv1 ⟨⟨rv3, rfl, bx9⟩, hg0⟩
  obtain ⟨ao3, nn3, cc3, rfl⟩ := Rn.sl bx9
  refine ⟨_, rfl, hg0, ?_⟩
  replace hg0 := Gr.trans hw hg0; clear hw
  have HG0 := Lib.hid hg0; clear hg0
  replace BX3 := rG BX3 HG0
  replace BX4 := rG BX4 HG0
  replace BX5 := bG BX5 HG0
  replace BX6 := bG BX6 HG0
  replace BX7 := bG BX7 HG0
  replace BX8 := bG BX8 HG0
  replace HB := Lib.hid (HB.out.trans (HG0.out.mono HB.out.size))
  have BX9 := Lib.hid bx9; clear bx9
  clear HG0
  clear lx5; have lx5 := BX5.out.cells
  clear lx6; have lx6 := BX6.out.cells
  clear lx7; have lx7 := BX7.out.cells
  clear lx8; have lx8 := BX8.out.cells
  simp only [Act.put, rA, rB, rC]
  refine wpPlan_callL rfl (by rfl) Tryz.call12 (fun w' hw => samez_any (u1) (u1) _ _ (rfl) (BX9.out.gr hw) (by first | omega | exact wlc (by decide)) (by first | omega | exact wlc (by decide)) (Lib.hid (HT.out.gr (Gr.trans HB.out hw)))) (by rfl) ?_
  simp only [Act.put, rA, rB, rC]
  iterate 4 (refine wpPlan_takeL (v := ?_) rfl (by rfl) (fun w' hw => ?_) ?_; rotate_left; go_simp; with_reducible rfl; simp only [Act.put, rA, rB, rC])
  refine wpPlan_callL rfl (by rfl) Tryz.call20 (fun w' hw => zisub (a) (a) (0) _ HZ3.out (by first | omega | exact wlc (by decide)) (by first | omega | exact wlc (by decide))) (by rfl) ?_
  simp only [Act.put, rA, rB, rC]
  iterate 2 (refine wpPlan_takeL (v := ?_) rfl (by rfl) (fun w' hw => ?_) ?_; rotate_left; go_simp; with_reducible rfl; simp only [Act.put, rA, rB, rC])
  refine wpPlan_callE rfl (by rfl) Tryz.call21 (by rfl) (fun w' hw => (zsub_any (a) (a) (0) _ _ _ HZ4.out (by omega) (by omega) (BX3.out.gr hw) (BX4.out.gr hw)).mono ?_)
  rintro e vv2 ⟨⟨rv4, rfl, bx10⟩, hg0⟩
  obtain ⟨ao4, nn4, cc4, rfl⟩ := Rn.sl bx10
  refine ⟨_, rfl, hg0, ?_⟩
  replace hg0 := Gr.trans hw hg0; clear hw
  have HG0 := Lib.hid hg0; clear hg0
  replace BX3 := rG BX3 HG0
  replace BX4 := rG BX4 HG0
  replace BX5 := bG BX5 HG0
  replace BX6 := bG BX6 HG0
  replace BX7 := bG BX7 HG0
  replace BX8 := bG BX8 HG0
  replace BX9 := rG BX9 HG0
  replace HB := Lib.hid (HB.out.trans (HG0.out.mono HB.out.size))
  have BX10 := Lib.hid bx10; clear bx10
  clear HG0
  clear lx5; have lx5 := BX5.out.cells
  clear lx6; have lx6 := BX6.out.cells
  clear lx7; have lx7 := BX7.out.cells
  clear lx8; have lx8 := BX8.out.cells
  simp only [Act.put, rA, rB, rC]
  refine wpPlan_callL rfl (by rfl) Tryz.call12 (fun w' hw => samez_any (0) (0) _ _ (rfl) (BX10.out.gr hw) (by first | omega | exact wlc (by decide)) (by first | omega | exact wlc (by decide)) (Lib.hid (HT.out.gr (Gr.trans HB.out hw)))) (by rfl) ?_
  simp only [Act.put, rA, rB, rC]
  iterate 4 (refine wpPlan_takeL (v := ?_) rfl (by rfl) (fun w' hw => ?_) ?_; rotate_left; go_simp; with_reducible rfl; simp only [Act.put, rA, rB, rC])
  refine wpPlan_callL rfl (by rfl) Tryz.call22 (fun w' hw => zimul (a) (a) (u5) _ HZ5.out (by first | omega | exact wlc (by decide)) (by first | omega | exact wlc (by decide))) (by rfl) ?_
  simp only [Act.put, rA, rB, rC]
  iterate 2 (refine wpPlan_takeL (v := ?_) rfl (by rfl) (fun w' hw => ?_) ?_; rotate_left; go_simp; with_reducible rfl; simp only [Act.put, rA, rB, rC])
  refine wpPlan_callE rfl (by rfl) Tryz.call23 (by rfl) (fun w' hw => (zmul_any (a) (a) (u5) _ _ _ HZ6.out (by omega) (by omega) (BX3.out.gr hw) (BX4.out.gr hw)).mono ?_)
  rintro e vv3 ⟨⟨rv5, rfl, bx11⟩, hg0⟩
  obtain ⟨ao5, nn5, cc5, rfl⟩ := Rn.sl bx11
  refine ⟨_, rfl, hg0, ?_⟩
  replace hg0 := Gr.trans hw hg0; clear hw
  have HG0 := Lib.hid hg0; clear hg0
  replace BX3 := rG BX3 HG0
  replace BX4 := rG BX4 HG0
  replace BX5 := bG BX5 HG0
  replace BX6 := bG BX6 HG0
  replace BX7 := bG BX7 HG0
  replace BX8 := bG BX8 HG0
  replace BX9 := rG BX9 HG0
  replace BX10 := rG BX10 HG0
  replace HB := Lib.hid (HB.out.trans (HG0.out.mono HB.out.size))
  have BX11 := Lib.hid bx11; clear bx11
  clear HG0
  clear lx5; have lx5 := BX5.out.cells
  clear lx6; have lx6 := BX6.out.cells
  clear lx7; have lx7 := BX7.out.cells
  clear lx8; have lx8 := BX8.out.cells
  simp only [Act.put, rA, rB, rC]
  refine wpPlan_callL rfl (by rfl) Tryz.call12 (fun w' hw => samez_any (u5) (u5) _ _ (rfl) (BX11.out.gr hw) (by first | omega | exact wlc (by decide)) (by first | omega | exact wlc (by decide)) (Lib.hid (HT.out.gr (Gr.trans HB.out hw)))) (by rfl) ?_
  simp only [Act.put, rA, rB, rC]
  iterate 3 (refine wpPlan_takeL (v := ?_) rfl (by rfl) (fun w' hw => ?_) ?_; rotate_left; go_simp; with_reducible rfl; simp only [Act.put, rA, rB, rC])
  refine wpPlan_callL rfl (by rfl) Tryz.call24 (fun w' hw => zineg (a) (u7) _ HZ7.out) (by rfl) ?_
  simp only [Act.put, rA, rB, rC]
  refine wpPlan_takeL (v := ?_) rfl (by rfl) (fun w' hw => ?_) ?_; rotate_left; go_simp; with_reducible rfl; simp only [Act.put, rA, rB, rC]
  refine wpPlan_callE rfl (by rfl) Tryz.call25 (by rfl) (fun w' hw => (zneg_any (a) (u7) _ _ HZ8.out (BX3.out.gr hw)).mono ?_)
  rintro e vv4 ⟨⟨rv6, rfl, bx12⟩, hg0⟩
  obtain ⟨ao6, nn6, cc6, rfl⟩ := Rn.sl bx12
  refine ⟨_, rfl, hg0, ?_⟩
  replace hg0 := Gr.trans hw hg0; clear hw
  have HG0 := Lib.hid hg0; clear hg0
  replace BX3 := rG BX3 HG0
  replace BX4 := rG BX4 HG0
  replace BX5 := bG BX5 HG0
  replace BX6 := bG BX6 HG0
  replace BX7 := bG BX7 HG0
  replace BX8 := bG BX8 HG0
  replace BX9 := rG BX9 HG0
  replace BX10 := rG BX10 HG0
  replace BX11 := rG BX11 HG0
  replace HB := Lib.hid (HB.out.trans (HG0.out.mono HB.out.size))
  have BX12 := Lib.hid bx12; clear bx12
  clear HG0
  clear lx5; have lx5 := BX5.out.cells
  clear lx6; have lx6 := BX6.out.cells
  clear lx7; have lx7 := BX7.out.cells
  clear lx8; have lx8 := BX8.out.cells
  simp only [Act.put, rA, rB, rC]
  refine wpPlan_callL rfl (by rfl) Tryz.call12 (fun w' hw => samez_any (u7) (u7) _ _ (rfl) (BX12.out.gr hw) (by first | omega | exact wlc (by decide)) (by first | omega | exact wlc (by decide)) (Lib.hid (HT.out.gr (Gr.trans HB.out hw)))) (by rfl) ?_
  simp only [Act.put, rA, rB, rC]
  iterate 3 (refine wpPlan_takeL (v := ?_) rfl (by rfl) (fun w' hw => ?_) ?_; rotate_left; go_simp; with_reducible rfl; simp only [Act.put, rA, rB, rC])
  refine wpPlan_callL rfl (by rfl) Tryz.call26 (fun w' hw => zisign (a) (s) _ HSA.out) (by rfl) ?_
  simp only [Act.put, rA, rB, rC]
  refine wpPlan_takeL (v := ?_) rfl (by rfl) (fun w' hw => ?_) ?_; rotate_left; go_simp; with_reducible rfl; simp only [Act.put, rA, rB, rC]
  refine wpPlan_callL rfl (by rfl) Tryz.call14 (fun w' hw => zrsign (a) (s) _ _ HSA.out (BX3.out.gr hw)) (by rfl) ?_
  simp only [Act.put, rA, rB, rC]
  iterate 5 (refine wpPlan_takeL (v := ?_) rfl (by rfl) (fun w' hw => ?_) ?_; rotate_left; go_simp; with_reducible rfl; simp only [Act.put, rA, rB, rC])
  refine wpPlan_callL rfl (by rfl) Tryz.call27 (fun w' hw => zicmp (a) (a) (0) _ (by have e9 : ((a) : Int) = (a) := (by first | rfl | omega | (simp; done) | exact eg0 _ | (rw [egcd_zero]; done) | (rw [egcd_zero]; simp; done) | exact elt _ _ (by assumption) | exact zback _ | exact eg_comb _ _ | exact eg_abs _ _ | exact idv0 _ _ | exact idv1 _ _ _ (by assumption) | exact idv2 _ _ _ | (simp only [← HZ7.out, ← HZ5.out, ← HZ1.out] <;> first | rfl | omega | (simp; done) | exact eg0 _ | (rw [egcd_zero]; done) | (rw [egcd_zero]; simp; done) | exact elt _ _ (by assumption) | exact zback _ | exact eg_comb _ _ | exact eg_abs _ _ | exact idv0 _ _ | exact idv1 _ _ _ (by assumption) | exact idv2 _ _ _ | grind)); exact sgs_eq e9) (by first | omega | exact wlc (by decide)) (by first | omega | exact wlc (by decide))) (by rfl) ?_
  simp only [Act.put, rA, rB, rC]
  iterate 13 (refine wpPlan_takeL (v := ?_) rfl (by rfl) (fun w' hw => ?_) ?_; rotate_left; go_simp; with_reducible rfl; simp only [Act.put, rA, rB, rC])
  refine wpPlan_callL rfl (by rfl) Tryz.call29 (fun w' hw => abs_any (a) _) (by rfl) ?_
  simp only [Act.put, rA, rB, rC]
  refine wpPlan_callL rfl (by rfl) Tryz.call28 (fun w' hw => nztexts (Int.natAbs (a)) tx _ HTX.out (by first | omega | exact wlc (by decide)) (Lib.hid (HT.out.gr (Gr.trans HB.out hw)))) (by rfl) ?_
  simp only [Act.put, rA, rB, rC]
  iterate 2 (refine wpPlan_takeL (v := ?_) rfl (by rfl) (fun w' hw => ?_) ?_; rotate_left; go_simp; with_reducible rfl; simp only [Act.put, rA, rB, rC])
  refine wpPlan_callL rfl (by rfl) Tryz.call30 (fun w' hw => zrtext _ (Int.natAbs (a)) tx _ HTX.out (BX3.out.gr hw) (by omega)) (by rfl) ?_
  simp only [Act.put, rA, rB, rC]
  iterate 3 (refine wpPlan_takeL (v := ?_) rfl (by rfl) (fun w' hw => ?_) ?_; rotate_left; go_simp; with_reducible rfl; simp only [Act.put, rA, rB, rC])
  refine wpPlan_callL rfl (by rfl) Tryz.call7 (fun w' hw => worksz_any _ (Lib.hid (HT.out.gr (Gr.trans HB.out hw)))) (by rfl) ?_
  simp only [Act.put, rA, rB, rC]
  refine wpPlan_takeL (v := ?_) rfl (by rfl) (fun w' hw => ?_) ?_; rotate_left; go_simp; with_reducible rfl; simp only [Act.put, rA, rB, rC]
  refine wpPlan_nil (hT.out _ _ ?_); clear hT T
  intro G vw4 hg hf
  simp only [puts, Act.put, List.setIfInBounds_toArray, List.set_cons_zero, List.set_cons_succ, List.drop_succ_cons, List.drop_zero, ↓reduceIte, Nat.reduceEqDiff, List.append_eq, List.cons_append, List.nil_append]
  clear lx5 lx6 lx7 lx8
  have HG := Lib.hid (hg)
  clear hg
  replace BX3 := rG BX3 HG
  replace BX4 := rG BX4 HG
  replace BX5 := bG BX5 HG
  replace BX6 := bG BX6 HG
  replace BX7 := bG BX7 HG
  replace BX8 := bG BX8 HG
  replace BX9 := rG BX9 HG
  replace BX10 := rG BX10 HG
  replace BX11 := rG BX11 HG
  replace BX12 := rG BX12 HG
  have r0 := Gr.refl vw4
  go_wp2
  refine hK.out _ _ ?_; clear hK K
  show Code.wp _ _ _ _ _
  clear r0
  refine forgetW (fun w2 => Below w.heap.size w w2) (HB.out.trans (HG.out.mono HB.out.size)) ?_
  clear HB HG BX3 BX4 BX5 BX6 BX7 BX8 BX9 BX10 BX11 BX12
  rintro Wx5 HB
  replace HB := Lib.hid HB
  refine wp_ret ?_
  try simp only [Exit.then, Exit.inBlock]
  have r0 := Gr.refl Wx5
  exact bodyPost_ret (v := .bool true) (by simp [results, Tryz.results4, go_sem]) rfl ⟨rfl, HB.out⟩

set_option maxRecDepth 100000 in
set_option maxHeartbeats 4000000 in
theorem sumz_big1 (bbx : Bool) (vx : Value) (kx : Nat) (fx : Nat → Nat) (mx : Nat) (bby : Bool) (vy : Value) (ky : Nat) (fy : Nat → Nat) (my : Nat) (a b : Int)  (w : World) (HWx : Hid (Wa w vx kx fx)) (HFx : Hid (∀ i, i < kx → fx i < 4294967296)) (HVx : Hid (vl fx kx = mx)) (HAx : Hid ((if bbx then -((mx : Nat) : Int) else ((mx : Nat) : Int)) = a)) (HWy : Hid (Wa w vy ky fy)) (HFy : Hid (∀ i, i < ky → fy i < 4294967296)) (HVy : Hid (vl fy ky = my)) (HAy : Hid ((if bby then -((my : Nat) : Int) else ((my : Nat) : Int)) = b))  (hkx : 16 < kx) (HT : Hid (Tab w)) :
    Calls Tryz.prog 4 #[.agg #[.bool bbx, vx], .agg #[.bool bby, vy]] w fun e w' => e = .returned (.bool true) ∧ Below w.heap.size w w' := by
  obtain ⟨ao_x, c_x, rfl⟩ := HWx.out.slice
  obtain ⟨ao_y, c_y, rfl⟩ := HWy.out.slice
  go_enter Tryz.func4, Tryz.ntmps4
  refine sK fun K hK => ?_
  refine wp_region_lit ?_
  go_wp2
  refine hK.out _ _ ?_; clear hK K
  show Code.wp _ _ _ _ _
  refine forgetW (fun w2 => Bx w2 (w.heap.size) 24 #[.bool (bbx), (.slice ao_x kx c_x)] ∧ Bx w2 (w.heap.size + 1) 24 #[.bool (bby), (.slice ao_y ky c_y)] ∧ Below w.heap.size w w2) ⟨(Bx.at rfl).alloc _, Bx.at (by simp), ((Below.refl _ _).alloc (Nat.le_refl _) _).alloc (by simp) _⟩ ?_
  rintro Wx ⟨bx0, bx1, HB⟩
  replace HB := Lib.hid HB
  refine wp_seq ?_
  have lx0 := bx0.cells
  have lx1 := bx1.cells
  have BX0 := Lib.hid bx0
  have BX1 := Lib.hid bx1
  clear bx0 bx1
  refine sK fun K hK => ?_
  have HS0 := Lib.hid (HB.out.size)
  have MX0 : w.heap.size < Wx.heap.size := BX0.out.lt
  have MX1 : w.heap.size + 1 < Wx.heap.size := BX1.out.lt
  refine wp_region_seqplan 5 [(true, 0), (true, 1), (false, 2), (true, 3), (true, 4)] (by rfl) (by simp) (fun T hT => ?_)
  iterate 2 (refine wpPlan_takeL (v := ?_) rfl (by rfl) (fun w' hw => ?_) ?_; rotate_left; go_simp; with_reducible rfl; simp only [Act.put, rA, rB, rC])
  refine wpPlan_slice (cs := #[.bool (bbx), (.slice ao_x kx c_x), .bool (bby), (.slice ao_y ky c_y)]) (E := 24) (n := 2) rfl (by rfl) (fun w' hw => ?_) (fun gx2 vv1 hg0 yx2 bx2 => ?_)
  · go_simp
  have HG0 := Lib.hid hg0; clear hg0
  replace yx2 : w.heap.size ≤ gx2 := by first | exact Nat.le_trans HS0.out yx2 | exact Nat.le_trans HB.out.size yx2
  have BX2 := Lib.hid bx2; clear bx2
  replace BX0 := bG BX0 HG0
  replace BX1 := bG BX1 HG0
  replace HB := Lib.hid (HB.out.trans (HG0.out.mono HB.out.size))
  clear HG0
  clear lx0; have lx0 := BX0.out.cells
  clear lx1; have lx1 := BX1.out.cells
  simp only [Act.put, rA, rB, rC]
  refine wpPlan_callL rfl (by rfl) Tryz.call6 (fun w' hw => few2_no0 _ _ _ _ _ _ _ _ 16 gx2 _ (BX2.out.gr hw) (by omega)) (by rfl) ?_
  simp only [Act.put, rA, rB, rC]
  refine wpPlan_takeL (v := ?_) rfl (by rfl) (fun w' hw => ?_) ?_; rotate_left; go_simp; with_reducible rfl; simp only [Act.put, rA, rB, rC]
  refine wpPlan_nil (hT.out _ _ ?_); clear hT T
  intro vw1 hg
  simp only [puts, Act.put, rA, rB, rC, rD, rE, ↓reduceIte, Nat.reduceEqDiff]
  clear lx0 lx1
  clear BX2
  have HG := Lib.hid (hg)
  clear hg
  replace BX0 := bG BX0 HG
  replace BX1 := bG BX1 HG
  have r0 := Gr.refl vw1
  go_wp2
  refine hK.out _ _ ?_; clear hK K
  show Code.wp _ _ _ _ _
  clear r0
  refine forgetW (fun w2 => Bx w2 (w.heap.size) 24 #[.bool (bbx), (.slice ao_x kx c_x)] ∧ Bx w2 (w.heap.size + 1) 24 #[.bool (bby), (.slice ao_y ky c_y)] ∧ Below w.heap.size w w2) ⟨BX0.out, BX1.out, HB.out.trans (HG.out.mono HB.out.size)⟩ ?_
  clear HB HG BX0 BX1
  rintro Wx1 ⟨bx0, bx1, HB⟩
  replace HB := Lib.hid HB
  refine wp_cond_true (by rfl) ?_
  have BX0 := Lib.hid bx0
  have BX1 := Lib.hid bx1
  clear bx0 bx1
  refine sK fun K hK => ?_
  refine wp_region_seqplan 2 [(true, 0), (true, 1)] (by rfl) (by simp) (fun T hT => ?_)
  refine wpPlan_callL rfl (by rfl) Tryz.call7 (fun w' hw => worksz_any _ (Lib.hid (HT.out.gr (Gr.trans HB.out hw)))) (by rfl) ?_
  simp only [Act.put, rA, rB, rC]
  refine wpPlan_takeL (v := ?_) rfl (by rfl) (fun w' hw => ?_) ?_; rotate_left; go_simp; with_reducible rfl; simp only [Act.put, rA, rB, rC]
  refine wpPlan_nil (hT.out _ _ ?_); clear hT T
  intro vw2 hg
  simp only [puts, Act.put, rA, rB, rC, rD, rE, ↓reduceIte, Nat.reduceEqDiff]
  have HG := Lib.hid (hg)
  clear hg
  replace BX0 := bG BX0 HG
  replace BX1 := bG BX1 HG
  have r0 := Gr.refl vw2
  go_wp2
  refine hK.out _ _ ?_; clear hK K
  show Code.wp _ _ _ _ _
  clear r0
  refine forgetW (fun w2 => Bx w2 (w.heap.size) 24 #[.bool (bbx), (.slice ao_x kx c_x)] ∧ Bx w2 (w.heap.size + 1) 24 #[.bool (bby), (.slice ao_y ky c_y)] ∧ Below w.heap.size w w2) ⟨BX0.out, BX1.out, HB.out.trans (HG.out.mono HB.out.size)⟩ ?_
  clear HB HG BX0 BX1
  rintro Wx2 ⟨bx0, bx1, HB⟩
  replace HB := Lib.hid HB
  refine wp_ret ?_
  try simp only [Exit.then, Exit.inBlock]
  have r0 := Gr.refl Wx2
  exact bodyPost_ret (v := .bool true) (by simp [results, Tryz.results4, go_sem]) rfl ⟨rfl, HB.out⟩

set_option maxRecDepth 100000 in
set_option maxHeartbeats 4000000 in
theorem sumz_big2 (bbx : Bool) (vx : Value) (kx : Nat) (fx : Nat → Nat) (mx : Nat) (bby : Bool) (vy : Value) (ky : Nat) (fy : Nat → Nat) (my : Nat) (a b : Int)  (w : World) (HWx : Hid (Wa w vx kx fx)) (HFx : Hid (∀ i, i < kx → fx i < 4294967296)) (HVx : Hid (vl fx kx = mx)) (HAx : Hid ((if bbx then -((mx : Nat) : Int) else ((mx : Nat) : Int)) = a)) (HWy : Hid (Wa w vy ky fy)) (HFy : Hid (∀ i, i < ky → fy i < 4294967296)) (HVy : Hid (vl fy ky = my)) (HAy : Hid ((if bby then -((my : Nat) : Int) else ((my : Nat) : Int)) = b)) (hkx : kx ≤ 16) (hky : 16 < ky) (HT : Hid (Tab w)) :
    Calls Tryz.prog 4 #[.agg #[.bool bbx, vx], .agg #[.bool bby, vy]] w fun e w' => e = .returned (.bool true) ∧ Below w.heap.size w w' := by
  obtain ⟨ao_x, c_x, rfl⟩ := HWx.out.slice
  obtain ⟨ao_y, c_y, rfl⟩ := HWy.out.slice
  go_enter Tryz.func4, Tryz.ntmps4
  refine sK fun K hK => ?_
  refine wp_region_lit ?_
  go_wp2
  refine hK.out _ _ ?_; clear hK K
  show Code.wp _ _ _ _ _
  refine forgetW (fun w2 => Bx w2 (w.heap.size) 24 #[.bool (bbx), (.slice ao_x kx c_x)] ∧ Bx w2 (w.heap.size + 1) 24 #[.bool (bby), (.slice ao_y ky c_y)] ∧ Below w.heap.size w w2) ⟨(Bx.at rfl).alloc _, Bx.at (by simp), ((Below.refl _ _).alloc (Nat.le_refl _) _).alloc (by simp) _⟩ ?_
  rintro Wx ⟨bx0, bx1, HB⟩
  replace HB := Lib.hid HB
  refine wp_seq ?_
  have lx0 := bx0.cells
  have lx1 := bx1.cells
  have BX0 := Lib.hid bx0
  have BX1 := Lib.hid bx1
  clear bx0 bx1
  refine sK fun K hK => ?_
  have HS0 := Lib.hid (HB.out.size)
  have MX0 : w.heap.size < Wx.heap.size := BX0.out.lt
  have MX1 : w.heap.size + 1 < Wx.heap.size := BX1.out.lt
  refine wp_region_seqplan 5 [(true, 0), (true, 1), (false, 2), (true, 3), (true, 4)] (by rfl) (by simp) (fun T hT => ?_)
  iterate 2 (refine wpPlan_takeL (v := ?_) rfl (by rfl) (fun w' hw => ?_) ?_; rotate_left; go_simp; with_reducible rfl; simp only [Act.put, rA, rB, rC])
  refine wpPlan_slice (cs := #[.bool (bbx), (.slice ao_x kx c_x), .bool (bby), (.slice ao_y ky c_y)]) (E := 24) (n := 2) rfl (by rfl) (fun w' hw => ?_) (fun gx2 vv1 hg0 yx2 bx2 => ?_)
  · go_simp
  have HG0 := Lib.hid hg0; clear hg0
  replace yx2 : w.heap.size ≤ gx2 := by first | exact Nat.le_trans HS0.out yx2 | exact Nat.le_trans HB.out.size yx2
  have BX2 := Lib.hid bx2; clear bx2
  replace BX0 := bG BX0 HG0
  replace BX1 := bG BX1 HG0
  replace HB := Lib.hid (HB.out.trans (HG0.out.mono HB.out.size))
  clear HG0
  clear lx0; have lx0 := BX0.out.cells
  clear lx1; have lx1 := BX1.out.cells
  simp only [Act.put, rA, rB, rC]
  refine wpPlan_callL rfl (by rfl) Tryz.call6 (fun w' hw => few2_no1 _ _ _ _ _ _ _ _ 16 gx2 _ (BX2.out.gr hw) (by omega) (by omega)) (by rfl) ?_
  simp only [Act.put, rA, rB, rC]
  refine wpPlan_takeL (v := ?_) rfl (by rfl) (fun w' hw => ?_) ?_; rotate_left; go_simp; with_reducible rfl; simp only [Act.put, rA, rB, rC]
  refine wpPlan_nil (hT.out _ _ ?_); clear hT T
  intro vw1 hg
  simp only [puts, Act.put, rA, rB, rC, rD, rE, ↓reduceIte, Nat.reduceEqDiff]
  clear lx0 lx1
  clear BX2
  have HG := Lib.hid (hg)
  clear hg
  replace BX0 := bG BX0 HG
  replace BX1 := bG BX1 HG
  have r0 := Gr.refl vw1
  go_wp2
  refine hK.out _ _ ?_; clear hK K
  show Code.wp _ _ _ _ _
  clear r0
  refine forgetW (fun w2 => Bx w2 (w.heap.size) 24 #[.bool (bbx), (.slice ao_x kx c_x)] ∧ Bx w2 (w.heap.size + 1) 24 #[.bool (bby), (.slice ao_y ky c_y)] ∧ Below w.heap.size w w2) ⟨BX0.out, BX1.out, HB.out.trans (HG.out.mono HB.out.size)⟩ ?_
  clear HB HG BX0 BX1
  rintro Wx1 ⟨bx0, bx1, HB⟩
  replace HB := Lib.hid HB
  refine wp_cond_true (by rfl) ?_
  have BX0 := Lib.hid bx0
  have BX1 := Lib.hid bx1
  clear bx0 bx1
  refine sK fun K hK => ?_
  refine wp_region_seqplan 2 [(true, 0), (true, 1)] (by rfl) (by simp) (fun T hT => ?_)
  refine wpPlan_callL rfl (by rfl) Tryz.call7 (fun w' hw => worksz_any _ (Lib.hid (HT.out.gr (Gr.trans HB.out hw)))) (by rfl) ?_
  simp only [Act.put, rA, rB, rC]
  refine wpPlan_takeL (v := ?_) rfl (by rfl) (fun w' hw => ?_) ?_; rotate_left; go_simp; with_reducible rfl; simp only [Act.put, rA, rB, rC]
  refine wpPlan_nil (hT.out _ _ ?_); clear hT T
  intro vw2 hg
  simp only [puts, Act.put, rA, rB, rC, rD, rE, ↓reduceIte, Nat.reduceEqDiff]
  have HG := Lib.hid (hg)
  clear hg
  replace BX0 := bG BX0 HG
  replace BX1 := bG BX1 HG
  have r0 := Gr.refl vw2
  go_wp2
  refine hK.out _ _ ?_; clear hK K
  show Code.wp _ _ _ _ _
  clear r0
  refine forgetW (fun w2 => Bx w2 (w.heap.size) 24 #[.bool (bbx), (.slice ao_x kx c_x)] ∧ Bx w2 (w.heap.size + 1) 24 #[.bool (bby), (.slice ao_y ky c_y)] ∧ Below w.heap.size w w2) ⟨BX0.out, BX1.out, HB.out.trans (HG.out.mono HB.out.size)⟩ ?_
  clear HB HG BX0 BX1
  rintro Wx2 ⟨bx0, bx1, HB⟩
  replace HB := Lib.hid HB
  refine wp_ret ?_
  try simp only [Exit.then, Exit.inBlock]
  have r0 := Gr.refl Wx2
  exact bodyPost_ret (v := .bool true) (by simp [results, Tryz.results4, go_sem]) rfl ⟨rfl, HB.out⟩

theorem sumz_law (bbx : Bool) (vx : Value) (kx : Nat) (fx : Nat → Nat) (bby : Bool) (vy : Value) (ky : Nat) (fy : Nat → Nat) (w : World) (HWx : Hid (Wa w vx kx fx)) (HFx : Hid (∀ i, i < kx → fx i < 4294967296)) (HWy : Hid (Wa w vy ky fy)) (HFy : Hid (∀ i, i < ky → fy i < 4294967296)) (HT : Hid (Tab w)) :
    Calls Tryz.prog 4 #[.agg #[.bool bbx, vx], .agg #[.bool bby, vy]] w fun e w' => e = .returned (.bool true) ∧ Below w.heap.size w w' := by
  obtain ⟨a, ha⟩ : ∃ z, Hid ((if bbx then -((vl fx kx : Nat) : Int) else ((vl fx kx : Nat) : Int)) = z) := ⟨_, Lib.hid rfl⟩
  obtain ⟨b, hb⟩ : ∃ z, Hid ((if bby then -((vl fy ky : Nat) : Int) else ((vl fy ky : Nat) : Int)) = z) := ⟨_, Lib.hid rfl⟩
  by_cases hkx : kx ≤ 16
  · skip
    by_cases hky : ky ≤ 16
    · skip
      rcases Int.lt_trichotomy a b with h | h | h
      · exact sumz_lt bbx vx kx fx _ bby vy ky fy _ a b _ _ w HWx HFx (Lib.hid rfl) ha HWy HFy (Lib.hid rfl) hb hkx hky h (Lib.hid rfl) (Lib.hid rfl) HT
      · subst h
        exact sumz_eq bbx vx kx fx _ bby vy ky fy _ a _ _ w HWx HFx (Lib.hid rfl) ha HWy HFy (Lib.hid rfl) hb hkx hky (Lib.hid rfl) (Lib.hid rfl) HT
      · exact sumz_gt bbx vx kx fx _ bby vy ky fy _ a b _ _ w HWx HFx (Lib.hid rfl) ha HWy HFy (Lib.hid rfl) hb hkx hky h (Lib.hid rfl) (Lib.hid rfl) HT
    · exact sumz_big2 bbx vx kx fx _ bby vy ky fy _ a b w HWx HFx (Lib.hid rfl) ha HWy HFy (Lib.hid rfl) hb hkx (by omega) HT
  · exact sumz_big1 bbx vx kx fx _ bby vy ky fy _ a b w HWx HFx (Lib.hid rfl) ha HWy HFy (Lib.hid rfl) hb  (by omega) HT

end Go.Proofs.YtflhpdlecpehkaaGreatDoor
