
/- NatsDivisors: the law's walk. -/
import Derived.Test.YteenojfbnbkedaaDoorSh
import Derived.Test.YteenojfbnbkedaaDoorPlainN
namespace Go.Proofs.YteenojfbnbkedaaDoor
open Go.RowKit
set_option linter.unusedSimpArgs false
set_option linter.unusedVariables false
attribute [local go_sem ↓] Go.wp_at_zero Go.wp_at_succ
attribute [local go_sem ↓] eq_nat eq_nat_zero
set_option maxRecDepth 100000 in
set_option maxHeartbeats 4000000 in
theorem sor_none (vx : Value) (kx : Nat) (fx : Nat → Nat) (vy : Value) (ky : Nat) (fy : Nat → Nat) (vz : Value) (kz : Nat) (fz : Nat → Nat) (c : Nat)  (w : World) (HWx : Hid (Wa w vx kx fx)) (HFx : Hid (∀ i, i < kx → fx i < 4294967296)) (HVx : Hid (vl fx kx = 0)) (HWy : Hid (Wa w vy ky fy)) (HFy : Hid (∀ i, i < ky → fy i < 4294967296)) (HVy : Hid (vl fy ky = 0)) (HWz : Hid (Wa w vz kz fz)) (HFz : Hid (∀ i, i < kz → fz i < 4294967296)) (HVz : Hid (vl fz kz = c)) (hkx : kx ≤ 12) (hky : ky ≤ 12) (hkz : kz ≤ 6) (HT : Hid (Tab w)) :
    Calls Tryd.prog 8 #[vx, vy, vz] w fun e w' => e = .returned (.bool true) ∧ Below w.heap.size w w' := by
  obtain ⟨ao_x, c_x, rfl⟩ := HWx.out.slice
  obtain ⟨ao_y, c_y, rfl⟩ := HWy.out.slice
  obtain ⟨ao_z, c_z, rfl⟩ := HWz.out.slice
  have hb_0 : wl 0 ≤ 12 := by rw [← HVx.out]; have := wl_le.2 (vl_lt HFx.out); omega
  have hb_0 : wl 0 ≤ 12 := by rw [← HVy.out]; have := wl_le.2 (vl_lt HFy.out); omega
  have hb_c : wl c ≤ 6 := by rw [← HVz.out]; have := wl_le.2 (vl_lt HFz.out); omega
  go_enter Tryd.func8, Tryd.ntmps8
  refine sK fun K hK => ?_
  refine wp_region_lit ?_
  go_wp2
  refine hK.out _ _ ?_; clear hK K
  show Code.wp _ _ _ _ _
  refine forgetW (fun w2 => Below w.heap.size w w2) (Below.refl _ _) ?_
  rintro Wx HB
  replace HB := Lib.hid HB
  refine wp_seq ?_
  have hd1 : ¬ (12 < ((kx : Int))) := by omega
  have hd2 : ¬ (12 < ((ky : Int))) := by omega
  have hd3 : ¬ (6 < ((kz : Int))) := by omega
  refine sK fun K hK => ?_
  refine wp_region_seqplan 13 [(true, 0), (true, 1), (true, 2), (true, 3), (true, 4), (true, 5), (true, 6), (true, 7), (true, 8), (true, 9), (true, 10), (true, 11), (true, 12)] (by rfl) (by simp) (fun T hT => ?_)
  iterate 13 (refine wpPlan_takeL (v := ?_) rfl (by rfl) (fun w' hw => ?_) ?_; rotate_left; go_simp; with_reducible rfl; simp only [Act.put, rA, rB, rC])
  refine wpPlan_nil (hT.out _ _ ?_); clear hT T
  intro vw1 hg
  simp only [puts, Act.put, rA, rB, rC, rD, rE, ↓reduceIte, Nat.reduceEqDiff]
  have HG := Lib.hid (hg)
  clear hg
  have r0 := Gr.refl vw1
  go_wp2
  refine hK.out _ _ ?_; clear hK K
  show Code.wp _ _ _ _ _
  clear r0
  refine forgetW (fun w2 => Below w.heap.size w w2) (HB.out.trans (HG.out.mono HB.out.size)) ?_
  clear HB HG
  rintro Wx1 HB
  replace HB := Lib.hid HB
  clear hd1 hd2 hd3
  refine wp_cond_false (by rfl) ?_
  refine wp_skip ?_
  show Code.wp _ _ _ _ _
  refine sK fun K hK => ?_
  refine wp_region_seqplan 6 [(true, 0), (true, 1), (true, 2), (true, 3), (true, 4), (true, 5)] (by rfl) (by simp) (fun T hT => ?_)
  refine wpPlan_takeL (v := ?_) rfl (by rfl) (fun w' hw => ?_) ?_; rotate_left; go_simp; with_reducible rfl; simp only [Act.put, rA, rB, rC]
  refine wpPlan_callL rfl (by rfl) Tryd.call13 (fun w' hw => zmade _ kx fx 0 w _ HVx.out (by omega) HWx.out (Gr.trans HB.out hw) HFx.out) (by rfl) ?_
  simp only [Act.put, rA, rB, rC]
  refine wpPlan_takeL (v := ?_) rfl (by rfl) (fun w' hw => ?_) ?_; rotate_left; go_simp; with_reducible rfl; simp only [Act.put, rA, rB, rC]
  refine wpPlan_callL rfl (by rfl) Tryd.call13 (fun w' hw => zmade _ ky fy 0 w _ HVy.out (by omega) HWy.out (Gr.trans HB.out hw) HFy.out) (by rfl) ?_
  simp only [Act.put, rA, rB, rC]
  refine wpPlan_takeL (v := ?_) rfl (by rfl) (fun w' hw => ?_) ?_; rotate_left; go_simp; with_reducible rfl; simp only [Act.put, rA, rB, rC]
  refine wpPlan_callL rfl (by rfl) Tryd.call13 (fun w' hw => zmade _ kz fz c w _ HVz.out (by omega) HWz.out (Gr.trans HB.out hw) HFz.out) (by rfl) ?_
  simp only [Act.put, rA, rB, rC]
  refine wpPlan_nil (hT.out _ _ ?_); clear hT T
  intro vw2 hg
  simp only [puts, Act.put, rA, rB, rC, rD, rE, ↓reduceIte, Nat.reduceEqDiff]
  have HG := Lib.hid (hg)
  clear hg
  have r0 := Gr.refl vw2
  go_wp2
  refine hK.out _ _ ?_; clear hK K
  show Code.wp _ _ _ _ _
  clear r0
  have hsz : w.heap.size ≤ vw2.heap.size := Nat.le_trans HB.out.size HG.out.size
  refine forgetW (fun w2 => NX w2 (vw2.heap.size) (0) ∧ NX w2 (vw2.heap.size + 1) (0) ∧ NX w2 (vw2.heap.size + 1 + 1) (c) ∧ Below w.heap.size w w2) ⟨(((Bx.at (by simp) : Bx _ (vw2.heap.size) _ _)).alloc _).alloc _, ((Bx.at (by simp) : Bx _ (vw2.heap.size + 1) _ _)).alloc _, (Bx.at (by simp) : Bx _ (vw2.heap.size + 1 + 1) _ _), (((HB.out.trans (HG.out.mono HB.out.size)).alloc (by first | omega | (simp; omega)) _).alloc (by first | omega | (simp; omega)) _).alloc (by first | omega | (simp; omega)) _⟩ ?_
  clear HB HG
  rintro Wx3 ⟨bx0, bx1, bx2, HB⟩
  replace HB := Lib.hid HB
  have qx0_1 : vw2.heap.size < vw2.heap.size + 1 := by omega
  have qx0_2 : vw2.heap.size < vw2.heap.size + 1 + 1 := by omega
  have qx1_2 : vw2.heap.size + 1 < vw2.heap.size + 1 + 1 := by omega
  have yx2 : w.heap.size ≤ vw2.heap.size + 1 + 1 := by omega
  generalize hx2 : vw2.heap.size + 1 + 1 = gx2 at *
  clear hx2
  have yx1 : w.heap.size ≤ vw2.heap.size + 1 := by omega
  generalize hx1 : vw2.heap.size + 1 = gx1 at *
  clear hx1
  have yx0 : w.heap.size ≤ vw2.heap.size := by omega
  generalize hx0 : vw2.heap.size = gx0 at *
  clear hx0
  clear hsz
  have HZ1 : Hid (Nat.gcd (0) (0) = 0) := Lib.hid (by first | rfl | omega | (simp; done) | exact Nat.mod_lt _ (by assumption) | exact Nat.div_add_mod' _ _ | exact Nat.gcd_comm _ _ | exact Nat.gcd_zero_left _ | exact Nat.gcd_mul_left _ _ _ | exact (Nat.gcd_mul_left _ _ _).symm | exact Nat.div_self (by assumption) | exact dv1 _ _ _ (by assumption) | exact dv2 _ _ _ | exact gc1 _ _ | exact gc2 _ _ (by assumption) | exact gc3 _ _ (by assumption) | exact gc4 _ _ (by assumption) | exact gc5 _ _ | exact gc6 _ _ | grind)
  have su1 : wl (0) ≤ 12 := by have e := HZ1.out; first | omega | (rw [← e]; have := wl_gcd (0) (0); omega) | exact wl_le.2 (by decide +kernel)
  have lx0 := bx0.cells
  have lx1 := bx1.cells
  have BX0 := Lib.hid bx0
  have BX1 := Lib.hid bx1
  have BX2 := Lib.hid bx2
  clear bx0 bx1 bx2
  refine sK fun K hK => ?_
  refine wp_region_seqplan 3 [(true, 0), (true, 1), (true, 2)] (by rfl) (by simp) (fun T hT => ?_)
  iterate 2 (refine wpPlan_takeL (v := ?_) rfl (by rfl) (fun w' hw => ?_) ?_; rotate_left; go_simp; with_reducible rfl; simp only [Act.put, rA, rB, rC])
  refine wpPlan_callL rfl (by rfl) Tryd.call25 (fun w' hw => nzgcd (0) (0) (0) _ HZ1.out (by omega) (by omega)) (by rfl) ?_
  simp only [Act.put, rA, rB, rC]
  refine wpPlan_nil (hT.out _ _ ?_); clear hT T
  intro vw3 hg
  simp only [puts, Act.put, rA, rB, rC, rD, rE, ↓reduceIte, Nat.reduceEqDiff]
  clear lx0 lx1
  have HG := Lib.hid (hg)
  clear hg
  replace BX0 := bG BX0 HG
  replace BX1 := bG BX1 HG
  replace BX2 := bG BX2 HG
  have r0 := Gr.refl vw3
  go_wp2
  refine hK.out _ _ ?_; clear hK K
  show Code.wp _ _ _ _ _
  clear r0
  have hsz : w.heap.size ≤ vw3.heap.size := Nat.le_trans HB.out.size HG.out.size
  have mx0 : gx0 < vw3.heap.size := BX0.out.lt
  have mx1 : gx1 < vw3.heap.size := BX1.out.lt
  have mx2 : gx2 < vw3.heap.size := BX2.out.lt
  refine forgetW (fun w2 => NX w2 gx0 (0) ∧ NX w2 gx1 (0) ∧ NX w2 gx2 (c) ∧ NX w2 (vw3.heap.size) (0) ∧ Below w.heap.size w w2) ⟨(BX0.out).alloc _, (BX1.out).alloc _, (BX2.out).alloc _, (Bx.at (by simp) : Bx _ (vw3.heap.size) _ _), (HB.out.trans (HG.out.mono HB.out.size)).alloc (by first | omega | (simp; omega)) _⟩ ?_
  clear HB HG BX0 BX1 BX2
  rintro Wx4 ⟨bx0, bx1, bx2, bx3, HB⟩
  replace HB := Lib.hid HB
  have yx3 : w.heap.size ≤ vw3.heap.size := by omega
  have qx0_3 : gx0 < vw3.heap.size := by omega
  have qx1_3 : gx1 < vw3.heap.size := by omega
  have qx2_3 : gx2 < vw3.heap.size := by omega
  generalize hx3 : vw3.heap.size = gx3 at *
  clear hx3
  clear hsz mx0 mx1 mx2
  have BX0 := Lib.hid bx0
  have BX1 := Lib.hid bx1
  have BX2 := Lib.hid bx2
  have BX3 := Lib.hid bx3
  clear bx0 bx1 bx2 bx3
  refine sK fun K hK => ?_
  refine wp_region_seqplan 0 [] (by rfl) (by simp) (fun T hT => ?_)
  refine wpPlan_nil (hT.out _ _ ?_); clear hT T
  intro vw4 hg
  simp only [puts, Act.put, rA, rB, rC, rD, rE, ↓reduceIte, Nat.reduceEqDiff]
  have HG := Lib.hid (hg)
  clear hg
  replace BX0 := bG BX0 HG
  replace BX1 := bG BX1 HG
  replace BX2 := bG BX2 HG
  replace BX3 := bG BX3 HG
  have r0 := Gr.refl vw4
  go_wp2
  refine hK.out _ _ ?_; clear hK K
  show Code.wp _ _ _ _ _
  clear r0
  have hsz : w.heap.size ≤ vw4.heap.size := Nat.le_trans HB.out.size HG.out.size
  have mx0 : gx0 < vw4.heap.size := BX0.out.lt
  have mx1 : gx1 < vw4.heap.size := BX1.out.lt
  have mx2 : gx2 < vw4.heap.size := BX2.out.lt
  have mx3 : gx3 < vw4.heap.size := BX3.out.lt
  refine forgetW (fun w2 => NX w2 gx0 (0) ∧ NX w2 gx1 (0) ∧ NX w2 gx2 (c) ∧ NX w2 gx3 (0) ∧ Bx w2 (vw4.heap.size) 26 #[.int .u64 0, .string ⟨#[]⟩] ∧ Below w.heap.size w w2) ⟨(BX0.out).alloc _, (BX1.out).alloc _, (BX2.out).alloc _, (BX3.out).alloc _, (Bx.at (by simp) : Bx _ (vw4.heap.size) _ _), (HB.out.trans (HG.out.mono HB.out.size)).alloc (by first | omega | (simp; omega)) _⟩ ?_
  clear HB HG BX0 BX1 BX2 BX3
  rintro Wx5 ⟨bx0, bx1, bx2, bx3, bx4, HB⟩
  replace HB := Lib.hid HB
  have yx4 : w.heap.size ≤ vw4.heap.size := by omega
  have qx0_4 : gx0 < vw4.heap.size := by omega
  have qx1_4 : gx1 < vw4.heap.size := by omega
  have qx2_4 : gx2 < vw4.heap.size := by omega
  have qx3_4 : gx3 < vw4.heap.size := by omega
  generalize hx4 : vw4.heap.size = gx4 at *
  clear hx4
  clear hsz mx0 mx1 mx2 mx3
  refine wp_seq ?_
  have HZ2 : Hid (Nat.gcd (0) (0) = 0) := Lib.hid (by first | rfl | omega | (simp; done) | exact Nat.mod_lt _ (by assumption) | exact Nat.div_add_mod' _ _ | exact Nat.gcd_comm _ _ | exact Nat.gcd_zero_left _ | exact Nat.gcd_mul_left _ _ _ | exact (Nat.gcd_mul_left _ _ _).symm | exact Nat.div_self (by assumption) | exact dv1 _ _ _ (by assumption) | exact dv2 _ _ _ | exact gc1 _ _ | exact gc2 _ _ (by assumption) | exact gc3 _ _ (by assumption) | exact gc4 _ _ (by assumption) | exact gc5 _ _ | exact gc6 _ _ | grind)
  have su2 : wl (0) ≤ 12 := by have e := HZ2.out; first | omega | (rw [← e]; have := wl_gcd (0) (0); omega) | exact wl_le.2 (by decide +kernel)
  have HZ3 : Hid (Nat.gcd (0) (0) = 0) := Lib.hid (by first | rfl | omega | (simp; done) | exact Nat.mod_lt _ (by assumption) | exact Nat.div_add_mod' _ _ | exact Nat.gcd_comm _ _ | exact Nat.gcd_zero_left _ | exact Nat.gcd_mul_left _ _ _ | exact (Nat.gcd_mul_left _ _ _).symm | exact Nat.div_self (by assumption) | exact dv1 _ _ _ (by assumption) | exact dv2 _ _ _ | exact gc1 _ _ | exact gc2 _ _ (by assumption) | exact gc3 _ _ (by assumption) | exact gc4 _ _ (by assumption) | exact gc5 _ _ | exact gc6 _ _ | grind)
  have su3 : wl (0) ≤ 12 := by have e := HZ3.out; first | omega | (rw [← e]; have := wl_gcd (0) (0); omega) | exact wl_le.2 (by decide +kernel)
  have HZ4 : Hid ((c) * (0) = 0) := Lib.hid (by first | rfl | omega | (simp; done) | exact Nat.mod_lt _ (by assumption) | exact Nat.div_add_mod' _ _ | exact Nat.gcd_comm _ _ | exact Nat.gcd_zero_left _ | exact Nat.gcd_mul_left _ _ _ | exact (Nat.gcd_mul_left _ _ _).symm | exact Nat.div_self (by assumption) | exact dv1 _ _ _ (by assumption) | exact dv2 _ _ _ | exact gc1 _ _ | exact gc2 _ _ (by assumption) | exact gc3 _ _ (by assumption) | exact gc4 _ _ (by assumption) | exact gc5 _ _ | exact gc6 _ _ | grind)
  have su4 : wl (0) ≤ 18 := by have e := HZ4.out; first | omega | (rw [← e]; have := wl_mul (c) (0); omega) | exact wl_le.2 (by decide +kernel)
  have HZ5 : Hid ((c) * (0) = 0) := Lib.hid (by first | rfl | omega | (simp; done) | exact Nat.mod_lt _ (by assumption) | exact Nat.div_add_mod' _ _ | exact Nat.gcd_comm _ _ | exact Nat.gcd_zero_left _ | exact Nat.gcd_mul_left _ _ _ | exact (Nat.gcd_mul_left _ _ _).symm | exact Nat.div_self (by assumption) | exact dv1 _ _ _ (by assumption) | exact dv2 _ _ _ | exact gc1 _ _ | exact gc2 _ _ (by assumption) | exact gc3 _ _ (by assumption) | exact gc4 _ _ (by assumption) | exact gc5 _ _ | exact gc6 _ _ | grind)
  have su5 : wl (0) ≤ 18 := by have e := HZ5.out; first | omega | (rw [← e]; have := wl_mul (c) (0); omega) | exact wl_le.2 (by decide +kernel)
  have HZ6 : Hid (Nat.gcd (0) (0) = 0) := Lib.hid (by first | rfl | omega | (simp; done) | exact Nat.mod_lt _ (by assumption) | exact Nat.div_add_mod' _ _ | exact Nat.gcd_comm _ _ | exact Nat.gcd_zero_left _ | exact Nat.gcd_mul_left _ _ _ | exact (Nat.gcd_mul_left _ _ _).symm | exact Nat.div_self (by assumption) | exact dv1 _ _ _ (by assumption) | exact dv2 _ _ _ | exact gc1 _ _ | exact gc2 _ _ (by assumption) | exact gc3 _ _ (by assumption) | exact gc4 _ _ (by assumption) | exact gc5 _ _ | exact gc6 _ _ | grind)
  have su6 : wl (0) ≤ 18 := by have e := HZ6.out; first | omega | (rw [← e]; have := wl_gcd (0) (0); omega) | exact wl_le.2 (by decide +kernel)
  have HZ7 : Hid ((c) * (0) = 0) := Lib.hid (by first | rfl | omega | (simp; done) | exact Nat.mod_lt _ (by assumption) | exact Nat.div_add_mod' _ _ | exact Nat.gcd_comm _ _ | exact Nat.gcd_zero_left _ | exact Nat.gcd_mul_left _ _ _ | exact (Nat.gcd_mul_left _ _ _).symm | exact Nat.div_self (by assumption) | exact dv1 _ _ _ (by assumption) | exact dv2 _ _ _ | exact gc1 _ _ | exact gc2 _ _ (by assumption) | exact gc3 _ _ (by assumption) | exact gc4 _ _ (by assumption) | exact gc5 _ _ | exact gc6 _ _ | grind)
  have su7 : wl (0) ≤ 18 := by have e := HZ7.out; first | omega | (rw [← e]; have := wl_mul (c) (0); omega) | exact wl_le.2 (by decide +kernel)
  have lx0 := bx0.cells
  have lx1 := bx1.cells
  have lx2 := bx2.cells
  have lx3 := bx3.cells
  have lx4 := bx4.cells
  have BX0 := Lib.hid bx0
  have BX1 := Lib.hid bx1
  have BX2 := Lib.hid bx2
  have BX3 := Lib.hid bx3
  have BX4 := Lib.hid bx4
  clear bx0 bx1 bx2 bx3 bx4
  refine sK fun K hK => ?_
  refine wp_region_plan 38 [] [] (fun _ => 0) (fun _ => .cells #[] 0) [(true, 0), (true, 1), (true, 2), (true, 3), (true, 4), (true, 5), (true, 6), (true, 7), (true, 9), (true, 8), (true, 10), (true, 11), (true, 12), (true, 13), (true, 14), (true, 16), (true, 17), (true, 20), (true, 21), (true, 15), (true, 18), (true, 19), (true, 22), (true, 23), (true, 24), (true, 25), (true, 26), (true, 27), (true, 28), (true, 29), (true, 30), (true, 31), (true, 32), (true, 33), (true, 34), (true, 35), (true, 36), (true, 37)] (by kernel_rfl) (by kernel_rfl) (fun i hi => by cases hi) (fun i hi => by cases hi) (fun _ _ _ _ _ h => h) (fun T hT => ?_)
  iterate 3 (refine wpPlan_takeL (v := ?_) rfl (by rfl) (fun w' hw => ?_) ?_; rotate_left; go_simp; with_reducible rfl; simp only [Act.put, rA, rB, rC])
  refine wpPlan_callL rfl (by rfl) Tryd.call25 (fun w' hw => nzgcd (0) (0) (0) _ HZ2.out (by omega) (by omega)) (by rfl) ?_
  simp only [Act.put, rA, rB, rC]
  iterate 5 (refine wpPlan_takeL (v := ?_) rfl (by rfl) (fun w' hw => ?_) ?_; rotate_left; go_simp; with_reducible rfl; simp only [Act.put, rA, rB, rC])
  refine wpPlan_callL rfl (by rfl) Tryd.call25 (fun w' hw => nzgcd (0) (0) (0) _ HZ3.out (by omega) (by omega)) (by rfl) ?_
  simp only [Act.put, rA, rB, rC]
  iterate 9 (refine wpPlan_takeL (v := ?_) rfl (by rfl) (fun w' hw => ?_) ?_; rotate_left; go_simp; with_reducible rfl; simp only [Act.put, rA, rB, rC])
  refine wpPlan_callL rfl (by rfl) Tryd.call23 (fun w' hw => nzmul (c) (0) (0) _ HZ4.out (by omega) (by omega)) (by rfl) ?_
  simp only [Act.put, rA, rB, rC]
  refine wpPlan_callL rfl (by rfl) Tryd.call23 (fun w' hw => nzmul (c) (0) (0) _ HZ5.out (by omega) (by omega)) (by rfl) ?_
  simp only [Act.put, rA, rB, rC]
  refine wpPlan_callL rfl (by rfl) Tryd.call25 (fun w' hw => nzgcd (0) (0) (0) _ HZ6.out (by omega) (by omega)) (by rfl) ?_
  simp only [Act.put, rA, rB, rC]
  refine wpPlan_callL rfl (by rfl) Tryd.call23 (fun w' hw => nzmul (c) (0) (0) _ HZ7.out (by omega) (by omega)) (by rfl) ?_
  simp only [Act.put, rA, rB, rC]
  iterate 15 (refine wpPlan_takeL (v := ?_) rfl (by rfl) (fun w' hw => ?_) ?_; rotate_left; go_simp; with_reducible rfl; simp only [Act.put, rA, rB, rC])
  refine wpPlan_nil (hT.out _ _ ?_); clear hT T
  intro G vw5 hg hf
  simp only [puts, Act.put, rA, rB, rC, rD, rE, ↓reduceIte, Nat.reduceEqDiff]
  clear lx0 lx1 lx2 lx3 lx4
  have HG := Lib.hid (hg)
  clear hg
  replace BX0 := bG BX0 HG
  replace BX1 := bG BX1 HG
  replace BX2 := bG BX2 HG
  replace BX3 := bG BX3 HG
  replace BX4 := bG BX4 HG
  have r0 := Gr.refl vw5
  go_wp2
  refine hK.out _ _ ?_; clear hK K
  show Code.wp _ _ _ _ _
  clear r0
  refine forgetW (fun w2 => NX w2 gx0 (0) ∧ NX w2 gx1 (0) ∧ NX w2 gx3 (0) ∧ Bx w2 gx4 26 #[.int .u64 0, .string ⟨#[]⟩] ∧ Below w.heap.size w w2) ⟨BX0.out, BX1.out, BX3.out, BX4.out, HB.out.trans (HG.out.mono HB.out.size)⟩ ?_
  clear HB HG BX0 BX1 BX2 BX3 BX4
  rintro Wx6 ⟨bx0, bx1, bx3, bx4, HB⟩
  replace HB := Lib.hid HB
  refine wp_cond_false (by rfl) ?_
  refine wp_skip ?_
  show Code.wp _ _ _ _ _
  refine wp_seq ?_
  have lx3 := bx3.cells
  have lx4 := bx4.cells
  have BX0 := Lib.hid bx0
  have BX1 := Lib.hid bx1
  have BX3 := Lib.hid bx3
  have BX4 := Lib.hid bx4
  clear bx0 bx1 bx3 bx4
  refine sK fun K hK => ?_
  refine wp_region_seqplan 3 [(true, 0), (true, 1), (true, 2)] (by rfl) (by simp) (fun T hT => ?_)
  iterate 3 (refine wpPlan_takeL (v := ?_) rfl (by rfl) (fun w' hw => ?_) ?_; rotate_left; go_simp; with_reducible rfl; simp only [Act.put, rA, rB, rC])
  refine wpPlan_nil (hT.out _ _ ?_); clear hT T
  intro vw6 hg
  simp only [puts, Act.put, rA, rB, rC, rD, rE, ↓reduceIte, Nat.reduceEqDiff]
  clear lx3 lx4
  have HG := Lib.hid (hg)
  clear hg
  replace BX0 := bG BX0 HG
  replace BX1 := bG BX1 HG
  replace BX3 := bG BX3 HG
  replace BX4 := bG BX4 HG
  have r0 := Gr.refl vw6
  go_wp2
  refine hK.out _ _ ?_; clear hK K
  show Code.wp _ _ _ _ _
  clear r0
  refine forgetW (fun w2 => NX w2 gx0 (0) ∧ NX w2 gx1 (0) ∧ NX w2 gx3 (0) ∧ Bx w2 gx4 26 #[.int .u64 0, .string ⟨#[]⟩] ∧ Below w.heap.size w w2) ⟨BX0.out, BX1.out, BX3.out, BX4.out, HB.out.trans (HG.out.mono HB.out.size)⟩ ?_
  clear HB HG BX0 BX1 BX3 BX4
  rintro Wx8 ⟨bx0, bx1, bx3, bx4, HB⟩
  replace HB := Lib.hid HB
  refine wp_cond_true (by rfl) ?_
  have BX0 := Lib.hid bx0
  have BX1 := Lib.hid bx1
  have BX3 := Lib.hid bx3
  have BX4 := Lib.hid bx4
  clear bx0 bx1 bx3 bx4
  refine sK fun K hK => ?_
  refine wp_region_seqplan 2 [(true, 0), (true, 1)] (by rfl) (by simp) (fun T hT => ?_)
  refine wpPlan_callL rfl (by rfl) Tryd.call12 (fun w' hw => works_any _ (Lib.hid (HT.out.gr (Gr.trans HB.out hw)))) (by rfl) ?_
  simp only [Act.put, rA, rB, rC]
  refine wpPlan_takeL (v := ?_) rfl (by rfl) (fun w' hw => ?_) ?_; rotate_left; go_simp; with_reducible rfl; simp only [Act.put, rA, rB, rC]
  refine wpPlan_nil (hT.out _ _ ?_); clear hT T
  intro vw7 hg
  simp only [puts, Act.put, rA, rB, rC, rD, rE, ↓reduceIte, Nat.reduceEqDiff]
  have HG := Lib.hid (hg)
  clear hg
  replace BX0 := bG BX0 HG
  replace BX1 := bG BX1 HG
  replace BX3 := bG BX3 HG
  replace BX4 := bG BX4 HG
  have r0 := Gr.refl vw7
  go_wp2
  refine hK.out _ _ ?_; clear hK K
  show Code.wp _ _ _ _ _
  clear r0
  refine forgetW (fun w2 => NX w2 gx0 (0) ∧ NX w2 gx1 (0) ∧ NX w2 gx3 (0) ∧ Bx w2 gx4 26 #[.int .u64 0, .string ⟨#[]⟩] ∧ Below w.heap.size w w2) ⟨BX0.out, BX1.out, BX3.out, BX4.out, HB.out.trans (HG.out.mono HB.out.size)⟩ ?_
  clear HB HG BX0 BX1 BX3 BX4
  rintro Wx9 ⟨bx0, bx1, bx3, bx4, HB⟩
  replace HB := Lib.hid HB
  refine wp_ret ?_
  try simp only [Exit.then, Exit.inBlock]
  have r0 := Gr.refl Wx9
  exact bodyPost_ret (v := .bool true) (by simp [results, Tryd.results8, go_sem]) rfl ⟨rfl, HB.out⟩

set_option maxRecDepth 100000 in
set_option maxHeartbeats 4000000 in
theorem sor_left (vx : Value) (kx : Nat) (fx : Nat → Nat) (vy : Value) (ky : Nat) (fy : Nat → Nat) (vz : Value) (kz : Nat) (fz : Nat → Nat) (a c : Nat)  (w : World) (HWx : Hid (Wa w vx kx fx)) (HFx : Hid (∀ i, i < kx → fx i < 4294967296)) (HVx : Hid (vl fx kx = a)) (HWy : Hid (Wa w vy ky fy)) (HFy : Hid (∀ i, i < ky → fy i < 4294967296)) (HVy : Hid (vl fy ky = 0)) (HWz : Hid (Wa w vz kz fz)) (HFz : Hid (∀ i, i < kz → fz i < 4294967296)) (HVz : Hid (vl fz kz = c)) (hkx : kx ≤ 12) (hky : ky ≤ 12) (hkz : kz ≤ 6) (ha0 : 0 < a) (HT : Hid (Tab w)) :
    Calls Tryd.prog 8 #[vx, vy, vz] w fun e w' => e = .returned (.bool true) ∧ Below w.heap.size w w' := by
  obtain ⟨ao_x, c_x, rfl⟩ := HWx.out.slice
  obtain ⟨ao_y, c_y, rfl⟩ := HWy.out.slice
  obtain ⟨ao_z, c_z, rfl⟩ := HWz.out.slice
  have hb_a : wl a ≤ 12 := by rw [← HVx.out]; have := wl_le.2 (vl_lt HFx.out); omega
  have hb_0 : wl 0 ≤ 12 := by rw [← HVy.out]; have := wl_le.2 (vl_lt HFy.out); omega
  have hb_c : wl c ≤ 6 := by rw [← HVz.out]; have := wl_le.2 (vl_lt HFz.out); omega
  go_enter Tryd.func8, Tryd.ntmps8
  refine sK fun K hK => ?_
  refine wp_region_lit ?_
  go_wp2
  refine hK.out _ _ ?_; clear hK K
  show Code.wp _ _ _ _ _
  refine forgetW (fun w2 => Below w.heap.size w w2) (Below.refl _ _) ?_
  rintro Wx HB
  replace HB := Lib.hid HB
  refine wp_seq ?_
  have hd1 : ¬ (12 < ((kx : Int))) := by omega
  have hd2 : ¬ (12 < ((ky : Int))) := by omega
  have hd3 : ¬ (6 < ((kz : Int))) := by omega
  refine sK fun K hK => ?_
  refine wp_region_seqplan 13 [(true, 0), (true, 1), (true, 2), (true, 3), (true, 4), (true, 5), (true, 6), (true, 7), (true, 8), (true, 9), (true, 10), (true, 11), (true, 12)] (by rfl) (by simp) (fun T hT => ?_)
  iterate 13 (refine wpPlan_takeL (v := ?_) rfl (by rfl) (fun w' hw => ?_) ?_; rotate_left; go_simp; with_reducible rfl; simp only [Act.put, rA, rB, rC])
  refine wpPlan_nil (hT.out _ _ ?_); clear hT T
  intro vw1 hg
  simp only [puts, Act.put, rA, rB, rC, rD, rE, ↓reduceIte, Nat.reduceEqDiff]
  have HG := Lib.hid (hg)
  clear hg
  have r0 := Gr.refl vw1
  go_wp2
  refine hK.out _ _ ?_; clear hK K
  show Code.wp _ _ _ _ _
  clear r0
  refine forgetW (fun w2 => Below w.heap.size w w2) (HB.out.trans (HG.out.mono HB.out.size)) ?_
  clear HB HG
  rintro Wx1 HB
  replace HB := Lib.hid HB
  clear hd1 hd2 hd3
  refine wp_cond_false (by rfl) ?_
  refine wp_skip ?_
  show Code.wp _ _ _ _ _
  refine sK fun K hK => ?_
  refine wp_region_seqplan 6 [(true, 0), (true, 1), (true, 2), (true, 3), (true, 4), (true, 5)] (by rfl) (by simp) (fun T hT => ?_)
  refine wpPlan_takeL (v := ?_) rfl (by rfl) (fun w' hw => ?_) ?_; rotate_left; go_simp; with_reducible rfl; simp only [Act.put, rA, rB, rC]
  refine wpPlan_callL rfl (by rfl) Tryd.call13 (fun w' hw => zmade _ kx fx a w _ HVx.out (by omega) HWx.out (Gr.trans HB.out hw) HFx.out) (by rfl) ?_
  simp only [Act.put, rA, rB, rC]
  refine wpPlan_takeL (v := ?_) rfl (by rfl) (fun w' hw => ?_) ?_; rotate_left; go_simp; with_reducible rfl; simp only [Act.put, rA, rB, rC]
  refine wpPlan_callL rfl (by rfl) Tryd.call13 (fun w' hw => zmade _ ky fy 0 w _ HVy.out (by omega) HWy.out (Gr.trans HB.out hw) HFy.out) (by rfl) ?_
  simp only [Act.put, rA, rB, rC]
  refine wpPlan_takeL (v := ?_) rfl (by rfl) (fun w' hw => ?_) ?_; rotate_left; go_simp; with_reducible rfl; simp only [Act.put, rA, rB, rC]
  refine wpPlan_callL rfl (by rfl) Tryd.call13 (fun w' hw => zmade _ kz fz c w _ HVz.out (by omega) HWz.out (Gr.trans HB.out hw) HFz.out) (by rfl) ?_
  simp only [Act.put, rA, rB, rC]
  refine wpPlan_nil (hT.out _ _ ?_); clear hT T
  intro vw2 hg
  simp only [puts, Act.put, rA, rB, rC, rD, rE, ↓reduceIte, Nat.reduceEqDiff]
  have HG := Lib.hid (hg)
  clear hg
  have r0 := Gr.refl vw2
  go_wp2
  refine hK.out _ _ ?_; clear hK K
  show Code.wp _ _ _ _ _
  clear r0
  have hsz : w.heap.size ≤ vw2.heap.size := Nat.le_trans HB.out.size HG.out.size
  refine forgetW (fun w2 => NX w2 (vw2.heap.size) (a) ∧ NX w2 (vw2.heap.size + 1) (0) ∧ NX w2 (vw2.heap.size + 1 + 1) (c) ∧ Below w.heap.size w w2) ⟨(((Bx.at (by simp) : Bx _ (vw2.heap.size) _ _)).alloc _).alloc _, ((Bx.at (by simp) : Bx _ (vw2.heap.size + 1) _ _)).alloc _, (Bx.at (by simp) : Bx _ (vw2.heap.size + 1 + 1) _ _), (((HB.out.trans (HG.out.mono HB.out.size)).alloc (by first | omega | (simp; omega)) _).alloc (by first | omega | (simp; omega)) _).alloc (by first | omega | (simp; omega)) _⟩ ?_
  clear HB HG
  rintro Wx3 ⟨bx0, bx1, bx2, HB⟩
  replace HB := Lib.hid HB
  have qx0_1 : vw2.heap.size < vw2.heap.size + 1 := by omega
  have qx0_2 : vw2.heap.size < vw2.heap.size + 1 + 1 := by omega
  have qx1_2 : vw2.heap.size + 1 < vw2.heap.size + 1 + 1 := by omega
  have yx2 : w.heap.size ≤ vw2.heap.size + 1 + 1 := by omega
  generalize hx2 : vw2.heap.size + 1 + 1 = gx2 at *
  clear hx2
  have yx1 : w.heap.size ≤ vw2.heap.size + 1 := by omega
  generalize hx1 : vw2.heap.size + 1 = gx1 at *
  clear hx1
  have yx0 : w.heap.size ≤ vw2.heap.size := by omega
  generalize hx0 : vw2.heap.size = gx0 at *
  clear hx0
  clear hsz
  have HZ1 : Hid (Nat.gcd (a) (0) = a) := Lib.hid (by first | rfl | omega | (simp; done) | exact Nat.mod_lt _ (by assumption) | exact Nat.div_add_mod' _ _ | exact Nat.gcd_comm _ _ | exact Nat.gcd_zero_left _ | exact Nat.gcd_mul_left _ _ _ | exact (Nat.gcd_mul_left _ _ _).symm | exact Nat.div_self (by assumption) | exact dv1 _ _ _ (by assumption) | exact dv2 _ _ _ | exact gc1 _ _ | exact gc2 _ _ (by assumption) | exact gc3 _ _ (by assumption) | exact gc4 _ _ (by assumption) | exact gc5 _ _ | exact gc6 _ _ | grind)
  have su1 : wl (a) ≤ 12 := by have e := HZ1.out; first | omega | (rw [← e]; have := wl_gcd (a) (0); omega)
  have lx0 := bx0.cells
  have lx1 := bx1.cells
  have BX0 := Lib.hid bx0
  have BX1 := Lib.hid bx1
  have BX2 := Lib.hid bx2
  clear bx0 bx1 bx2
  refine sK fun K hK => ?_
  refine wp_region_seqplan 3 [(true, 0), (true, 1), (true, 2)] (by rfl) (by simp) (fun T hT => ?_)
  iterate 2 (refine wpPlan_takeL (v := ?_) rfl (by rfl) (fun w' hw => ?_) ?_; rotate_left; go_simp; with_reducible rfl; simp only [Act.put, rA, rB, rC])
  refine wpPlan_callL rfl (by rfl) Tryd.call25 (fun w' hw => nzgcd (a) (0) (a) _ HZ1.out (by omega) (by omega)) (by rfl) ?_
  simp only [Act.put, rA, rB, rC]
  refine wpPlan_nil (hT.out _ _ ?_); clear hT T
  intro vw3 hg
  simp only [puts, Act.put, rA, rB, rC, rD, rE, ↓reduceIte, Nat.reduceEqDiff]
  clear lx0 lx1
  have HG := Lib.hid (hg)
  clear hg
  replace BX0 := bG BX0 HG
  replace BX1 := bG BX1 HG
  replace BX2 := bG BX2 HG
  have r0 := Gr.refl vw3
  go_wp2
  refine hK.out _ _ ?_; clear hK K
  show Code.wp _ _ _ _ _
  clear r0
  have hsz : w.heap.size ≤ vw3.heap.size := Nat.le_trans HB.out.size HG.out.size
  have mx0 : gx0 < vw3.heap.size := BX0.out.lt
  have mx1 : gx1 < vw3.heap.size := BX1.out.lt
  have mx2 : gx2 < vw3.heap.size := BX2.out.lt
  refine forgetW (fun w2 => NX w2 gx0 (a) ∧ NX w2 gx1 (0) ∧ NX w2 gx2 (c) ∧ NX w2 (vw3.heap.size) (a) ∧ Below w.heap.size w w2) ⟨(BX0.out).alloc _, (BX1.out).alloc _, (BX2.out).alloc _, (Bx.at (by simp) : Bx _ (vw3.heap.size) _ _), (HB.out.trans (HG.out.mono HB.out.size)).alloc (by first | omega | (simp; omega)) _⟩ ?_
  clear HB HG BX0 BX1 BX2
  rintro Wx4 ⟨bx0, bx1, bx2, bx3, HB⟩
  replace HB := Lib.hid HB
  have yx3 : w.heap.size ≤ vw3.heap.size := by omega
  have qx0_3 : gx0 < vw3.heap.size := by omega
  have qx1_3 : gx1 < vw3.heap.size := by omega
  have qx2_3 : gx2 < vw3.heap.size := by omega
  generalize hx3 : vw3.heap.size = gx3 at *
  clear hx3
  clear hsz mx0 mx1 mx2
  have BX0 := Lib.hid bx0
  have BX1 := Lib.hid bx1
  have BX2 := Lib.hid bx2
  have BX3 := Lib.hid bx3
  clear bx0 bx1 bx2 bx3
  refine sK fun K hK => ?_
  refine wp_region_seqplan 0 [] (by rfl) (by simp) (fun T hT => ?_)
  refine wpPlan_nil (hT.out _ _ ?_); clear hT T
  intro vw4 hg
  simp only [puts, Act.put, rA, rB, rC, rD, rE, ↓reduceIte, Nat.reduceEqDiff]
  have HG := Lib.hid (hg)
  clear hg
  replace BX0 := bG BX0 HG
  replace BX1 := bG BX1 HG
  replace BX2 := bG BX2 HG
  replace BX3 := bG BX3 HG
  have r0 := Gr.refl vw4
  go_wp2
  refine hK.out _ _ ?_; clear hK K
  show Code.wp _ _ _ _ _
  clear r0
  have hsz : w.heap.size ≤ vw4.heap.size := Nat.le_trans HB.out.size HG.out.size
  have mx0 : gx0 < vw4.heap.size := BX0.out.lt
  have mx1 : gx1 < vw4.heap.size := BX1.out.lt
  have mx2 : gx2 < vw4.heap.size := BX2.out.lt
  have mx3 : gx3 < vw4.heap.size := BX3.out.lt
  refine forgetW (fun w2 => NX w2 gx0 (a) ∧ NX w2 gx1 (0) ∧ NX w2 gx2 (c) ∧ NX w2 gx3 (a) ∧ Bx w2 (vw4.heap.size) 26 #[.int .u64 0, .string ⟨#[]⟩] ∧ Below w.heap.size w w2) ⟨(BX0.out).alloc _, (BX1.out).alloc _, (BX2.out).alloc _, (BX3.out).alloc _, (Bx.at (by simp) : Bx _ (vw4.heap.size) _ _), (HB.out.trans (HG.out.mono HB.out.size)).alloc (by first | omega | (simp; omega)) _⟩ ?_
  clear HB HG BX0 BX1 BX2 BX3
  rintro Wx5 ⟨bx0, bx1, bx2, bx3, bx4, HB⟩
  replace HB := Lib.hid HB
  have yx4 : w.heap.size ≤ vw4.heap.size := by omega
  have qx0_4 : gx0 < vw4.heap.size := by omega
  have qx1_4 : gx1 < vw4.heap.size := by omega
  have qx2_4 : gx2 < vw4.heap.size := by omega
  have qx3_4 : gx3 < vw4.heap.size := by omega
  generalize hx4 : vw4.heap.size = gx4 at *
  clear hx4
  clear hsz mx0 mx1 mx2 mx3
  refine wp_seq ?_
  have HZ2 : Hid (Nat.gcd (0) (a) = a) := Lib.hid (by first | rfl | omega | (simp; done) | exact Nat.mod_lt _ (by assumption) | exact Nat.div_add_mod' _ _ | exact Nat.gcd_comm _ _ | exact Nat.gcd_zero_left _ | exact Nat.gcd_mul_left _ _ _ | exact (Nat.gcd_mul_left _ _ _).symm | exact Nat.div_self (by assumption) | exact dv1 _ _ _ (by assumption) | exact dv2 _ _ _ | exact gc1 _ _ | exact gc2 _ _ (by assumption) | exact gc3 _ _ (by assumption) | exact gc4 _ _ (by assumption) | exact gc5 _ _ | exact gc6 _ _ | grind)
  have su2 : wl (a) ≤ 12 := by have e := HZ2.out; first | omega | (rw [← e]; have := wl_gcd (0) (a); omega)
  have HZ3 : Hid (Nat.gcd (a) (0) = a) := Lib.hid (by first | rfl | omega | (simp; done) | exact Nat.mod_lt _ (by assumption) | exact Nat.div_add_mod' _ _ | exact Nat.gcd_comm _ _ | exact Nat.gcd_zero_left _ | exact Nat.gcd_mul_left _ _ _ | exact (Nat.gcd_mul_left _ _ _).symm | exact Nat.div_self (by assumption) | exact dv1 _ _ _ (by assumption) | exact dv2 _ _ _ | exact gc1 _ _ | exact gc2 _ _ (by assumption) | exact gc3 _ _ (by assumption) | exact gc4 _ _ (by assumption) | exact gc5 _ _ | exact gc6 _ _ | grind)
  have su3 : wl (a) ≤ 12 := by have e := HZ3.out; first | omega | (rw [← e]; have := wl_gcd (a) (0); omega)
  obtain ⟨u4, HZ4⟩ : ∃ z, Hid ((c) * (a) = z) := ⟨_, Lib.hid rfl⟩
  have su4 : wl (u4) ≤ 18 := by rw [← HZ4.out]; have := wl_mul (c) (a); omega
  have HZ5 : Hid ((c) * (0) = 0) := Lib.hid (by first | omega | (try simp only [← HZ4.out]) <;> first | rfl | omega | (simp; done) | exact Nat.mod_lt _ (by assumption) | exact Nat.div_add_mod' _ _ | exact Nat.gcd_comm _ _ | exact Nat.gcd_zero_left _ | exact Nat.gcd_mul_left _ _ _ | exact (Nat.gcd_mul_left _ _ _).symm | exact Nat.div_self (by assumption) | exact dv1 _ _ _ (by assumption) | exact dv2 _ _ _ | exact gc1 _ _ | exact gc2 _ _ (by assumption) | exact gc3 _ _ (by assumption) | exact gc4 _ _ (by assumption) | exact gc5 _ _ | exact gc6 _ _ | grind)
  have su5 : wl (0) ≤ 18 := by have e := HZ5.out; first | omega | (rw [← e]; have := wl_mul (c) (0); omega) | exact wl_le.2 (by decide +kernel)
  have HZ6 : Hid (Nat.gcd (u4) (0) = u4) := Lib.hid (by first | omega | (try simp only [← HZ4.out]) <;> first | rfl | omega | (simp; done) | exact Nat.mod_lt _ (by assumption) | exact Nat.div_add_mod' _ _ | exact Nat.gcd_comm _ _ | exact Nat.gcd_zero_left _ | exact Nat.gcd_mul_left _ _ _ | exact (Nat.gcd_mul_left _ _ _).symm | exact Nat.div_self (by assumption) | exact dv1 _ _ _ (by assumption) | exact dv2 _ _ _ | exact gc1 _ _ | exact gc2 _ _ (by assumption) | exact gc3 _ _ (by assumption) | exact gc4 _ _ (by assumption) | exact gc5 _ _ | exact gc6 _ _ | grind)
  have su6 : wl (u4) ≤ 18 := by have e := HZ6.out; first | omega | (rw [← e]; have := wl_gcd (u4) (0); omega)
  have HZ7 : Hid ((c) * (a) = u4) := Lib.hid (by first | omega | (try simp only [← HZ4.out]) <;> first | rfl | omega | (simp; done) | exact Nat.mod_lt _ (by assumption) | exact Nat.div_add_mod' _ _ | exact Nat.gcd_comm _ _ | exact Nat.gcd_zero_left _ | exact Nat.gcd_mul_left _ _ _ | exact (Nat.gcd_mul_left _ _ _).symm | exact Nat.div_self (by assumption) | exact dv1 _ _ _ (by assumption) | exact dv2 _ _ _ | exact gc1 _ _ | exact gc2 _ _ (by assumption) | exact gc3 _ _ (by assumption) | exact gc4 _ _ (by assumption) | exact gc5 _ _ | exact gc6 _ _ | grind)
  have su7 : wl (u4) ≤ 18 := by have e := HZ7.out; first | omega | (rw [← e]; have := wl_mul (c) (a); omega)
  have hd4 : decide (a = 0) = false := decide_eq_false (by first | omega | (try simp only [← HZ4.out]) <;> first | rfl | omega | (simp; done) | exact Nat.mod_lt _ (by assumption) | exact Nat.div_add_mod' _ _ | exact Nat.gcd_comm _ _ | exact Nat.gcd_zero_left _ | exact Nat.gcd_mul_left _ _ _ | exact (Nat.gcd_mul_left _ _ _).symm | exact Nat.div_self (by assumption) | exact dv1 _ _ _ (by assumption) | exact dv2 _ _ _ | exact gc1 _ _ | exact gc2 _ _ (by assumption) | exact gc3 _ _ (by assumption) | exact gc4 _ _ (by assumption) | exact gc5 _ _ | exact gc6 _ _ | grind)
  have hd5 : decide (a = 0) = false := decide_eq_false (by first | omega | (try simp only [← HZ4.out]) <;> first | rfl | omega | (simp; done) | exact Nat.mod_lt _ (by assumption) | exact Nat.div_add_mod' _ _ | exact Nat.gcd_comm _ _ | exact Nat.gcd_zero_left _ | exact Nat.gcd_mul_left _ _ _ | exact (Nat.gcd_mul_left _ _ _).symm | exact Nat.div_self (by assumption) | exact dv1 _ _ _ (by assumption) | exact dv2 _ _ _ | exact gc1 _ _ | exact gc2 _ _ (by assumption) | exact gc3 _ _ (by assumption) | exact gc4 _ _ (by assumption) | exact gc5 _ _ | exact gc6 _ _ | grind)
  have lx0 := bx0.cells
  have lx1 := bx1.cells
  have lx2 := bx2.cells
  have lx3 := bx3.cells
  have lx4 := bx4.cells
  have BX0 := Lib.hid bx0
  have BX1 := Lib.hid bx1
  have BX2 := Lib.hid bx2
  have BX3 := Lib.hid bx3
  have BX4 := Lib.hid bx4
  clear bx0 bx1 bx2 bx3 bx4
  refine sK fun K hK => ?_
  refine wp_region_plan 38 [] [] (fun _ => 0) (fun _ => .cells #[] 0) [(true, 0), (true, 1), (true, 2), (true, 3), (true, 4), (true, 5), (true, 6), (true, 7), (true, 9), (true, 8), (true, 10), (true, 11), (true, 12), (true, 13), (true, 14), (true, 16), (true, 17), (true, 20), (true, 21), (true, 15), (true, 18), (true, 19), (true, 22), (true, 23), (true, 24), (true, 25), (true, 26), (true, 27), (true, 28), (true, 29), (true, 30), (true, 31), (true, 32), (true, 33), (true, 34), (true, 35), (true, 36), (true, 37)] (by kernel_rfl) (by kernel_rfl) (fun i hi => by cases hi) (fun i hi => by cases hi) (fun _ _ _ _ _ h => h) (fun T hT => ?_)
  iterate 3 (refine wpPlan_takeL (v := ?_) rfl (by rfl) (fun w' hw => ?_) ?_; rotate_left; go_simp; with_reducible rfl; simp only [Act.put, rA, rB, rC])
  refine wpPlan_callL rfl (by rfl) Tryd.call25 (fun w' hw => nzgcd (0) (a) (a) _ HZ2.out (by omega) (by omega)) (by rfl) ?_
  simp only [Act.put, rA, rB, rC]
  iterate 5 (refine wpPlan_takeL (v := ?_) rfl (by rfl) (fun w' hw => ?_) ?_; rotate_left; go_simp; with_reducible rfl; simp only [Act.put, rA, rB, rC])
  refine wpPlan_callL rfl (by rfl) Tryd.call25 (fun w' hw => nzgcd (a) (0) (a) _ HZ3.out (by omega) (by omega)) (by rfl) ?_
  simp only [Act.put, rA, rB, rC]
  iterate 9 (refine wpPlan_takeL (v := ?_) rfl (by rfl) (fun w' hw => ?_) ?_; rotate_left; go_simp; with_reducible rfl; simp only [Act.put, rA, rB, rC])
  refine wpPlan_callL rfl (by rfl) Tryd.call23 (fun w' hw => nzmul (c) (a) (u4) _ HZ4.out (by omega) (by omega)) (by rfl) ?_
  simp only [Act.put, rA, rB, rC]
  refine wpPlan_callL rfl (by rfl) Tryd.call23 (fun w' hw => nzmul (c) (0) (0) _ HZ5.out (by omega) (by omega)) (by rfl) ?_
  simp only [Act.put, rA, rB, rC]
  refine wpPlan_callL rfl (by rfl) Tryd.call25 (fun w' hw => nzgcd (u4) (0) (u4) _ HZ6.out (by omega) (by omega)) (by rfl) ?_
  simp only [Act.put, rA, rB, rC]
  refine wpPlan_callL rfl (by rfl) Tryd.call23 (fun w' hw => nzmul (c) (a) (u4) _ HZ7.out (by omega) (by omega)) (by rfl) ?_
  simp only [Act.put, rA, rB, rC]
  iterate 10 (refine wpPlan_takeL (v := ?_) rfl (by rfl) (fun w' hw => ?_) ?_; rotate_left; go_simp; with_reducible rfl; simp only [Act.put, rA, rB, rC])
  iterate 3 (refine wpPlan_skipL rfl (by rfl) ?_; simp only [Act.put, rA, rB, rC])
  iterate 2 (refine wpPlan_takeL (v := ?_) rfl (by rfl) (fun w' hw => ?_) ?_; rotate_left; go_simp; with_reducible rfl; simp only [Act.put, rA, rB, rC])
  refine wpPlan_nil (hT.out _ _ ?_); clear hT T
  intro G vw5 hg hf
  simp only [puts, Act.put, rA, rB, rC, rD, rE, ↓reduceIte, Nat.reduceEqDiff]
  clear lx0 lx1 lx2 lx3 lx4
  have HG := Lib.hid (hg)
  clear hg
  replace BX0 := bG BX0 HG
  replace BX1 := bG BX1 HG
  replace BX2 := bG BX2 HG
  replace BX3 := bG BX3 HG
  replace BX4 := bG BX4 HG
  have r0 := Gr.refl vw5
  go_wp2
  refine hK.out _ _ ?_; clear hK K
  show Code.wp _ _ _ _ _
  clear r0
  refine forgetW (fun w2 => NX w2 gx0 (a) ∧ NX w2 gx1 (0) ∧ NX w2 gx3 (a) ∧ Bx w2 gx4 26 #[.int .u64 0, .string ⟨#[]⟩] ∧ Below w.heap.size w w2) ⟨BX0.out, BX1.out, BX3.out, BX4.out, HB.out.trans (HG.out.mono HB.out.size)⟩ ?_
  clear HB HG BX0 BX1 BX2 BX3 BX4
  rintro Wx6 ⟨bx0, bx1, bx3, bx4, HB⟩
  replace HB := Lib.hid HB
  clear hd4 hd5
  refine wp_cond_false (by rfl) ?_
  refine wp_skip ?_
  show Code.wp _ _ _ _ _
  refine wp_seq ?_
  have hd6 : decide (a = 0) = false := decide_eq_false (by first | omega | (try simp only [← HZ4.out]) <;> first | rfl | omega | (simp; done) | exact Nat.mod_lt _ (by assumption) | exact Nat.div_add_mod' _ _ | exact Nat.gcd_comm _ _ | exact Nat.gcd_zero_left _ | exact Nat.gcd_mul_left _ _ _ | exact (Nat.gcd_mul_left _ _ _).symm | exact Nat.div_self (by assumption) | exact dv1 _ _ _ (by assumption) | exact dv2 _ _ _ | exact gc1 _ _ | exact gc2 _ _ (by assumption) | exact gc3 _ _ (by assumption) | exact gc4 _ _ (by assumption) | exact gc5 _ _ | exact gc6 _ _ | grind)
  have lx3 := bx3.cells
  have lx4 := bx4.cells
  have BX0 := Lib.hid bx0
  have BX1 := Lib.hid bx1
  have BX3 := Lib.hid bx3
  have BX4 := Lib.hid bx4
  clear bx0 bx1 bx3 bx4
  refine sK fun K hK => ?_
  refine wp_region_seqplan 3 [(true, 0), (true, 1), (true, 2)] (by rfl) (by simp) (fun T hT => ?_)
  iterate 3 (refine wpPlan_takeL (v := ?_) rfl (by rfl) (fun w' hw => ?_) ?_; rotate_left; go_simp; with_reducible rfl; simp only [Act.put, rA, rB, rC])
  refine wpPlan_nil (hT.out _ _ ?_); clear hT T
  intro vw6 hg
  simp only [puts, Act.put, rA, rB, rC, rD, rE, ↓reduceIte, Nat.reduceEqDiff]
  clear lx3 lx4
  have HG := Lib.hid (hg)
  clear hg
  replace BX0 := bG BX0 HG
  replace BX1 := bG BX1 HG
  replace BX3 := bG BX3 HG
  replace BX4 := bG BX4 HG
  have r0 := Gr.refl vw6
  go_wp2
  refine hK.out _ _ ?_; clear hK K
  show Code.wp _ _ _ _ _
  clear r0
  refine forgetW (fun w2 => NX w2 gx0 (a) ∧ NX w2 gx1 (0) ∧ NX w2 gx3 (a) ∧ Bx w2 gx4 26 #[.int .u64 0, .string ⟨#[]⟩] ∧ Below w.heap.size w w2) ⟨BX0.out, BX1.out, BX3.out, BX4.out, HB.out.trans (HG.out.mono HB.out.size)⟩ ?_
  clear HB HG BX0 BX1 BX3 BX4
  rintro Wx8 ⟨bx0, bx1, bx3, bx4, HB⟩
  replace HB := Lib.hid HB
  clear hd6
  refine wp_cond_false (by rfl) ?_
  refine wp_skip ?_
  show Code.wp _ _ _ _ _
  have HZ8 : Hid ((a) / (a) = 1) := Lib.hid (by first | omega | (try simp only [← HZ4.out]) <;> first | rfl | omega | (simp; done) | exact Nat.mod_lt _ (by assumption) | exact Nat.div_add_mod' _ _ | exact Nat.gcd_comm _ _ | exact Nat.gcd_zero_left _ | exact Nat.gcd_mul_left _ _ _ | exact (Nat.gcd_mul_left _ _ _).symm | exact Nat.div_self (by assumption) | exact dv1 _ _ _ (by assumption) | exact dv2 _ _ _ | exact gc1 _ _ | exact gc2 _ _ (by assumption) | exact gc3 _ _ (by assumption) | exact gc4 _ _ (by assumption) | exact gc5 _ _ | exact gc6 _ _ | grind)
  have su8 : wl (1) ≤ 12 := by have e := HZ8.out; first | omega | (rw [← e]; have := wl_div (a) (a); omega) | exact wl_le.2 (by decide +kernel)
  have HZ9 : Hid ((a) % (a) = 0) := Lib.hid (by first | omega | (try simp only [← HZ4.out]) <;> first | rfl | omega | (simp; done) | exact Nat.mod_lt _ (by assumption) | exact Nat.div_add_mod' _ _ | exact Nat.gcd_comm _ _ | exact Nat.gcd_zero_left _ | exact Nat.gcd_mul_left _ _ _ | exact (Nat.gcd_mul_left _ _ _).symm | exact Nat.div_self (by assumption) | exact dv1 _ _ _ (by assumption) | exact dv2 _ _ _ | exact gc1 _ _ | exact gc2 _ _ (by assumption) | exact gc3 _ _ (by assumption) | exact gc4 _ _ (by assumption) | exact gc5 _ _ | exact gc6 _ _ | grind)
  have su9 : wl (0) ≤ 12 := by have e := HZ9.out; first | omega | (rw [← e]; have := wl_mod (a) (a); omega) | exact wl_le.2 (by decide +kernel)
  have lx0 := bx0.cells
  have lx3 := bx3.cells
  have BX0 := Lib.hid bx0
  have BX1 := Lib.hid bx1
  have BX3 := Lib.hid bx3
  have BX4 := Lib.hid bx4
  clear bx0 bx1 bx3 bx4
  refine sK fun K hK => ?_
  refine wp_region_seqplan 7 [(true, 0), (true, 1), (true, 2), (true, 3), (true, 4), (true, 5), (true, 6)] (by rfl) (by simp) (fun T hT => ?_)
  iterate 2 (refine wpPlan_takeL (v := ?_) rfl (by rfl) (fun w' hw => ?_) ?_; rotate_left; go_simp; with_reducible rfl; simp only [Act.put, rA, rB, rC])
  refine wpPlan_callL rfl (by rfl) Tryd.call22 (fun w' hw => nzdiv (a) (a) (1) (0) _ HZ8.out HZ9.out (by first | omega | (try simp only [← HZ4.out]) <;> first | rfl | omega | (simp; done) | exact Nat.mod_lt _ (by assumption) | exact Nat.div_add_mod' _ _ | exact Nat.gcd_comm _ _ | exact Nat.gcd_zero_left _ | exact Nat.gcd_mul_left _ _ _ | exact (Nat.gcd_mul_left _ _ _).symm | exact Nat.div_self (by assumption) | exact dv1 _ _ _ (by assumption) | exact dv2 _ _ _ | exact gc1 _ _ | exact gc2 _ _ (by assumption) | exact gc3 _ _ (by assumption) | exact gc4 _ _ (by assumption) | exact gc5 _ _ | exact gc6 _ _ | grind) (by omega) (by omega)) (by rfl) ?_
  simp only [Act.put, rA, rB, rC]
  iterate 4 (refine wpPlan_takeL (v := ?_) rfl (by rfl) (fun w' hw => ?_) ?_; rotate_left; go_simp; with_reducible rfl; simp only [Act.put, rA, rB, rC])
  refine wpPlan_nil (hT.out _ _ ?_); clear hT T
  intro vw7 hg
  simp only [puts, Act.put, rA, rB, rC, rD, rE, ↓reduceIte, Nat.reduceEqDiff]
  clear lx0 lx3
  have HG := Lib.hid (hg)
  clear hg
  replace BX0 := bG BX0 HG
  replace BX1 := bG BX1 HG
  replace BX3 := bG BX3 HG
  replace BX4 := bG BX4 HG
  have r0 := Gr.refl vw7
  go_wp2
  refine hK.out _ _ ?_; clear hK K
  show Code.wp _ _ _ _ _
  clear r0
  have hsz : w.heap.size ≤ vw7.heap.size := Nat.le_trans HB.out.size HG.out.size
  have mx0 : gx0 < vw7.heap.size := BX0.out.lt
  have mx1 : gx1 < vw7.heap.size := BX1.out.lt
  have mx3 : gx3 < vw7.heap.size := BX3.out.lt
  have mx4 : gx4 < vw7.heap.size := BX4.out.lt
  refine forgetW (fun w2 => NX w2 gx0 (a) ∧ NX w2 gx1 (0) ∧ NX w2 gx3 (a) ∧ Bx w2 gx4 26 #[.int .u64 0, .string ⟨#[]⟩] ∧ NX w2 (vw7.heap.size) (1) ∧ NX w2 (vw7.heap.size + 1) (0) ∧ Below w.heap.size w w2) ⟨((BX0.out).alloc _).alloc _, ((BX1.out).alloc _).alloc _, ((BX3.out).alloc _).alloc _, ((BX4.out).alloc _).alloc _, ((Bx.at (by simp) : Bx _ (vw7.heap.size) _ _)).alloc _, (Bx.at (by simp) : Bx _ (vw7.heap.size + 1) _ _), ((HB.out.trans (HG.out.mono HB.out.size)).alloc (by first | omega | (simp; omega)) _).alloc (by first | omega | (simp; omega)) _⟩ ?_
  clear HB HG BX0 BX1 BX3 BX4
  rintro Wx10 ⟨bx0, bx1, bx3, bx4, bx5, bx6, HB⟩
  replace HB := Lib.hid HB
  have qx5_6 : vw7.heap.size < vw7.heap.size + 1 := by omega
  have yx6 : w.heap.size ≤ vw7.heap.size + 1 := by omega
  have qx0_6 : gx0 < vw7.heap.size + 1 := by omega
  have qx1_6 : gx1 < vw7.heap.size + 1 := by omega
  have qx3_6 : gx3 < vw7.heap.size + 1 := by omega
  have qx4_6 : gx4 < vw7.heap.size + 1 := by omega
  generalize hx6 : vw7.heap.size + 1 = gx6 at *
  clear hx6
  have yx5 : w.heap.size ≤ vw7.heap.size := by omega
  have qx0_5 : gx0 < vw7.heap.size := by omega
  have qx1_5 : gx1 < vw7.heap.size := by omega
  have qx3_5 : gx3 < vw7.heap.size := by omega
  have qx4_5 : gx4 < vw7.heap.size := by omega
  generalize hx5 : vw7.heap.size = gx5 at *
  clear hx5
  clear hsz mx0 mx1 mx3 mx4
  have HZ10 : Hid ((0) / (a) = 0) := Lib.hid (by first | omega | (try simp only [← HZ4.out]) <;> first | rfl | omega | (simp; done) | exact Nat.mod_lt _ (by assumption) | exact Nat.div_add_mod' _ _ | exact Nat.gcd_comm _ _ | exact Nat.gcd_zero_left _ | exact Nat.gcd_mul_left _ _ _ | exact (Nat.gcd_mul_left _ _ _).symm | exact Nat.div_self (by assumption) | exact dv1 _ _ _ (by assumption) | exact dv2 _ _ _ | exact gc1 _ _ | exact gc2 _ _ (by assumption) | exact gc3 _ _ (by assumption) | exact gc4 _ _ (by assumption) | exact gc5 _ _ | exact gc6 _ _ | grind)
  have su10 : wl (0) ≤ 12 := by have e := HZ10.out; first | omega | (rw [← e]; have := wl_div (0) (a); omega) | exact wl_le.2 (by decide +kernel)
  have HZ11 : Hid ((0) % (a) = 0) := Lib.hid (by first | omega | (try simp only [← HZ4.out]) <;> first | rfl | omega | (simp; done) | exact Nat.mod_lt _ (by assumption) | exact Nat.div_add_mod' _ _ | exact Nat.gcd_comm _ _ | exact Nat.gcd_zero_left _ | exact Nat.gcd_mul_left _ _ _ | exact (Nat.gcd_mul_left _ _ _).symm | exact Nat.div_self (by assumption) | exact dv1 _ _ _ (by assumption) | exact dv2 _ _ _ | exact gc1 _ _ | exact gc2 _ _ (by assumption) | exact gc3 _ _ (by assumption) | exact gc4 _ _ (by assumption) | exact gc5 _ _ | exact gc6 _ _ | grind)
  have su11 : wl (0) ≤ 12 := by have e := HZ11.out; first | omega | (rw [← e]; have := wl_mod (0) (a); omega) | exact wl_le.2 (by decide +kernel)
  have lx1 := bx1.cells
  have lx3 := bx3.cells
  have BX0 := Lib.hid bx0
  have BX1 := Lib.hid bx1
  have BX3 := Lib.hid bx3
  have BX4 := Lib.hid bx4
  have BX5 := Lib.hid bx5
  have BX6 := Lib.hid bx6
  clear bx0 bx1 bx3 bx4 bx5 bx6
  refine sK fun K hK => ?_
  refine wp_region_seqplan 7 [(true, 0), (true, 1), (true, 2), (true, 3), (true, 4), (true, 5), (true, 6)] (by rfl) (by simp) (fun T hT => ?_)
  iterate 2 (refine wpPlan_takeL (v := ?_) rfl (by rfl) (fun w' hw => ?_) ?_; rotate_left; go_simp; with_reducible rfl; simp only [Act.put, rA, rB, rC])
  refine wpPlan_callL rfl (by rfl) Tryd.call22 (fun w' hw => nzdiv (0) (a) (0) (0) _ HZ10.out HZ11.out (by first | omega | (try simp only [← HZ4.out]) <;> first | rfl | omega | (simp; done) | exact Nat.mod_lt _ (by assumption) | exact Nat.div_add_mod' _ _ | exact Nat.gcd_comm _ _ | exact Nat.gcd_zero_left _ | exact Nat.gcd_mul_left _ _ _ | exact (Nat.gcd_mul_left _ _ _).symm | exact Nat.div_self (by assumption) | exact dv1 _ _ _ (by assumption) | exact dv2 _ _ _ | exact gc1 _ _ | exact gc2 _ _ (by assumption) | exact gc3 _ _ (by assumption) | exact gc4 _ _ (by assumption) | exact gc5 _ _ | exact gc6 _ _ | grind) (by omega) (by omega)) (by rfl) ?_
  simp only [Act.put, rA, rB, rC]
  iterate 4 (refine wpPlan_takeL (v := ?_) rfl (by rfl) (fun w' hw => ?_) ?_; rotate_left; go_simp; with_reducible rfl; simp only [Act.put, rA, rB, rC])
  refine wpPlan_nil (hT.out _ _ ?_); clear hT T
  intro vw8 hg
  simp only [puts, Act.put, rA, rB, rC, rD, rE, ↓reduceIte, Nat.reduceEqDiff]
  clear lx1 lx3
  have HG := Lib.hid (hg)
  clear hg
  replace BX0 := bG BX0 HG
  replace BX1 := bG BX1 HG
  replace BX3 := bG BX3 HG
  replace BX4 := bG BX4 HG
  replace BX5 := bG BX5 HG
  replace BX6 := bG BX6 HG
  have r0 := Gr.refl vw8
  go_wp2
  refine hK.out _ _ ?_; clear hK K
  show Code.wp _ _ _ _ _
  clear r0
  have hsz : w.heap.size ≤ vw8.heap.size := Nat.le_trans HB.out.size HG.out.size
  have mx0 : gx0 < vw8.heap.size := BX0.out.lt
  have mx1 : gx1 < vw8.heap.size := BX1.out.lt
  have mx3 : gx3 < vw8.heap.size := BX3.out.lt
  have mx4 : gx4 < vw8.heap.size := BX4.out.lt
  have mx5 : gx5 < vw8.heap.size := BX5.out.lt
  have mx6 : gx6 < vw8.heap.size := BX6.out.lt
  refine forgetW (fun w2 => NX w2 gx0 (a) ∧ NX w2 gx1 (0) ∧ NX w2 gx3 (a) ∧ Bx w2 gx4 26 #[.int .u64 0, .string ⟨#[]⟩] ∧ NX w2 gx5 (1) ∧ NX w2 gx6 (0) ∧ NX w2 (vw8.heap.size) (0) ∧ NX w2 (vw8.heap.size + 1) (0) ∧ Below w.heap.size w w2) ⟨((BX0.out).alloc _).alloc _, ((BX1.out).alloc _).alloc _, ((BX3.out).alloc _).alloc _, ((BX4.out).alloc _).alloc _, ((BX5.out).alloc _).alloc _, ((BX6.out).alloc _).alloc _, ((Bx.at (by simp) : Bx _ (vw8.heap.size) _ _)).alloc _, (Bx.at (by simp) : Bx _ (vw8.heap.size + 1) _ _), ((HB.out.trans (HG.out.mono HB.out.size)).alloc (by first | omega | (simp; omega)) _).alloc (by first | omega | (simp; omega)) _⟩ ?_
  clear HB HG BX0 BX1 BX3 BX4 BX5 BX6
  rintro Wx11 ⟨bx0, bx1, bx3, bx4, bx5, bx6, bx7, bx8, HB⟩
  replace HB := Lib.hid HB
  have qx7_8 : vw8.heap.size < vw8.heap.size + 1 := by omega
  have yx8 : w.heap.size ≤ vw8.heap.size + 1 := by omega
  have qx0_8 : gx0 < vw8.heap.size + 1 := by omega
  have qx1_8 : gx1 < vw8.heap.size + 1 := by omega
  have qx3_8 : gx3 < vw8.heap.size + 1 := by omega
  have qx4_8 : gx4 < vw8.heap.size + 1 := by omega
  have qx5_8 : gx5 < vw8.heap.size + 1 := by omega
  have qx6_8 : gx6 < vw8.heap.size + 1 := by omega
  generalize hx8 : vw8.heap.size + 1 = gx8 at *
  clear hx8
  have yx7 : w.heap.size ≤ vw8.heap.size := by omega
  have qx0_7 : gx0 < vw8.heap.size := by omega
  have qx1_7 : gx1 < vw8.heap.size := by omega
  have qx3_7 : gx3 < vw8.heap.size := by omega
  have qx4_7 : gx4 < vw8.heap.size := by omega
  have qx5_7 : gx5 < vw8.heap.size := by omega
  have qx6_7 : gx6 < vw8.heap.size := by omega
  generalize hx7 : vw8.heap.size = gx7 at *
  clear hx7
  clear hsz mx0 mx1 mx3 mx4 mx5 mx6
  refine wp_seq ?_
  have lx0 := bx0.cells
  have lx1 := bx1.cells
  have BX0 := Lib.hid bx0
  have BX1 := Lib.hid bx1
  have BX3 := Lib.hid bx3
  have BX4 := Lib.hid bx4
  have BX5 := Lib.hid bx5
  have BX6 := Lib.hid bx6
  have BX7 := Lib.hid bx7
  have BX8 := Lib.hid bx8
  clear bx0 bx1 bx3 bx4 bx5 bx6 bx7 bx8
  refine sK fun K hK => ?_
  refine wp_region_seqplan 7 [(true, 0), (true, 1), (true, 2), (true, 3), (true, 4), (true, 5), (true, 6)] (by rfl) (by simp) (fun T hT => ?_)
  iterate 2 (refine wpPlan_takeL (v := ?_) rfl (by rfl) (fun w' hw => ?_) ?_; rotate_left; go_simp; with_reducible rfl; simp only [Act.put, rA, rB, rC])
  refine wpPlan_callL rfl (by rfl) Tryd.call22 (fun w' hw => nzdivno (a) (0) _ (by first | omega | (try simp only [← HZ4.out]) <;> first | rfl | omega | (simp; done) | exact Nat.mod_lt _ (by assumption) | exact Nat.div_add_mod' _ _ | exact Nat.gcd_comm _ _ | exact Nat.gcd_zero_left _ | exact Nat.gcd_mul_left _ _ _ | exact (Nat.gcd_mul_left _ _ _).symm | exact Nat.div_self (by assumption) | exact dv1 _ _ _ (by assumption) | exact dv2 _ _ _ | exact gc1 _ _ | exact gc2 _ _ (by assumption) | exact gc3 _ _ (by assumption) | exact gc4 _ _ (by assumption) | exact gc5 _ _ | exact gc6 _ _ | grind) (by omega) (by omega)) (by rfl) ?_
  simp only [Act.put, rA, rB, rC]
  iterate 4 (refine wpPlan_takeL (v := ?_) rfl (by rfl) (fun w' hw => ?_) ?_; rotate_left; go_simp; with_reducible rfl; simp only [Act.put, rA, rB, rC])
  refine wpPlan_nil (hT.out _ _ ?_); clear hT T
  intro vw9 hg
  simp only [puts, Act.put, rA, rB, rC, rD, rE, ↓reduceIte, Nat.reduceEqDiff]
  clear lx0 lx1
  have HG := Lib.hid (hg)
  clear hg
  replace BX0 := bG BX0 HG
  replace BX1 := bG BX1 HG
  replace BX3 := bG BX3 HG
  replace BX4 := bG BX4 HG
  replace BX5 := bG BX5 HG
  replace BX6 := bG BX6 HG
  replace BX7 := bG BX7 HG
  replace BX8 := bG BX8 HG
  have r0 := Gr.refl vw9
  go_wp2
  refine hK.out _ _ ?_; clear hK K
  show Code.wp _ _ _ _ _
  clear r0
  have hsz : w.heap.size ≤ vw9.heap.size := Nat.le_trans HB.out.size HG.out.size
  have mx0 : gx0 < vw9.heap.size := BX0.out.lt
  have mx1 : gx1 < vw9.heap.size := BX1.out.lt
  have mx3 : gx3 < vw9.heap.size := BX3.out.lt
  have mx4 : gx4 < vw9.heap.size := BX4.out.lt
  have mx5 : gx5 < vw9.heap.size := BX5.out.lt
  have mx6 : gx6 < vw9.heap.size := BX6.out.lt
  have mx7 : gx7 < vw9.heap.size := BX7.out.lt
  have mx8 : gx8 < vw9.heap.size := BX8.out.lt
  refine forgetW (fun w2 => NX w2 gx1 (0) ∧ NX w2 gx3 (a) ∧ Bx w2 gx4 26 #[.int .u64 0, .string ⟨#[]⟩] ∧ NX w2 gx5 (1) ∧ NX w2 gx6 (0) ∧ NX w2 gx7 (0) ∧ NX w2 gx8 (0) ∧ NX w2 (vw9.heap.size + 1) (0) ∧ Below w.heap.size w w2) ⟨((BX1.out).alloc _).alloc _, ((BX3.out).alloc _).alloc _, ((BX4.out).alloc _).alloc _, ((BX5.out).alloc _).alloc _, ((BX6.out).alloc _).alloc _, ((BX7.out).alloc _).alloc _, ((BX8.out).alloc _).alloc _, (Bx.at (by simp) : Bx _ (vw9.heap.size + 1) _ _), ((HB.out.trans (HG.out.mono HB.out.size)).alloc (by first | omega | (simp; omega)) _).alloc (by first | omega | (simp; omega)) _⟩ ?_
  clear HB HG BX0 BX1 BX3 BX4 BX5 BX6 BX7 BX8
  rintro Wx12 ⟨bx1, bx3, bx4, bx5, bx6, bx7, bx8, bx10, HB⟩
  replace HB := Lib.hid HB
  have yx10 : w.heap.size ≤ vw9.heap.size + 1 := by omega
  have qx0_10 : gx0 < vw9.heap.size + 1 := by omega
  have qx1_10 : gx1 < vw9.heap.size + 1 := by omega
  have qx3_10 : gx3 < vw9.heap.size + 1 := by omega
  have qx4_10 : gx4 < vw9.heap.size + 1 := by omega
  have qx5_10 : gx5 < vw9.heap.size + 1 := by omega
  have qx6_10 : gx6 < vw9.heap.size + 1 := by omega
  have qx7_10 : gx7 < vw9.heap.size + 1 := by omega
  have qx8_10 : gx8 < vw9.heap.size + 1 := by omega
  generalize hx10 : vw9.heap.size + 1 = gx10 at *
  clear hx10
  clear hsz mx0 mx1 mx3 mx4 mx5 mx6 mx7 mx8
  have lx1 := bx1.cells
  have lx3 := bx3.cells
  have lx10 := bx10.cells
  have BX1 := Lib.hid bx1
  have BX3 := Lib.hid bx3
  have BX4 := Lib.hid bx4
  have BX5 := Lib.hid bx5
  have BX6 := Lib.hid bx6
  have BX7 := Lib.hid bx7
  have BX8 := Lib.hid bx8
  have BX10 := Lib.hid bx10
  clear bx1 bx3 bx4 bx5 bx6 bx7 bx8 bx10
  refine sK fun K hK => ?_
  refine wp_region_plan 7 [] [] (fun _ => 0) (fun _ => .cells #[] 0) [(true, 0), (true, 1), (true, 2), (true, 3), (true, 5), (true, 4), (true, 6)] (by kernel_rfl) (by kernel_rfl) (fun i hi => by cases hi) (fun i hi => by cases hi) (fun _ _ _ _ _ h => h) (fun T hT => ?_)
  iterate 2 (refine wpPlan_takeL (v := ?_) rfl (by rfl) (fun w' hw => ?_) ?_; rotate_left; go_simp; with_reducible rfl; simp only [Act.put, rA, rB, rC])
  iterate 5 (refine wpPlan_skipL rfl (by rfl) ?_; simp only [Act.put, rA, rB, rC])
  refine wpPlan_nil (hT.out _ _ ?_); clear hT T
  intro G vw10 hg hf
  simp only [puts, Act.put, rA, rB, rC, rD, rE, ↓reduceIte, Nat.reduceEqDiff]
  clear lx1 lx3 lx10
  have HG := Lib.hid (hg)
  clear hg
  replace BX1 := bG BX1 HG
  replace BX3 := bG BX3 HG
  replace BX4 := bG BX4 HG
  replace BX5 := bG BX5 HG
  replace BX6 := bG BX6 HG
  replace BX7 := bG BX7 HG
  replace BX8 := bG BX8 HG
  replace BX10 := bG BX10 HG
  have r0 := Gr.refl vw10
  go_wp2
  refine hK.out _ _ ?_; clear hK K
  show Code.wp _ _ _ _ _
  clear r0
  refine forgetW (fun w2 => Bx w2 gx4 26 #[.int .u64 0, .string ⟨#[]⟩] ∧ NX w2 gx5 (1) ∧ NX w2 gx6 (0) ∧ NX w2 gx7 (0) ∧ NX w2 gx8 (0) ∧ Below w.heap.size w w2) ⟨BX4.out, BX5.out, BX6.out, BX7.out, BX8.out, HB.out.trans (HG.out.mono HB.out.size)⟩ ?_
  clear HB HG BX1 BX3 BX4 BX5 BX6 BX7 BX8 BX10
  rintro Wx13 ⟨bx4, bx5, bx6, bx7, bx8, HB⟩
  replace HB := Lib.hid HB
  refine wp_cond_false (by rfl) ?_
  refine wp_skip ?_
  show Code.wp _ _ _ _ _
  have HZ12 : Hid (Nat.gcd (1) (0) = 1) := Lib.hid (by first | omega | (try simp only [← HZ4.out]) <;> first | rfl | omega | (simp; done) | exact Nat.mod_lt _ (by assumption) | exact Nat.div_add_mod' _ _ | exact Nat.gcd_comm _ _ | exact Nat.gcd_zero_left _ | exact Nat.gcd_mul_left _ _ _ | exact (Nat.gcd_mul_left _ _ _).symm | exact Nat.div_self (by assumption) | exact dv1 _ _ _ (by assumption) | exact dv2 _ _ _ | exact gc1 _ _ | exact gc2 _ _ (by assumption) | exact gc3 _ _ (by assumption) | exact gc4 _ _ (by assumption) | exact gc5 _ _ | exact gc6 _ _ | grind)
  have su12 : wl (1) ≤ 12 := by have e := HZ12.out; first | omega | (rw [← e]; have := wl_gcd (1) (0); omega) | exact wl_le.2 (by decide +kernel)
  have su_0_15 : wl 1 ≤ 1 := wl_le.2 (by decide +kernel)
  have lx4 := bx4.cells
  have lx5 := bx5.cells
  have lx6 := bx6.cells
  have lx7 := bx7.cells
  have lx8 := bx8.cells
  have BX4 := Lib.hid bx4
  have BX5 := Lib.hid bx5
  have BX6 := Lib.hid bx6
  have BX7 := Lib.hid bx7
  have BX8 := Lib.hid bx8
  clear bx4 bx5 bx6 bx7 bx8
  refine sK fun K hK => ?_
  refine wp_region_seqplan 19 [(true, 0), (true, 1), (true, 2), (true, 3), (true, 4), (true, 5), (true, 6), (true, 7), (true, 8), (true, 9), (true, 10), (true, 11), (true, 12), (true, 13), (true, 14), (true, 15), (true, 16), (true, 17), (true, 18)] (by rfl) (by simp) (fun T hT => ?_)
  iterate 11 (refine wpPlan_takeL (v := ?_) rfl (by rfl) (fun w' hw => ?_) ?_; rotate_left; go_simp; with_reducible rfl; simp only [Act.put, rA, rB, rC])
  refine wpPlan_callL rfl (by rfl) Tryd.call25 (fun w' hw => nzgcd (1) (0) (1) _ HZ12.out (by omega) (by omega)) (by rfl) ?_
  simp only [Act.put, rA, rB, rC]
  refine wpPlan_callL rfl (by rfl) Tryd.call38 (fun w' hw => nzof 1 _ (by decide)) (by rfl) ?_
  simp only [Act.put, rA, rB, rC]
  iterate 3 (refine wpPlan_takeL (v := ?_) rfl (by rfl) (fun w' hw => ?_) ?_; rotate_left; go_simp; with_reducible rfl; simp only [Act.put, rA, rB, rC])
  refine wpPlan_callL rfl (by rfl) Tryd.call12 (fun w' hw => works_any _ (Lib.hid (HT.out.gr (Gr.trans HB.out hw)))) (by rfl) ?_
  simp only [Act.put, rA, rB, rC]
  iterate 2 (refine wpPlan_takeL (v := ?_) rfl (by rfl) (fun w' hw => ?_) ?_; rotate_left; go_simp; with_reducible rfl; simp only [Act.put, rA, rB, rC])
  refine wpPlan_nil (hT.out _ _ ?_); clear hT T
  intro vw11 hg
  simp only [puts, Act.put, rA, rB, rC, rD, rE, ↓reduceIte, Nat.reduceEqDiff]
  clear lx4 lx5 lx6 lx7 lx8
  have HG := Lib.hid (hg)
  clear hg
  replace BX4 := bG BX4 HG
  replace BX5 := bG BX5 HG
  replace BX6 := bG BX6 HG
  replace BX7 := bG BX7 HG
  replace BX8 := bG BX8 HG
  have r0 := Gr.refl vw11
  go_wp2
  refine hK.out _ _ ?_; clear hK K
  show Code.wp _ _ _ _ _
  clear r0
  refine forgetW (fun w2 => Below w.heap.size w w2) (HB.out.trans (HG.out.mono HB.out.size)) ?_
  clear HB HG BX4 BX5 BX6 BX7 BX8
  rintro Wx15 HB
  replace HB := Lib.hid HB
  refine wp_ret ?_
  try simp only [Exit.then, Exit.inBlock]
  have r0 := Gr.refl Wx15
  exact bodyPost_ret (v := .bool true) (by simp [results, Tryd.results8, go_sem]) rfl ⟨rfl, HB.out⟩

set_option maxRecDepth 100000 in
set_option maxHeartbeats 4000000 in
theorem sor_right (vx : Value) (kx : Nat) (fx : Nat → Nat) (vy : Value) (ky : Nat) (fy : Nat → Nat) (vz : Value) (kz : Nat) (fz : Nat → Nat) (b c : Nat)  (w : World) (HWx : Hid (Wa w vx kx fx)) (HFx : Hid (∀ i, i < kx → fx i < 4294967296)) (HVx : Hid (vl fx kx = 0)) (HWy : Hid (Wa w vy ky fy)) (HFy : Hid (∀ i, i < ky → fy i < 4294967296)) (HVy : Hid (vl fy ky = b)) (HWz : Hid (Wa w vz kz fz)) (HFz : Hid (∀ i, i < kz → fz i < 4294967296)) (HVz : Hid (vl fz kz = c)) (hkx : kx ≤ 12) (hky : ky ≤ 12) (hkz : kz ≤ 6) (hb0 : 0 < b) (HT : Hid (Tab w)) :
    Calls Tryd.prog 8 #[vx, vy, vz] w fun e w' => e = .returned (.bool true) ∧ Below w.heap.size w w' := by
  obtain ⟨ao_x, c_x, rfl⟩ := HWx.out.slice
  obtain ⟨ao_y, c_y, rfl⟩ := HWy.out.slice
  obtain ⟨ao_z, c_z, rfl⟩ := HWz.out.slice
  have hb_0 : wl 0 ≤ 12 := by rw [← HVx.out]; have := wl_le.2 (vl_lt HFx.out); omega
  have hb_b : wl b ≤ 12 := by rw [← HVy.out]; have := wl_le.2 (vl_lt HFy.out); omega
  have hb_c : wl c ≤ 6 := by rw [← HVz.out]; have := wl_le.2 (vl_lt HFz.out); omega
  go_enter Tryd.func8, Tryd.ntmps8
  refine sK fun K hK => ?_
  refine wp_region_lit ?_
  go_wp2
  refine hK.out _ _ ?_; clear hK K
  show Code.wp _ _ _ _ _
  refine forgetW (fun w2 => Below w.heap.size w w2) (Below.refl _ _) ?_
  rintro Wx HB
  replace HB := Lib.hid HB
  refine wp_seq ?_
  have hd1 : ¬ (12 < ((kx : Int))) := by omega
  have hd2 : ¬ (12 < ((ky : Int))) := by omega
  have hd3 : ¬ (6 < ((kz : Int))) := by omega
  refine sK fun K hK => ?_
  refine wp_region_seqplan 13 [(true, 0), (true, 1), (true, 2), (true, 3), (true, 4), (true, 5), (true, 6), (true, 7), (true, 8), (true, 9), (true, 10), (true, 11), (true, 12)] (by rfl) (by simp) (fun T hT => ?_)
  iterate 13 (refine wpPlan_takeL (v := ?_) rfl (by rfl) (fun w' hw => ?_) ?_; rotate_left; go_simp; with_reducible rfl; simp only [Act.put, rA, rB, rC])
  refine wpPlan_nil (hT.out _ _ ?_); clear hT T
  intro vw1 hg
  simp only [puts, Act.put, rA, rB, rC, rD, rE, ↓reduceIte, Nat.reduceEqDiff]
  have HG := Lib.hid (hg)
  clear hg
  have r0 := Gr.refl vw1
  go_wp2
  refine hK.out _ _ ?_; clear hK K
  show Code.wp _ _ _ _ _
  clear r0
  refine forgetW (fun w2 => Below w.heap.size w w2) (HB.out.trans (HG.out.mono HB.out.size)) ?_
  clear HB HG
  rintro Wx1 HB
  replace HB := Lib.hid HB
  clear hd1 hd2 hd3
  refine wp_cond_false (by rfl) ?_
  refine wp_skip ?_
  show Code.wp _ _ _ _ _
  refine sK fun K hK => ?_
  refine wp_region_seqplan 6 [(true, 0), (true, 1), (true, 2), (true, 3), (true, 4), (true, 5)] (by rfl) (by simp) (fun T hT => ?_)
  refine wpPlan_takeL (v := ?_) rfl (by rfl) (fun w' hw => ?_) ?_; rotate_left; go_simp; with_reducible rfl; simp only [Act.put, rA, rB, rC]
  refine wpPlan_callL rfl (by rfl) Tryd.call13 (fun w' hw => zmade _ kx fx 0 w _ HVx.out (by omega) HWx.out (Gr.trans HB.out hw) HFx.out) (by rfl) ?_
  simp only [Act.put, rA, rB, rC]
  refine wpPlan_takeL (v := ?_) rfl (by rfl) (fun w' hw => ?_) ?_; rotate_left; go_simp; with_reducible rfl; simp only [Act.put, rA, rB, rC]
  refine wpPlan_callL rfl (by rfl) Tryd.call13 (fun w' hw => zmade _ ky fy b w _ HVy.out (by omega) HWy.out (Gr.trans HB.out hw) HFy.out) (by rfl) ?_
  simp only [Act.put, rA, rB, rC]
  refine wpPlan_takeL (v := ?_) rfl (by rfl) (fun w' hw => ?_) ?_; rotate_left; go_simp; with_reducible rfl; simp only [Act.put, rA, rB, rC]
  refine wpPlan_callL rfl (by rfl) Tryd.call13 (fun w' hw => zmade _ kz fz c w _ HVz.out (by omega) HWz.out (Gr.trans HB.out hw) HFz.out) (by rfl) ?_
  simp only [Act.put, rA, rB, rC]
  refine wpPlan_nil (hT.out _ _ ?_); clear hT T
  intro vw2 hg
  simp only [puts, Act.put, rA, rB, rC, rD, rE, ↓reduceIte, Nat.reduceEqDiff]
  have HG := Lib.hid (hg)
  clear hg
  have r0 := Gr.refl vw2
  go_wp2
  refine hK.out _ _ ?_; clear hK K
  show Code.wp _ _ _ _ _
  clear r0
  have hsz : w.heap.size ≤ vw2.heap.size := Nat.le_trans HB.out.size HG.out.size
  refine forgetW (fun w2 => NX w2 (vw2.heap.size) (0) ∧ NX w2 (vw2.heap.size + 1) (b) ∧ NX w2 (vw2.heap.size + 1 + 1) (c) ∧ Below w.heap.size w w2) ⟨(((Bx.at (by simp) : Bx _ (vw2.heap.size) _ _)).alloc _).alloc _, ((Bx.at (by simp) : Bx _ (vw2.heap.size + 1) _ _)).alloc _, (Bx.at (by simp) : Bx _ (vw2.heap.size + 1 + 1) _ _), (((HB.out.trans (HG.out.mono HB.out.size)).alloc (by first | omega | (simp; omega)) _).alloc (by first | omega | (simp; omega)) _).alloc (by first | omega | (simp; omega)) _⟩ ?_
  clear HB HG
  rintro Wx3 ⟨bx0, bx1, bx2, HB⟩
  replace HB := Lib.hid HB
  have qx0_1 : vw2.heap.size < vw2.heap.size + 1 := by omega
  have qx0_2 : vw2.heap.size < vw2.heap.size + 1 + 1 := by omega
  have qx1_2 : vw2.heap.size + 1 < vw2.heap.size + 1 + 1 := by omega
  have yx2 : w.heap.size ≤ vw2.heap.size + 1 + 1 := by omega
  generalize hx2 : vw2.heap.size + 1 + 1 = gx2 at *
  clear hx2
  have yx1 : w.heap.size ≤ vw2.heap.size + 1 := by omega
  generalize hx1 : vw2.heap.size + 1 = gx1 at *
  clear hx1
  have yx0 : w.heap.size ≤ vw2.heap.size := by omega
  generalize hx0 : vw2.heap.size = gx0 at *
  clear hx0
  clear hsz
  have HZ1 : Hid (Nat.gcd (0) (b) = b) := Lib.hid (by first | rfl | omega | (simp; done) | exact Nat.mod_lt _ (by assumption) | exact Nat.div_add_mod' _ _ | exact Nat.gcd_comm _ _ | exact Nat.gcd_zero_left _ | exact Nat.gcd_mul_left _ _ _ | exact (Nat.gcd_mul_left _ _ _).symm | exact Nat.div_self (by assumption) | exact dv1 _ _ _ (by assumption) | exact dv2 _ _ _ | exact gc1 _ _ | exact gc2 _ _ (by assumption) | exact gc3 _ _ (by assumption) | exact gc4 _ _ (by assumption) | exact gc5 _ _ | exact gc6 _ _ | grind)
  have su1 : wl (b) ≤ 12 := by have e := HZ1.out; first | omega | (rw [← e]; have := wl_gcd (0) (b); omega)
  have lx0 := bx0.cells
  have lx1 := bx1.cells
  have BX0 := Lib.hid bx0
  have BX1 := Lib.hid bx1
  have BX2 := Lib.hid bx2
  clear bx0 bx1 bx2
  refine sK fun K hK => ?_
  refine wp_region_seqplan 3 [(true, 0), (true, 1), (true, 2)] (by rfl) (by simp) (fun T hT => ?_)
  iterate 2 (refine wpPlan_takeL (v := ?_) rfl (by rfl) (fun w' hw => ?_) ?_; rotate_left; go_simp; with_reducible rfl; simp only [Act.put, rA, rB, rC])
  refine wpPlan_callL rfl (by rfl) Tryd.call25 (fun w' hw => nzgcd (0) (b) (b) _ HZ1.out (by omega) (by omega)) (by rfl) ?_
  simp only [Act.put, rA, rB, rC]
  refine wpPlan_nil (hT.out _ _ ?_); clear hT T
  intro vw3 hg
  simp only [puts, Act.put, rA, rB, rC, rD, rE, ↓reduceIte, Nat.reduceEqDiff]
  clear lx0 lx1
  have HG := Lib.hid (hg)
  clear hg
  replace BX0 := bG BX0 HG
  replace BX1 := bG BX1 HG
  replace BX2 := bG BX2 HG
  have r0 := Gr.refl vw3
  go_wp2
  refine hK.out _ _ ?_; clear hK K
  show Code.wp _ _ _ _ _
  clear r0
  have hsz : w.heap.size ≤ vw3.heap.size := Nat.le_trans HB.out.size HG.out.size
  have mx0 : gx0 < vw3.heap.size := BX0.out.lt
  have mx1 : gx1 < vw3.heap.size := BX1.out.lt
  have mx2 : gx2 < vw3.heap.size := BX2.out.lt
  refine forgetW (fun w2 => NX w2 gx0 (0) ∧ NX w2 gx1 (b) ∧ NX w2 gx2 (c) ∧ NX w2 (vw3.heap.size) (b) ∧ Below w.heap.size w w2) ⟨(BX0.out).alloc _, (BX1.out).alloc _, (BX2.out).alloc _, (Bx.at (by simp) : Bx _ (vw3.heap.size) _ _), (HB.out.trans (HG.out.mono HB.out.size)).alloc (by first | omega | (simp; omega)) _⟩ ?_
  clear HB HG BX0 BX1 BX2
  rintro Wx4 ⟨bx0, bx1, bx2, bx3, HB⟩
  replace HB := Lib.hid HB
  have yx3 : w.heap.size ≤ vw3.heap.size := by omega
  have qx0_3 : gx0 < vw3.heap.size := by omega
  have qx1_3 : gx1 < vw3.heap.size := by omega
  have qx2_3 : gx2 < vw3.heap.size := by omega
  generalize hx3 : vw3.heap.size = gx3 at *
  clear hx3
  clear hsz mx0 mx1 mx2
  have BX0 := Lib.hid bx0
  have BX1 := Lib.hid bx1
  have BX2 := Lib.hid bx2
  have BX3 := Lib.hid bx3
  clear bx0 bx1 bx2 bx3
  refine sK fun K hK => ?_
  refine wp_region_seqplan 0 [] (by rfl) (by simp) (fun T hT => ?_)
  refine wpPlan_nil (hT.out _ _ ?_); clear hT T
  intro vw4 hg
  simp only [puts, Act.put, rA, rB, rC, rD, rE, ↓reduceIte, Nat.reduceEqDiff]
  have HG := Lib.hid (hg)
  clear hg
  replace BX0 := bG BX0 HG
  replace BX1 := bG BX1 HG
  replace BX2 := bG BX2 HG
  replace BX3 := bG BX3 HG
  have r0 := Gr.refl vw4
  go_wp2
  refine hK.out _ _ ?_; clear hK K
  show Code.wp _ _ _ _ _
  clear r0
  have hsz : w.heap.size ≤ vw4.heap.size := Nat.le_trans HB.out.size HG.out.size
  have mx0 : gx0 < vw4.heap.size := BX0.out.lt
  have mx1 : gx1 < vw4.heap.size := BX1.out.lt
  have mx2 : gx2 < vw4.heap.size := BX2.out.lt
  have mx3 : gx3 < vw4.heap.size := BX3.out.lt
  refine forgetW (fun w2 => NX w2 gx0 (0) ∧ NX w2 gx1 (b) ∧ NX w2 gx2 (c) ∧ NX w2 gx3 (b) ∧ Bx w2 (vw4.heap.size) 26 #[.int .u64 0, .string ⟨#[]⟩] ∧ Below w.heap.size w w2) ⟨(BX0.out).alloc _, (BX1.out).alloc _, (BX2.out).alloc _, (BX3.out).alloc _, (Bx.at (by simp) : Bx _ (vw4.heap.size) _ _), (HB.out.trans (HG.out.mono HB.out.size)).alloc (by first | omega | (simp; omega)) _⟩ ?_
  clear HB HG BX0 BX1 BX2 BX3
  rintro Wx5 ⟨bx0, bx1, bx2, bx3, bx4, HB⟩
  replace HB := Lib.hid HB
  have yx4 : w.heap.size ≤ vw4.heap.size := by omega
  have qx0_4 : gx0 < vw4.heap.size := by omega
  have qx1_4 : gx1 < vw4.heap.size := by omega
  have qx2_4 : gx2 < vw4.heap.size := by omega
  have qx3_4 : gx3 < vw4.heap.size := by omega
  generalize hx4 : vw4.heap.size = gx4 at *
  clear hx4
  clear hsz mx0 mx1 mx2 mx3
  refine wp_seq ?_
  have HZ2 : Hid (Nat.gcd (b) (0) = b) := Lib.hid (by first | rfl | omega | (simp; done) | exact Nat.mod_lt _ (by assumption) | exact Nat.div_add_mod' _ _ | exact Nat.gcd_comm _ _ | exact Nat.gcd_zero_left _ | exact Nat.gcd_mul_left _ _ _ | exact (Nat.gcd_mul_left _ _ _).symm | exact Nat.div_self (by assumption) | exact dv1 _ _ _ (by assumption) | exact dv2 _ _ _ | exact gc1 _ _ | exact gc2 _ _ (by assumption) | exact gc3 _ _ (by assumption) | exact gc4 _ _ (by assumption) | exact gc5 _ _ | exact gc6 _ _ | grind)
  have su2 : wl (b) ≤ 12 := by have e := HZ2.out; first | omega | (rw [← e]; have := wl_gcd (b) (0); omega)
  have HZ3 : Hid (Nat.gcd (0) (0) = 0) := Lib.hid (by first | rfl | omega | (simp; done) | exact Nat.mod_lt _ (by assumption) | exact Nat.div_add_mod' _ _ | exact Nat.gcd_comm _ _ | exact Nat.gcd_zero_left _ | exact Nat.gcd_mul_left _ _ _ | exact (Nat.gcd_mul_left _ _ _).symm | exact Nat.div_self (by assumption) | exact dv1 _ _ _ (by assumption) | exact dv2 _ _ _ | exact gc1 _ _ | exact gc2 _ _ (by assumption) | exact gc3 _ _ (by assumption) | exact gc4 _ _ (by assumption) | exact gc5 _ _ | exact gc6 _ _ | grind)
  have su3 : wl (0) ≤ 12 := by have e := HZ3.out; first | omega | (rw [← e]; have := wl_gcd (0) (0); omega) | exact wl_le.2 (by decide +kernel)
  have HZ4 : Hid ((c) * (0) = 0) := Lib.hid (by first | rfl | omega | (simp; done) | exact Nat.mod_lt _ (by assumption) | exact Nat.div_add_mod' _ _ | exact Nat.gcd_comm _ _ | exact Nat.gcd_zero_left _ | exact Nat.gcd_mul_left _ _ _ | exact (Nat.gcd_mul_left _ _ _).symm | exact Nat.div_self (by assumption) | exact dv1 _ _ _ (by assumption) | exact dv2 _ _ _ | exact gc1 _ _ | exact gc2 _ _ (by assumption) | exact gc3 _ _ (by assumption) | exact gc4 _ _ (by assumption) | exact gc5 _ _ | exact gc6 _ _ | grind)
  have su4 : wl (0) ≤ 18 := by have e := HZ4.out; first | omega | (rw [← e]; have := wl_mul (c) (0); omega) | exact wl_le.2 (by decide +kernel)
  obtain ⟨u5, HZ5⟩ : ∃ z, Hid ((c) * (b) = z) := ⟨_, Lib.hid rfl⟩
  have su5 : wl (u5) ≤ 18 := by rw [← HZ5.out]; have := wl_mul (c) (b); omega
  have HZ6 : Hid (Nat.gcd (0) (u5) = u5) := Lib.hid (by first | omega | (try simp only [← HZ5.out]) <;> first | rfl | omega | (simp; done) | exact Nat.mod_lt _ (by assumption) | exact Nat.div_add_mod' _ _ | exact Nat.gcd_comm _ _ | exact Nat.gcd_zero_left _ | exact Nat.gcd_mul_left _ _ _ | exact (Nat.gcd_mul_left _ _ _).symm | exact Nat.div_self (by assumption) | exact dv1 _ _ _ (by assumption) | exact dv2 _ _ _ | exact gc1 _ _ | exact gc2 _ _ (by assumption) | exact gc3 _ _ (by assumption) | exact gc4 _ _ (by assumption) | exact gc5 _ _ | exact gc6 _ _ | grind)
  have su6 : wl (u5) ≤ 18 := by have e := HZ6.out; first | omega | (rw [← e]; have := wl_gcd (0) (u5); omega)
  have HZ7 : Hid ((c) * (b) = u5) := Lib.hid (by first | omega | (try simp only [← HZ5.out]) <;> first | rfl | omega | (simp; done) | exact Nat.mod_lt _ (by assumption) | exact Nat.div_add_mod' _ _ | exact Nat.gcd_comm _ _ | exact Nat.gcd_zero_left _ | exact Nat.gcd_mul_left _ _ _ | exact (Nat.gcd_mul_left _ _ _).symm | exact Nat.div_self (by assumption) | exact dv1 _ _ _ (by assumption) | exact dv2 _ _ _ | exact gc1 _ _ | exact gc2 _ _ (by assumption) | exact gc3 _ _ (by assumption) | exact gc4 _ _ (by assumption) | exact gc5 _ _ | exact gc6 _ _ | grind)
  have su7 : wl (u5) ≤ 18 := by have e := HZ7.out; first | omega | (rw [← e]; have := wl_mul (c) (b); omega)
  have hd4 : decide (b = 0) = false := decide_eq_false (by first | omega | (try simp only [← HZ5.out]) <;> first | rfl | omega | (simp; done) | exact Nat.mod_lt _ (by assumption) | exact Nat.div_add_mod' _ _ | exact Nat.gcd_comm _ _ | exact Nat.gcd_zero_left _ | exact Nat.gcd_mul_left _ _ _ | exact (Nat.gcd_mul_left _ _ _).symm | exact Nat.div_self (by assumption) | exact dv1 _ _ _ (by assumption) | exact dv2 _ _ _ | exact gc1 _ _ | exact gc2 _ _ (by assumption) | exact gc3 _ _ (by assumption) | exact gc4 _ _ (by assumption) | exact gc5 _ _ | exact gc6 _ _ | grind)
  have hd5 : decide (b = 0) = false := decide_eq_false (by first | omega | (try simp only [← HZ5.out]) <;> first | rfl | omega | (simp; done) | exact Nat.mod_lt _ (by assumption) | exact Nat.div_add_mod' _ _ | exact Nat.gcd_comm _ _ | exact Nat.gcd_zero_left _ | exact Nat.gcd_mul_left _ _ _ | exact (Nat.gcd_mul_left _ _ _).symm | exact Nat.div_self (by assumption) | exact dv1 _ _ _ (by assumption) | exact dv2 _ _ _ | exact gc1 _ _ | exact gc2 _ _ (by assumption) | exact gc3 _ _ (by assumption) | exact gc4 _ _ (by assumption) | exact gc5 _ _ | exact gc6 _ _ | grind)
  have lx0 := bx0.cells
  have lx1 := bx1.cells
  have lx2 := bx2.cells
  have lx3 := bx3.cells
  have lx4 := bx4.cells
  have BX0 := Lib.hid bx0
  have BX1 := Lib.hid bx1
  have BX2 := Lib.hid bx2
  have BX3 := Lib.hid bx3
  have BX4 := Lib.hid bx4
  clear bx0 bx1 bx2 bx3 bx4
  refine sK fun K hK => ?_
  refine wp_region_plan 38 [] [] (fun _ => 0) (fun _ => .cells #[] 0) [(true, 0), (true, 1), (true, 2), (true, 3), (true, 4), (true, 5), (true, 6), (true, 7), (true, 9), (true, 8), (true, 10), (true, 11), (true, 12), (true, 13), (true, 14), (true, 16), (true, 17), (true, 20), (true, 21), (true, 15), (true, 18), (true, 19), (true, 22), (true, 23), (true, 24), (true, 25), (true, 26), (true, 27), (true, 28), (true, 29), (true, 30), (true, 31), (true, 32), (true, 33), (true, 34), (true, 35), (true, 36), (true, 37)] (by kernel_rfl) (by kernel_rfl) (fun i hi => by cases hi) (fun i hi => by cases hi) (fun _ _ _ _ _ h => h) (fun T hT => ?_)
  iterate 3 (refine wpPlan_takeL (v := ?_) rfl (by rfl) (fun w' hw => ?_) ?_; rotate_left; go_simp; with_reducible rfl; simp only [Act.put, rA, rB, rC])
  refine wpPlan_callL rfl (by rfl) Tryd.call25 (fun w' hw => nzgcd (b) (0) (b) _ HZ2.out (by omega) (by omega)) (by rfl) ?_
  simp only [Act.put, rA, rB, rC]
  iterate 5 (refine wpPlan_takeL (v := ?_) rfl (by rfl) (fun w' hw => ?_) ?_; rotate_left; go_simp; with_reducible rfl; simp only [Act.put, rA, rB, rC])
  refine wpPlan_callL rfl (by rfl) Tryd.call25 (fun w' hw => nzgcd (0) (0) (0) _ HZ3.out (by omega) (by omega)) (by rfl) ?_
  simp only [Act.put, rA, rB, rC]
  iterate 9 (refine wpPlan_takeL (v := ?_) rfl (by rfl) (fun w' hw => ?_) ?_; rotate_left; go_simp; with_reducible rfl; simp only [Act.put, rA, rB, rC])
  refine wpPlan_callL rfl (by rfl) Tryd.call23 (fun w' hw => nzmul (c) (0) (0) _ HZ4.out (by omega) (by omega)) (by rfl) ?_
  simp only [Act.put, rA, rB, rC]
  refine wpPlan_callL rfl (by rfl) Tryd.call23 (fun w' hw => nzmul (c) (b) (u5) _ HZ5.out (by omega) (by omega)) (by rfl) ?_
  simp only [Act.put, rA, rB, rC]
  refine wpPlan_callL rfl (by rfl) Tryd.call25 (fun w' hw => nzgcd (0) (u5) (u5) _ HZ6.out (by omega) (by omega)) (by rfl) ?_
  simp only [Act.put, rA, rB, rC]
  refine wpPlan_callL rfl (by rfl) Tryd.call23 (fun w' hw => nzmul (c) (b) (u5) _ HZ7.out (by omega) (by omega)) (by rfl) ?_
  simp only [Act.put, rA, rB, rC]
  iterate 15 (refine wpPlan_takeL (v := ?_) rfl (by rfl) (fun w' hw => ?_) ?_; rotate_left; go_simp; with_reducible rfl; simp only [Act.put, rA, rB, rC])
  refine wpPlan_nil (hT.out _ _ ?_); clear hT T
  intro G vw5 hg hf
  simp only [puts, Act.put, rA, rB, rC, rD, rE, ↓reduceIte, Nat.reduceEqDiff]
  clear lx0 lx1 lx2 lx3 lx4
  have HG := Lib.hid (hg)
  clear hg
  replace BX0 := bG BX0 HG
  replace BX1 := bG BX1 HG
  replace BX2 := bG BX2 HG
  replace BX3 := bG BX3 HG
  replace BX4 := bG BX4 HG
  have r0 := Gr.refl vw5
  go_wp2
  refine hK.out _ _ ?_; clear hK K
  show Code.wp _ _ _ _ _
  clear r0
  refine forgetW (fun w2 => NX w2 gx0 (0) ∧ NX w2 gx1 (b) ∧ NX w2 gx3 (b) ∧ Bx w2 gx4 26 #[.int .u64 0, .string ⟨#[]⟩] ∧ Below w.heap.size w w2) ⟨BX0.out, BX1.out, BX3.out, BX4.out, HB.out.trans (HG.out.mono HB.out.size)⟩ ?_
  clear HB HG BX0 BX1 BX2 BX3 BX4
  rintro Wx6 ⟨bx0, bx1, bx3, bx4, HB⟩
  replace HB := Lib.hid HB
  clear hd4 hd5
  refine wp_cond_false (by rfl) ?_
  refine wp_skip ?_
  show Code.wp _ _ _ _ _
  refine wp_seq ?_
  have hd6 : decide (b = 0) = false := decide_eq_false (by first | omega | (try simp only [← HZ5.out]) <;> first | rfl | omega | (simp; done) | exact Nat.mod_lt _ (by assumption) | exact Nat.div_add_mod' _ _ | exact Nat.gcd_comm _ _ | exact Nat.gcd_zero_left _ | exact Nat.gcd_mul_left _ _ _ | exact (Nat.gcd_mul_left _ _ _).symm | exact Nat.div_self (by assumption) | exact dv1 _ _ _ (by assumption) | exact dv2 _ _ _ | exact gc1 _ _ | exact gc2 _ _ (by assumption) | exact gc3 _ _ (by assumption) | exact gc4 _ _ (by assumption) | exact gc5 _ _ | exact gc6 _ _ | grind)
  have lx3 := bx3.cells
  have lx4 := bx4.cells
  have BX0 := Lib.hid bx0
  have BX1 := Lib.hid bx1
  have BX3 := Lib.hid bx3
  have BX4 := Lib.hid bx4
  clear bx0 bx1 bx3 bx4
  refine sK fun K hK => ?_
  refine wp_region_seqplan 3 [(true, 0), (true, 1), (true, 2)] (by rfl) (by simp) (fun T hT => ?_)
  iterate 3 (refine wpPlan_takeL (v := ?_) rfl (by rfl) (fun w' hw => ?_) ?_; rotate_left; go_simp; with_reducible rfl; simp only [Act.put, rA, rB, rC])
  refine wpPlan_nil (hT.out _ _ ?_); clear hT T
  intro vw6 hg
  simp only [puts, Act.put, rA, rB, rC, rD, rE, ↓reduceIte, Nat.reduceEqDiff]
  clear lx3 lx4
  have HG := Lib.hid (hg)
  clear hg
  replace BX0 := bG BX0 HG
  replace BX1 := bG BX1 HG
  replace BX3 := bG BX3 HG
  replace BX4 := bG BX4 HG
  have r0 := Gr.refl vw6
  go_wp2
  refine hK.out _ _ ?_; clear hK K
  show Code.wp _ _ _ _ _
  clear r0
  refine forgetW (fun w2 => NX w2 gx0 (0) ∧ NX w2 gx1 (b) ∧ NX w2 gx3 (b) ∧ Bx w2 gx4 26 #[.int .u64 0, .string ⟨#[]⟩] ∧ Below w.heap.size w w2) ⟨BX0.out, BX1.out, BX3.out, BX4.out, HB.out.trans (HG.out.mono HB.out.size)⟩ ?_
  clear HB HG BX0 BX1 BX3 BX4
  rintro Wx8 ⟨bx0, bx1, bx3, bx4, HB⟩
  replace HB := Lib.hid HB
  clear hd6
  refine wp_cond_false (by rfl) ?_
  refine wp_skip ?_
  show Code.wp _ _ _ _ _
  have HZ8 : Hid ((0) / (b) = 0) := Lib.hid (by first | omega | (try simp only [← HZ5.out]) <;> first | rfl | omega | (simp; done) | exact Nat.mod_lt _ (by assumption) | exact Nat.div_add_mod' _ _ | exact Nat.gcd_comm _ _ | exact Nat.gcd_zero_left _ | exact Nat.gcd_mul_left _ _ _ | exact (Nat.gcd_mul_left _ _ _).symm | exact Nat.div_self (by assumption) | exact dv1 _ _ _ (by assumption) | exact dv2 _ _ _ | exact gc1 _ _ | exact gc2 _ _ (by assumption) | exact gc3 _ _ (by assumption) | exact gc4 _ _ (by assumption) | exact gc5 _ _ | exact gc6 _ _ | grind)
  have su8 : wl (0) ≤ 12 := by have e := HZ8.out; first | omega | (rw [← e]; have := wl_div (0) (b); omega) | exact wl_le.2 (by decide +kernel)
  have HZ9 : Hid ((0) % (b) = 0) := Lib.hid (by first | omega | (try simp only [← HZ5.out]) <;> first | rfl | omega | (simp; done) | exact Nat.mod_lt _ (by assumption) | exact Nat.div_add_mod' _ _ | exact Nat.gcd_comm _ _ | exact Nat.gcd_zero_left _ | exact Nat.gcd_mul_left _ _ _ | exact (Nat.gcd_mul_left _ _ _).symm | exact Nat.div_self (by assumption) | exact dv1 _ _ _ (by assumption) | exact dv2 _ _ _ | exact gc1 _ _ | exact gc2 _ _ (by assumption) | exact gc3 _ _ (by assumption) | exact gc4 _ _ (by assumption) | exact gc5 _ _ | exact gc6 _ _ | grind)
  have su9 : wl (0) ≤ 12 := by have e := HZ9.out; first | omega | (rw [← e]; have := wl_mod (0) (b); omega) | exact wl_le.2 (by decide +kernel)
  have lx0 := bx0.cells
  have lx3 := bx3.cells
  have BX0 := Lib.hid bx0
  have BX1 := Lib.hid bx1
  have BX3 := Lib.hid bx3
  have BX4 := Lib.hid bx4
  clear bx0 bx1 bx3 bx4
  refine sK fun K hK => ?_
  refine wp_region_seqplan 7 [(true, 0), (true, 1), (true, 2), (true, 3), (true, 4), (true, 5), (true, 6)] (by rfl) (by simp) (fun T hT => ?_)
  iterate 2 (refine wpPlan_takeL (v := ?_) rfl (by rfl) (fun w' hw => ?_) ?_; rotate_left; go_simp; with_reducible rfl; simp only [Act.put, rA, rB, rC])
  refine wpPlan_callL rfl (by rfl) Tryd.call22 (fun w' hw => nzdiv (0) (b) (0) (0) _ HZ8.out HZ9.out (by first | omega | (try simp only [← HZ5.out]) <;> first | rfl | omega | (simp; done) | exact Nat.mod_lt _ (by assumption) | exact Nat.div_add_mod' _ _ | exact Nat.gcd_comm _ _ | exact Nat.gcd_zero_left _ | exact Nat.gcd_mul_left _ _ _ | exact (Nat.gcd_mul_left _ _ _).symm | exact Nat.div_self (by assumption) | exact dv1 _ _ _ (by assumption) | exact dv2 _ _ _ | exact gc1 _ _ | exact gc2 _ _ (by assumption) | exact gc3 _ _ (by assumption) | exact gc4 _ _ (by assumption) | exact gc5 _ _ | exact gc6 _ _ | grind) (by omega) (by omega)) (by rfl) ?_
  simp only [Act.put, rA, rB, rC]
  iterate 4 (refine wpPlan_takeL (v := ?_) rfl (by rfl) (fun w' hw => ?_) ?_; rotate_left; go_simp; with_reducible rfl; simp only [Act.put, rA, rB, rC])
  refine wpPlan_nil (hT.out _ _ ?_); clear hT T
  intro vw7 hg
  simp only [puts, Act.put, rA, rB, rC, rD, rE, ↓reduceIte, Nat.reduceEqDiff]
  clear lx0 lx3
  have HG := Lib.hid (hg)
  clear hg
  replace BX0 := bG BX0 HG
  replace BX1 := bG BX1 HG
  replace BX3 := bG BX3 HG
  replace BX4 := bG BX4 HG
  have r0 := Gr.refl vw7
  go_wp2
  refine hK.out _ _ ?_; clear hK K
  show Code.wp _ _ _ _ _
  clear r0
  have hsz : w.heap.size ≤ vw7.heap.size := Nat.le_trans HB.out.size HG.out.size
  have mx0 : gx0 < vw7.heap.size := BX0.out.lt
  have mx1 : gx1 < vw7.heap.size := BX1.out.lt
  have mx3 : gx3 < vw7.heap.size := BX3.out.lt
  have mx4 : gx4 < vw7.heap.size := BX4.out.lt
  refine forgetW (fun w2 => NX w2 gx0 (0) ∧ NX w2 gx1 (b) ∧ NX w2 gx3 (b) ∧ Bx w2 gx4 26 #[.int .u64 0, .string ⟨#[]⟩] ∧ NX w2 (vw7.heap.size) (0) ∧ NX w2 (vw7.heap.size + 1) (0) ∧ Below w.heap.size w w2) ⟨((BX0.out).alloc _).alloc _, ((BX1.out).alloc _).alloc _, ((BX3.out).alloc _).alloc _, ((BX4.out).alloc _).alloc _, ((Bx.at (by simp) : Bx _ (vw7.heap.size) _ _)).alloc _, (Bx.at (by simp) : Bx _ (vw7.heap.size + 1) _ _), ((HB.out.trans (HG.out.mono HB.out.size)).alloc (by first | omega | (simp; omega)) _).alloc (by first | omega | (simp; omega)) _⟩ ?_
  clear HB HG BX0 BX1 BX3 BX4
  rintro Wx10 ⟨bx0, bx1, bx3, bx4, bx5, bx6, HB⟩
  replace HB := Lib.hid HB
  have qx5_6 : vw7.heap.size < vw7.heap.size + 1 := by omega
  have yx6 : w.heap.size ≤ vw7.heap.size + 1 := by omega
  have qx0_6 : gx0 < vw7.heap.size + 1 := by omega
  have qx1_6 : gx1 < vw7.heap.size + 1 := by omega
  have qx3_6 : gx3 < vw7.heap.size + 1 := by omega
  have qx4_6 : gx4 < vw7.heap.size + 1 := by omega
  generalize hx6 : vw7.heap.size + 1 = gx6 at *
  clear hx6
  have yx5 : w.heap.size ≤ vw7.heap.size := by omega
  have qx0_5 : gx0 < vw7.heap.size := by omega
  have qx1_5 : gx1 < vw7.heap.size := by omega
  have qx3_5 : gx3 < vw7.heap.size := by omega
  have qx4_5 : gx4 < vw7.heap.size := by omega
  generalize hx5 : vw7.heap.size = gx5 at *
  clear hx5
  clear hsz mx0 mx1 mx3 mx4
  have HZ10 : Hid ((b) / (b) = 1) := Lib.hid (by first | omega | (try simp only [← HZ5.out]) <;> first | rfl | omega | (simp; done) | exact Nat.mod_lt _ (by assumption) | exact Nat.div_add_mod' _ _ | exact Nat.gcd_comm _ _ | exact Nat.gcd_zero_left _ | exact Nat.gcd_mul_left _ _ _ | exact (Nat.gcd_mul_left _ _ _).symm | exact Nat.div_self (by assumption) | exact dv1 _ _ _ (by assumption) | exact dv2 _ _ _ | exact gc1 _ _ | exact gc2 _ _ (by assumption) | exact gc3 _ _ (by assumption) | exact gc4 _ _ (by assumption) | exact gc5 _ _ | exact gc6 _ _ | grind)
  have su10 : wl (1) ≤ 12 := by have e := HZ10.out; first | omega | (rw [← e]; have := wl_div (b) (b); omega) | exact wl_le.2 (by decide +kernel)
  have HZ11 : Hid ((b) % (b) = 0) := Lib.hid (by first | omega | (try simp only [← HZ5.out]) <;> first | rfl | omega | (simp; done) | exact Nat.mod_lt _ (by assumption) | exact Nat.div_add_mod' _ _ | exact Nat.gcd_comm _ _ | exact Nat.gcd_zero_left _ | exact Nat.gcd_mul_left _ _ _ | exact (Nat.gcd_mul_left _ _ _).symm | exact Nat.div_self (by assumption) | exact dv1 _ _ _ (by assumption) | exact dv2 _ _ _ | exact gc1 _ _ | exact gc2 _ _ (by assumption) | exact gc3 _ _ (by assumption) | exact gc4 _ _ (by assumption) | exact gc5 _ _ | exact gc6 _ _ | grind)
  have su11 : wl (0) ≤ 12 := by have e := HZ11.out; first | omega | (rw [← e]; have := wl_mod (b) (b); omega) | exact wl_le.2 (by decide +kernel)
  have lx1 := bx1.cells
  have lx3 := bx3.cells
  have BX0 := Lib.hid bx0
  have BX1 := Lib.hid bx1
  have BX3 := Lib.hid bx3
  have BX4 := Lib.hid bx4
  have BX5 := Lib.hid bx5
  have BX6 := Lib.hid bx6
  clear bx0 bx1 bx3 bx4 bx5 bx6
  refine sK fun K hK => ?_
  refine wp_region_seqplan 7 [(true, 0), (true, 1), (true, 2), (true, 3), (true, 4), (true, 5), (true, 6)] (by rfl) (by simp) (fun T hT => ?_)
  iterate 2 (refine wpPlan_takeL (v := ?_) rfl (by rfl) (fun w' hw => ?_) ?_; rotate_left; go_simp; with_reducible rfl; simp only [Act.put, rA, rB, rC])
  refine wpPlan_callL rfl (by rfl) Tryd.call22 (fun w' hw => nzdiv (b) (b) (1) (0) _ HZ10.out HZ11.out (by first | omega | (try simp only [← HZ5.out]) <;> first | rfl | omega | (simp; done) | exact Nat.mod_lt _ (by assumption) | exact Nat.div_add_mod' _ _ | exact Nat.gcd_comm _ _ | exact Nat.gcd_zero_left _ | exact Nat.gcd_mul_left _ _ _ | exact (Nat.gcd_mul_left _ _ _).symm | exact Nat.div_self (by assumption) | exact dv1 _ _ _ (by assumption) | exact dv2 _ _ _ | exact gc1 _ _ | exact gc2 _ _ (by assumption) | exact gc3 _ _ (by assumption) | exact gc4 _ _ (by assumption) | exact gc5 _ _ | exact gc6 _ _ | grind) (by omega) (by omega)) (by rfl) ?_
  simp only [Act.put, rA, rB, rC]
  iterate 4 (refine wpPlan_takeL (v := ?_) rfl (by rfl) (fun w' hw => ?_) ?_; rotate_left; go_simp; with_reducible rfl; simp only [Act.put, rA, rB, rC])
  refine wpPlan_nil (hT.out _ _ ?_); clear hT T
  intro vw8 hg
  simp only [puts, Act.put, rA, rB, rC, rD, rE, ↓reduceIte, Nat.reduceEqDiff]
  clear lx1 lx3
  have HG := Lib.hid (hg)
  clear hg
  replace BX0 := bG BX0 HG
  replace BX1 := bG BX1 HG
  replace BX3 := bG BX3 HG
  replace BX4 := bG BX4 HG
  replace BX5 := bG BX5 HG
  replace BX6 := bG BX6 HG
  have r0 := Gr.refl vw8
  go_wp2
  refine hK.out _ _ ?_; clear hK K
  show Code.wp _ _ _ _ _
  clear r0
  have hsz : w.heap.size ≤ vw8.heap.size := Nat.le_trans HB.out.size HG.out.size
  have mx0 : gx0 < vw8.heap.size := BX0.out.lt
  have mx1 : gx1 < vw8.heap.size := BX1.out.lt
  have mx3 : gx3 < vw8.heap.size := BX3.out.lt
  have mx4 : gx4 < vw8.heap.size := BX4.out.lt
  have mx5 : gx5 < vw8.heap.size := BX5.out.lt
  have mx6 : gx6 < vw8.heap.size := BX6.out.lt
  refine forgetW (fun w2 => NX w2 gx0 (0) ∧ NX w2 gx1 (b) ∧ NX w2 gx3 (b) ∧ Bx w2 gx4 26 #[.int .u64 0, .string ⟨#[]⟩] ∧ NX w2 gx5 (0) ∧ NX w2 gx6 (0) ∧ NX w2 (vw8.heap.size) (1) ∧ NX w2 (vw8.heap.size + 1) (0) ∧ Below w.heap.size w w2) ⟨((BX0.out).alloc _).alloc _, ((BX1.out).alloc _).alloc _, ((BX3.out).alloc _).alloc _, ((BX4.out).alloc _).alloc _, ((BX5.out).alloc _).alloc _, ((BX6.out).alloc _).alloc _, ((Bx.at (by simp) : Bx _ (vw8.heap.size) _ _)).alloc _, (Bx.at (by simp) : Bx _ (vw8.heap.size + 1) _ _), ((HB.out.trans (HG.out.mono HB.out.size)).alloc (by first | omega | (simp; omega)) _).alloc (by first | omega | (simp; omega)) _⟩ ?_
  clear HB HG BX0 BX1 BX3 BX4 BX5 BX6
  rintro Wx11 ⟨bx0, bx1, bx3, bx4, bx5, bx6, bx7, bx8, HB⟩
  replace HB := Lib.hid HB
  have qx7_8 : vw8.heap.size < vw8.heap.size + 1 := by omega
  have yx8 : w.heap.size ≤ vw8.heap.size + 1 := by omega
  have qx0_8 : gx0 < vw8.heap.size + 1 := by omega
  have qx1_8 : gx1 < vw8.heap.size + 1 := by omega
  have qx3_8 : gx3 < vw8.heap.size + 1 := by omega
  have qx4_8 : gx4 < vw8.heap.size + 1 := by omega
  have qx5_8 : gx5 < vw8.heap.size + 1 := by omega
  have qx6_8 : gx6 < vw8.heap.size + 1 := by omega
  generalize hx8 : vw8.heap.size + 1 = gx8 at *
  clear hx8
  have yx7 : w.heap.size ≤ vw8.heap.size := by omega
  have qx0_7 : gx0 < vw8.heap.size := by omega
  have qx1_7 : gx1 < vw8.heap.size := by omega
  have qx3_7 : gx3 < vw8.heap.size := by omega
  have qx4_7 : gx4 < vw8.heap.size := by omega
  have qx5_7 : gx5 < vw8.heap.size := by omega
  have qx6_7 : gx6 < vw8.heap.size := by omega
  generalize hx7 : vw8.heap.size = gx7 at *
  clear hx7
  clear hsz mx0 mx1 mx3 mx4 mx5 mx6
  refine wp_seq ?_
  have HZ12 : Hid ((0) / (b) = 0) := Lib.hid (by first | omega | (try simp only [← HZ5.out]) <;> first | rfl | omega | (simp; done) | exact Nat.mod_lt _ (by assumption) | exact Nat.div_add_mod' _ _ | exact Nat.gcd_comm _ _ | exact Nat.gcd_zero_left _ | exact Nat.gcd_mul_left _ _ _ | exact (Nat.gcd_mul_left _ _ _).symm | exact Nat.div_self (by assumption) | exact dv1 _ _ _ (by assumption) | exact dv2 _ _ _ | exact gc1 _ _ | exact gc2 _ _ (by assumption) | exact gc3 _ _ (by assumption) | exact gc4 _ _ (by assumption) | exact gc5 _ _ | exact gc6 _ _ | grind)
  have su12 : wl (0) ≤ 12 := by have e := HZ12.out; first | omega | (rw [← e]; have := wl_div (0) (b); omega) | exact wl_le.2 (by decide +kernel)
  have HZ13 : Hid ((0) % (b) = 0) := Lib.hid (by first | omega | (try simp only [← HZ5.out]) <;> first | rfl | omega | (simp; done) | exact Nat.mod_lt _ (by assumption) | exact Nat.div_add_mod' _ _ | exact Nat.gcd_comm _ _ | exact Nat.gcd_zero_left _ | exact Nat.gcd_mul_left _ _ _ | exact (Nat.gcd_mul_left _ _ _).symm | exact Nat.div_self (by assumption) | exact dv1 _ _ _ (by assumption) | exact dv2 _ _ _ | exact gc1 _ _ | exact gc2 _ _ (by assumption) | exact gc3 _ _ (by assumption) | exact gc4 _ _ (by assumption) | exact gc5 _ _ | exact gc6 _ _ | grind)
  have su13 : wl (0) ≤ 12 := by have e := HZ13.out; first | omega | (rw [← e]; have := wl_mod (0) (b); omega) | exact wl_le.2 (by decide +kernel)
  have lx0 := bx0.cells
  have lx1 := bx1.cells
  have BX0 := Lib.hid bx0
  have BX1 := Lib.hid bx1
  have BX3 := Lib.hid bx3
  have BX4 := Lib.hid bx4
  have BX5 := Lib.hid bx5
  have BX6 := Lib.hid bx6
  have BX7 := Lib.hid bx7
  have BX8 := Lib.hid bx8
  clear bx0 bx1 bx3 bx4 bx5 bx6 bx7 bx8
  refine sK fun K hK => ?_
  refine wp_region_seqplan 7 [(true, 0), (true, 1), (true, 2), (true, 3), (true, 4), (true, 5), (true, 6)] (by rfl) (by simp) (fun T hT => ?_)
  iterate 2 (refine wpPlan_takeL (v := ?_) rfl (by rfl) (fun w' hw => ?_) ?_; rotate_left; go_simp; with_reducible rfl; simp only [Act.put, rA, rB, rC])
  refine wpPlan_callL rfl (by rfl) Tryd.call22 (fun w' hw => nzdiv (0) (b) (0) (0) _ HZ12.out HZ13.out (by first | omega | (try simp only [← HZ5.out]) <;> first | rfl | omega | (simp; done) | exact Nat.mod_lt _ (by assumption) | exact Nat.div_add_mod' _ _ | exact Nat.gcd_comm _ _ | exact Nat.gcd_zero_left _ | exact Nat.gcd_mul_left _ _ _ | exact (Nat.gcd_mul_left _ _ _).symm | exact Nat.div_self (by assumption) | exact dv1 _ _ _ (by assumption) | exact dv2 _ _ _ | exact gc1 _ _ | exact gc2 _ _ (by assumption) | exact gc3 _ _ (by assumption) | exact gc4 _ _ (by assumption) | exact gc5 _ _ | exact gc6 _ _ | grind) (by omega) (by omega)) (by rfl) ?_
  simp only [Act.put, rA, rB, rC]
  iterate 4 (refine wpPlan_takeL (v := ?_) rfl (by rfl) (fun w' hw => ?_) ?_; rotate_left; go_simp; with_reducible rfl; simp only [Act.put, rA, rB, rC])
  refine wpPlan_nil (hT.out _ _ ?_); clear hT T
  intro vw9 hg
  simp only [puts, Act.put, rA, rB, rC, rD, rE, ↓reduceIte, Nat.reduceEqDiff]
  clear lx0 lx1
  have HG := Lib.hid (hg)
  clear hg
  replace BX0 := bG BX0 HG
  replace BX1 := bG BX1 HG
  replace BX3 := bG BX3 HG
  replace BX4 := bG BX4 HG
  replace BX5 := bG BX5 HG
  replace BX6 := bG BX6 HG
  replace BX7 := bG BX7 HG
  replace BX8 := bG BX8 HG
  have r0 := Gr.refl vw9
  go_wp2
  refine hK.out _ _ ?_; clear hK K
  show Code.wp _ _ _ _ _
  clear r0
  have hsz : w.heap.size ≤ vw9.heap.size := Nat.le_trans HB.out.size HG.out.size
  have mx0 : gx0 < vw9.heap.size := BX0.out.lt
  have mx1 : gx1 < vw9.heap.size := BX1.out.lt
  have mx3 : gx3 < vw9.heap.size := BX3.out.lt
  have mx4 : gx4 < vw9.heap.size := BX4.out.lt
  have mx5 : gx5 < vw9.heap.size := BX5.out.lt
  have mx6 : gx6 < vw9.heap.size := BX6.out.lt
  have mx7 : gx7 < vw9.heap.size := BX7.out.lt
  have mx8 : gx8 < vw9.heap.size := BX8.out.lt
  refine forgetW (fun w2 => NX w2 gx1 (b) ∧ NX w2 gx3 (b) ∧ Bx w2 gx4 26 #[.int .u64 0, .string ⟨#[]⟩] ∧ NX w2 gx5 (0) ∧ NX w2 gx6 (0) ∧ NX w2 gx7 (1) ∧ NX w2 gx8 (0) ∧ NX w2 (vw9.heap.size + 1) (0) ∧ Below w.heap.size w w2) ⟨((BX1.out).alloc _).alloc _, ((BX3.out).alloc _).alloc _, ((BX4.out).alloc _).alloc _, ((BX5.out).alloc _).alloc _, ((BX6.out).alloc _).alloc _, ((BX7.out).alloc _).alloc _, ((BX8.out).alloc _).alloc _, (Bx.at (by simp) : Bx _ (vw9.heap.size + 1) _ _), ((HB.out.trans (HG.out.mono HB.out.size)).alloc (by first | omega | (simp; omega)) _).alloc (by first | omega | (simp; omega)) _⟩ ?_
  clear HB HG BX0 BX1 BX3 BX4 BX5 BX6 BX7 BX8
  rintro Wx12 ⟨bx1, bx3, bx4, bx5, bx6, bx7, bx8, bx10, HB⟩
  replace HB := Lib.hid HB
  have yx10 : w.heap.size ≤ vw9.heap.size + 1 := by omega
  have qx0_10 : gx0 < vw9.heap.size + 1 := by omega
  have qx1_10 : gx1 < vw9.heap.size + 1 := by omega
  have qx3_10 : gx3 < vw9.heap.size + 1 := by omega
  have qx4_10 : gx4 < vw9.heap.size + 1 := by omega
  have qx5_10 : gx5 < vw9.heap.size + 1 := by omega
  have qx6_10 : gx6 < vw9.heap.size + 1 := by omega
  have qx7_10 : gx7 < vw9.heap.size + 1 := by omega
  have qx8_10 : gx8 < vw9.heap.size + 1 := by omega
  generalize hx10 : vw9.heap.size + 1 = gx10 at *
  clear hx10
  clear hsz mx0 mx1 mx3 mx4 mx5 mx6 mx7 mx8
  have HZ14 : Hid (Nat.gcd (b) (0) = b) := Lib.hid (by first | omega | (try simp only [← HZ5.out]) <;> first | rfl | omega | (simp; done) | exact Nat.mod_lt _ (by assumption) | exact Nat.div_add_mod' _ _ | exact Nat.gcd_comm _ _ | exact Nat.gcd_zero_left _ | exact Nat.gcd_mul_left _ _ _ | exact (Nat.gcd_mul_left _ _ _).symm | exact Nat.div_self (by assumption) | exact dv1 _ _ _ (by assumption) | exact dv2 _ _ _ | exact gc1 _ _ | exact gc2 _ _ (by assumption) | exact gc3 _ _ (by assumption) | exact gc4 _ _ (by assumption) | exact gc5 _ _ | exact gc6 _ _ | grind)
  have su14 : wl (b) ≤ 12 := by have e := HZ14.out; first | omega | (rw [← e]; have := wl_gcd (b) (0); omega)
  have lx1 := bx1.cells
  have lx3 := bx3.cells
  have lx10 := bx10.cells
  have BX1 := Lib.hid bx1
  have BX3 := Lib.hid bx3
  have BX4 := Lib.hid bx4
  have BX5 := Lib.hid bx5
  have BX6 := Lib.hid bx6
  have BX7 := Lib.hid bx7
  have BX8 := Lib.hid bx8
  have BX10 := Lib.hid bx10
  clear bx1 bx3 bx4 bx5 bx6 bx7 bx8 bx10
  refine sK fun K hK => ?_
  refine wp_region_plan 7 [] [] (fun _ => 0) (fun _ => .cells #[] 0) [(true, 0), (true, 1), (true, 2), (true, 3), (true, 5), (true, 4), (true, 6)] (by kernel_rfl) (by kernel_rfl) (fun i hi => by cases hi) (fun i hi => by cases hi) (fun _ _ _ _ _ h => h) (fun T hT => ?_)
  iterate 5 (refine wpPlan_takeL (v := ?_) rfl (by rfl) (fun w' hw => ?_) ?_; rotate_left; go_simp; with_reducible rfl; simp only [Act.put, rA, rB, rC])
  refine wpPlan_callL rfl (by rfl) Tryd.call25 (fun w' hw => nzgcd (b) (0) (b) _ HZ14.out (by omega) (by omega)) (by rfl) ?_
  simp only [Act.put, rA, rB, rC]
  refine wpPlan_takeL (v := ?_) rfl (by rfl) (fun w' hw => ?_) ?_; rotate_left; go_simp; with_reducible rfl; simp only [Act.put, rA, rB, rC]
  refine wpPlan_nil (hT.out _ _ ?_); clear hT T
  intro G vw10 hg hf
  simp only [puts, Act.put, rA, rB, rC, rD, rE, ↓reduceIte, Nat.reduceEqDiff]
  clear lx1 lx3 lx10
  have HG := Lib.hid (hg)
  clear hg
  replace BX1 := bG BX1 HG
  replace BX3 := bG BX3 HG
  replace BX4 := bG BX4 HG
  replace BX5 := bG BX5 HG
  replace BX6 := bG BX6 HG
  replace BX7 := bG BX7 HG
  replace BX8 := bG BX8 HG
  replace BX10 := bG BX10 HG
  have r0 := Gr.refl vw10
  go_wp2
  refine hK.out _ _ ?_; clear hK K
  show Code.wp _ _ _ _ _
  clear r0
  refine forgetW (fun w2 => Bx w2 gx4 26 #[.int .u64 0, .string ⟨#[]⟩] ∧ NX w2 gx5 (0) ∧ NX w2 gx6 (0) ∧ NX w2 gx7 (1) ∧ NX w2 gx8 (0) ∧ Below w.heap.size w w2) ⟨BX4.out, BX5.out, BX6.out, BX7.out, BX8.out, HB.out.trans (HG.out.mono HB.out.size)⟩ ?_
  clear HB HG BX1 BX3 BX4 BX5 BX6 BX7 BX8 BX10
  rintro Wx13 ⟨bx4, bx5, bx6, bx7, bx8, HB⟩
  replace HB := Lib.hid HB
  refine wp_cond_false (by rfl) ?_
  refine wp_skip ?_
  show Code.wp _ _ _ _ _
  have HZ15 : Hid (Nat.gcd (0) (1) = 1) := Lib.hid (by first | omega | (try simp only [← HZ5.out]) <;> first | rfl | omega | (simp; done) | exact Nat.mod_lt _ (by assumption) | exact Nat.div_add_mod' _ _ | exact Nat.gcd_comm _ _ | exact Nat.gcd_zero_left _ | exact Nat.gcd_mul_left _ _ _ | exact (Nat.gcd_mul_left _ _ _).symm | exact Nat.div_self (by assumption) | exact dv1 _ _ _ (by assumption) | exact dv2 _ _ _ | exact gc1 _ _ | exact gc2 _ _ (by assumption) | exact gc3 _ _ (by assumption) | exact gc4 _ _ (by assumption) | exact gc5 _ _ | exact gc6 _ _ | grind)
  have su15 : wl (1) ≤ 12 := by have e := HZ15.out; first | omega | (rw [← e]; have := wl_gcd (0) (1); omega) | exact wl_le.2 (by decide +kernel)
  have su_0_15 : wl 1 ≤ 1 := wl_le.2 (by decide +kernel)
  have lx4 := bx4.cells
  have lx5 := bx5.cells
  have lx6 := bx6.cells
  have lx7 := bx7.cells
  have lx8 := bx8.cells
  have BX4 := Lib.hid bx4
  have BX5 := Lib.hid bx5
  have BX6 := Lib.hid bx6
  have BX7 := Lib.hid bx7
  have BX8 := Lib.hid bx8
  clear bx4 bx5 bx6 bx7 bx8
  refine sK fun K hK => ?_
  refine wp_region_seqplan 19 [(true, 0), (true, 1), (true, 2), (true, 3), (true, 4), (true, 5), (true, 6), (true, 7), (true, 8), (true, 9), (true, 10), (true, 11), (true, 12), (true, 13), (true, 14), (true, 15), (true, 16), (true, 17), (true, 18)] (by rfl) (by simp) (fun T hT => ?_)
  iterate 11 (refine wpPlan_takeL (v := ?_) rfl (by rfl) (fun w' hw => ?_) ?_; rotate_left; go_simp; with_reducible rfl; simp only [Act.put, rA, rB, rC])
  refine wpPlan_callL rfl (by rfl) Tryd.call25 (fun w' hw => nzgcd (0) (1) (1) _ HZ15.out (by omega) (by omega)) (by rfl) ?_
  simp only [Act.put, rA, rB, rC]
  refine wpPlan_callL rfl (by rfl) Tryd.call38 (fun w' hw => nzof 1 _ (by decide)) (by rfl) ?_
  simp only [Act.put, rA, rB, rC]
  iterate 3 (refine wpPlan_takeL (v := ?_) rfl (by rfl) (fun w' hw => ?_) ?_; rotate_left; go_simp; with_reducible rfl; simp only [Act.put, rA, rB, rC])
  refine wpPlan_callL rfl (by rfl) Tryd.call12 (fun w' hw => works_any _ (Lib.hid (HT.out.gr (Gr.trans HB.out hw)))) (by rfl) ?_
  simp only [Act.put, rA, rB, rC]
  iterate 2 (refine wpPlan_takeL (v := ?_) rfl (by rfl) (fun w' hw => ?_) ?_; rotate_left; go_simp; with_reducible rfl; simp only [Act.put, rA, rB, rC])
  refine wpPlan_nil (hT.out _ _ ?_); clear hT T
  intro vw11 hg
  simp only [puts, Act.put, rA, rB, rC, rD, rE, ↓reduceIte, Nat.reduceEqDiff]
  clear lx4 lx5 lx6 lx7 lx8
  have HG := Lib.hid (hg)
  clear hg
  replace BX4 := bG BX4 HG
  replace BX5 := bG BX5 HG
  replace BX6 := bG BX6 HG
  replace BX7 := bG BX7 HG
  replace BX8 := bG BX8 HG
  have r0 := Gr.refl vw11
  go_wp2
  refine hK.out _ _ ?_; clear hK K
  show Code.wp _ _ _ _ _
  clear r0
  refine forgetW (fun w2 => Below w.heap.size w w2) (HB.out.trans (HG.out.mono HB.out.size)) ?_
  clear HB HG BX4 BX5 BX6 BX7 BX8
  rintro Wx15 HB
  replace HB := Lib.hid HB
  refine wp_ret ?_
  try simp only [Exit.then, Exit.inBlock]
  have r0 := Gr.refl Wx15
  exact bodyPost_ret (v := .bool true) (by simp [results, Tryd.results8, go_sem]) rfl ⟨rfl, HB.out⟩

set_option maxRecDepth 100000 in
set_option maxHeartbeats 4000000 in
theorem sor_both (vx : Value) (kx : Nat) (fx : Nat → Nat) (vy : Value) (ky : Nat) (fy : Nat → Nat) (vz : Value) (kz : Nat) (fz : Nat → Nat) (a b c : Nat)  (w : World) (HWx : Hid (Wa w vx kx fx)) (HFx : Hid (∀ i, i < kx → fx i < 4294967296)) (HVx : Hid (vl fx kx = a)) (HWy : Hid (Wa w vy ky fy)) (HFy : Hid (∀ i, i < ky → fy i < 4294967296)) (HVy : Hid (vl fy ky = b)) (HWz : Hid (Wa w vz kz fz)) (HFz : Hid (∀ i, i < kz → fz i < 4294967296)) (HVz : Hid (vl fz kz = c)) (hkx : kx ≤ 12) (hky : ky ≤ 12) (hkz : kz ≤ 6) (ha0 : 0 < a) (hb0 : 0 < b) (HT : Hid (Tab w)) :
    Calls Tryd.prog 8 #[vx, vy, vz] w fun e w' => e = .returned (.bool true) ∧ Below w.heap.size w w' := by
  obtain ⟨ao_x, c_x, rfl⟩ := HWx.out.slice
  obtain ⟨ao_y, c_y, rfl⟩ := HWy.out.slice
  obtain ⟨ao_z, c_z, rfl⟩ := HWz.out.slice
  have hb_a : wl a ≤ 12 := by rw [← HVx.out]; have := wl_le.2 (vl_lt HFx.out); omega
  have hb_b : wl b ≤ 12 := by rw [← HVy.out]; have := wl_le.2 (vl_lt HFy.out); omega
  have hb_c : wl c ≤ 6 := by rw [← HVz.out]; have := wl_le.2 (vl_lt HFz.out); omega
  go_enter Tryd.func8, Tryd.ntmps8
  refine sK fun K hK => ?_
  refine wp_region_lit ?_
  go_wp2
  refine hK.out _ _ ?_; clear hK K
  show Code.wp _ _ _ _ _
  refine forgetW (fun w2 => Below w.heap.size w w2) (Below.refl _ _) ?_
  rintro Wx HB
  replace HB := Lib.hid HB
  refine wp_seq ?_
  have hd1 : ¬ (12 < ((kx : Int))) := by omega
  have hd2 : ¬ (12 < ((ky : Int))) := by omega
  have hd3 : ¬ (6 < ((kz : Int))) := by omega
  refine sK fun K hK => ?_
  refine wp_region_seqplan 13 [(true, 0), (true, 1), (true, 2), (true, 3), (true, 4), (true, 5), (true, 6), (true, 7), (true, 8), (true, 9), (true, 10), (true, 11), (true, 12)] (by rfl) (by simp) (fun T hT => ?_)
  iterate 13 (refine wpPlan_takeL (v := ?_) rfl (by rfl) (fun w' hw => ?_) ?_; rotate_left; go_simp; with_reducible rfl; simp only [Act.put, rA, rB, rC])
  refine wpPlan_nil (hT.out _ _ ?_); clear hT T
  intro vw1 hg
  simp only [puts, Act.put, rA, rB, rC, rD, rE, ↓reduceIte, Nat.reduceEqDiff]
  have HG := Lib.hid (hg)
  clear hg
  have r0 := Gr.refl vw1
  go_wp2
  refine hK.out _ _ ?_; clear hK K
  show Code.wp _ _ _ _ _
  clear r0
  refine forgetW (fun w2 => Below w.heap.size w w2) (HB.out.trans (HG.out.mono HB.out.size)) ?_
  clear HB HG
  rintro Wx1 HB
  replace HB := Lib.hid HB
  clear hd1 hd2 hd3
  refine wp_cond_false (by rfl) ?_
  refine wp_skip ?_
  show Code.wp _ _ _ _ _
  refine sK fun K hK => ?_
  refine wp_region_seqplan 6 [(true, 0), (true, 1), (true, 2), (true, 3), (true, 4), (true, 5)] (by rfl) (by simp) (fun T hT => ?_)
  refine wpPlan_takeL (v := ?_) rfl (by rfl) (fun w' hw => ?_) ?_; rotate_left; go_simp; with_reducible rfl; simp only [Act.put, rA, rB, rC]
  refine wpPlan_callL rfl (by rfl) Tryd.call13 (fun w' hw => zmade _ kx fx a w _ HVx.out (by omega) HWx.out (Gr.trans HB.out hw) HFx.out) (by rfl) ?_
  simp only [Act.put, rA, rB, rC]
  refine wpPlan_takeL (v := ?_) rfl (by rfl) (fun w' hw => ?_) ?_; rotate_left; go_simp; with_reducible rfl; simp only [Act.put, rA, rB, rC]
  refine wpPlan_callL rfl (by rfl) Tryd.call13 (fun w' hw => zmade _ ky fy b w _ HVy.out (by omega) HWy.out (Gr.trans HB.out hw) HFy.out) (by rfl) ?_
  simp only [Act.put, rA, rB, rC]
  refine wpPlan_takeL (v := ?_) rfl (by rfl) (fun w' hw => ?_) ?_; rotate_left; go_simp; with_reducible rfl; simp only [Act.put, rA, rB, rC]
  refine wpPlan_callL rfl (by rfl) Tryd.call13 (fun w' hw => zmade _ kz fz c w _ HVz.out (by omega) HWz.out (Gr.trans HB.out hw) HFz.out) (by rfl) ?_
  simp only [Act.put, rA, rB, rC]
  refine wpPlan_nil (hT.out _ _ ?_); clear hT T
  intro vw2 hg
  simp only [puts, Act.put, rA, rB, rC, rD, rE, ↓reduceIte, Nat.reduceEqDiff]
  have HG := Lib.hid (hg)
  clear hg
  have r0 := Gr.refl vw2
  go_wp2
  refine hK.out _ _ ?_; clear hK K
  show Code.wp _ _ _ _ _
  clear r0
  have hsz : w.heap.size ≤ vw2.heap.size := Nat.le_trans HB.out.size HG.out.size
  refine forgetW (fun w2 => NX w2 (vw2.heap.size) (a) ∧ NX w2 (vw2.heap.size + 1) (b) ∧ NX w2 (vw2.heap.size + 1 + 1) (c) ∧ Below w.heap.size w w2) ⟨(((Bx.at (by simp) : Bx _ (vw2.heap.size) _ _)).alloc _).alloc _, ((Bx.at (by simp) : Bx _ (vw2.heap.size + 1) _ _)).alloc _, (Bx.at (by simp) : Bx _ (vw2.heap.size + 1 + 1) _ _), (((HB.out.trans (HG.out.mono HB.out.size)).alloc (by first | omega | (simp; omega)) _).alloc (by first | omega | (simp; omega)) _).alloc (by first | omega | (simp; omega)) _⟩ ?_
  clear HB HG
  rintro Wx3 ⟨bx0, bx1, bx2, HB⟩
  replace HB := Lib.hid HB
  have qx0_1 : vw2.heap.size < vw2.heap.size + 1 := by omega
  have qx0_2 : vw2.heap.size < vw2.heap.size + 1 + 1 := by omega
  have qx1_2 : vw2.heap.size + 1 < vw2.heap.size + 1 + 1 := by omega
  have yx2 : w.heap.size ≤ vw2.heap.size + 1 + 1 := by omega
  generalize hx2 : vw2.heap.size + 1 + 1 = gx2 at *
  clear hx2
  have yx1 : w.heap.size ≤ vw2.heap.size + 1 := by omega
  generalize hx1 : vw2.heap.size + 1 = gx1 at *
  clear hx1
  have yx0 : w.heap.size ≤ vw2.heap.size := by omega
  generalize hx0 : vw2.heap.size = gx0 at *
  clear hx0
  clear hsz
  obtain ⟨u1, HZ1⟩ : ∃ z, Hid (Nat.gcd (a) (b) = z) := ⟨_, Lib.hid rfl⟩
  have su1 : wl (u1) ≤ 12 := by rw [← HZ1.out]; have := wl_gcd (a) (b); omega
  have lx0 := bx0.cells
  have lx1 := bx1.cells
  have BX0 := Lib.hid bx0
  have BX1 := Lib.hid bx1
  have BX2 := Lib.hid bx2
  clear bx0 bx1 bx2
  refine sK fun K hK => ?_
  refine wp_region_seqplan 3 [(true, 0), (true, 1), (true, 2)] (by rfl) (by simp) (fun T hT => ?_)
  iterate 2 (refine wpPlan_takeL (v := ?_) rfl (by rfl) (fun w' hw => ?_) ?_; rotate_left; go_simp; with_reducible rfl; simp only [Act.put, rA, rB, rC])
  refine wpPlan_callL rfl (by rfl) Tryd.call25 (fun w' hw => nzgcd (a) (b) (u1) _ HZ1.out (by omega) (by omega)) (by rfl) ?_
  simp only [Act.put, rA, rB, rC]
  refine wpPlan_nil (hT.out _ _ ?_); clear hT T
  intro vw3 hg
  simp only [puts, Act.put, rA, rB, rC, rD, rE, ↓reduceIte, Nat.reduceEqDiff]
  clear lx0 lx1
  have HG := Lib.hid (hg)
  clear hg
  replace BX0 := bG BX0 HG
  replace BX1 := bG BX1 HG
  replace BX2 := bG BX2 HG
  have r0 := Gr.refl vw3
  go_wp2
  refine hK.out _ _ ?_; clear hK K
  show Code.wp _ _ _ _ _
  clear r0
  have hsz : w.heap.size ≤ vw3.heap.size := Nat.le_trans HB.out.size HG.out.size
  have mx0 : gx0 < vw3.heap.size := BX0.out.lt
  have mx1 : gx1 < vw3.heap.size := BX1.out.lt
  have mx2 : gx2 < vw3.heap.size := BX2.out.lt
  refine forgetW (fun w2 => NX w2 gx0 (a) ∧ NX w2 gx1 (b) ∧ NX w2 gx2 (c) ∧ NX w2 (vw3.heap.size) (u1) ∧ Below w.heap.size w w2) ⟨(BX0.out).alloc _, (BX1.out).alloc _, (BX2.out).alloc _, (Bx.at (by simp) : Bx _ (vw3.heap.size) _ _), (HB.out.trans (HG.out.mono HB.out.size)).alloc (by first | omega | (simp; omega)) _⟩ ?_
  clear HB HG BX0 BX1 BX2
  rintro Wx4 ⟨bx0, bx1, bx2, bx3, HB⟩
  replace HB := Lib.hid HB
  have yx3 : w.heap.size ≤ vw3.heap.size := by omega
  have qx0_3 : gx0 < vw3.heap.size := by omega
  have qx1_3 : gx1 < vw3.heap.size := by omega
  have qx2_3 : gx2 < vw3.heap.size := by omega
  generalize hx3 : vw3.heap.size = gx3 at *
  clear hx3
  clear hsz mx0 mx1 mx2
  have BX0 := Lib.hid bx0
  have BX1 := Lib.hid bx1
  have BX2 := Lib.hid bx2
  have BX3 := Lib.hid bx3
  clear bx0 bx1 bx2 bx3
  refine sK fun K hK => ?_
  refine wp_region_seqplan 0 [] (by rfl) (by simp) (fun T hT => ?_)
  refine wpPlan_nil (hT.out _ _ ?_); clear hT T
  intro vw4 hg
  simp only [puts, Act.put, rA, rB, rC, rD, rE, ↓reduceIte, Nat.reduceEqDiff]
  have HG := Lib.hid (hg)
  clear hg
  replace BX0 := bG BX0 HG
  replace BX1 := bG BX1 HG
  replace BX2 := bG BX2 HG
  replace BX3 := bG BX3 HG
  have r0 := Gr.refl vw4
  go_wp2
  refine hK.out _ _ ?_; clear hK K
  show Code.wp _ _ _ _ _
  clear r0
  have hsz : w.heap.size ≤ vw4.heap.size := Nat.le_trans HB.out.size HG.out.size
  have mx0 : gx0 < vw4.heap.size := BX0.out.lt
  have mx1 : gx1 < vw4.heap.size := BX1.out.lt
  have mx2 : gx2 < vw4.heap.size := BX2.out.lt
  have mx3 : gx3 < vw4.heap.size := BX3.out.lt
  refine forgetW (fun w2 => NX w2 gx0 (a) ∧ NX w2 gx1 (b) ∧ NX w2 gx2 (c) ∧ NX w2 gx3 (u1) ∧ Bx w2 (vw4.heap.size) 26 #[.int .u64 0, .string ⟨#[]⟩] ∧ Below w.heap.size w w2) ⟨(BX0.out).alloc _, (BX1.out).alloc _, (BX2.out).alloc _, (BX3.out).alloc _, (Bx.at (by simp) : Bx _ (vw4.heap.size) _ _), (HB.out.trans (HG.out.mono HB.out.size)).alloc (by first | omega | (simp; omega)) _⟩ ?_
  clear HB HG BX0 BX1 BX2 BX3
  rintro Wx5 ⟨bx0, bx1, bx2, bx3, bx4, HB⟩
  replace HB := Lib.hid HB
  have yx4 : w.heap.size ≤ vw4.heap.size := by omega
  have qx0_4 : gx0 < vw4.heap.size := by omega
  have qx1_4 : gx1 < vw4.heap.size := by omega
  have qx2_4 : gx2 < vw4.heap.size := by omega
  have qx3_4 : gx3 < vw4.heap.size := by omega
  generalize hx4 : vw4.heap.size = gx4 at *
  clear hx4
  clear hsz mx0 mx1 mx2 mx3
  refine wp_seq ?_
  have HZ2 : Hid (Nat.gcd (b) (a) = u1) := Lib.hid (by first | omega | (try simp only [← HZ1.out]) <;> first | rfl | omega | (simp; done) | exact Nat.mod_lt _ (by assumption) | exact Nat.div_add_mod' _ _ | exact Nat.gcd_comm _ _ | exact Nat.gcd_zero_left _ | exact Nat.gcd_mul_left _ _ _ | exact (Nat.gcd_mul_left _ _ _).symm | exact Nat.div_self (by assumption) | exact dv1 _ _ _ (by assumption) | exact dv2 _ _ _ | exact gc1 _ _ | exact gc2 _ _ (by assumption) | exact gc3 _ _ (by assumption) | exact gc4 _ _ (by assumption) | exact gc5 _ _ | exact gc6 _ _ | grind)
  have su2 : wl (u1) ≤ 12 := by have e := HZ2.out; first | omega | (rw [← e]; have := wl_gcd (b) (a); omega)
  have HZ3 : Hid (Nat.gcd (a) (0) = a) := Lib.hid (by first | omega | (try simp only [← HZ1.out]) <;> first | rfl | omega | (simp; done) | exact Nat.mod_lt _ (by assumption) | exact Nat.div_add_mod' _ _ | exact Nat.gcd_comm _ _ | exact Nat.gcd_zero_left _ | exact Nat.gcd_mul_left _ _ _ | exact (Nat.gcd_mul_left _ _ _).symm | exact Nat.div_self (by assumption) | exact dv1 _ _ _ (by assumption) | exact dv2 _ _ _ | exact gc1 _ _ | exact gc2 _ _ (by assumption) | exact gc3 _ _ (by assumption) | exact gc4 _ _ (by assumption) | exact gc5 _ _ | exact gc6 _ _ | grind)
  have su3 : wl (a) ≤ 12 := by have e := HZ3.out; first | omega | (rw [← e]; have := wl_gcd (a) (0); omega)
  obtain ⟨u4, HZ4⟩ : ∃ z, Hid ((c) * (a) = z) := ⟨_, Lib.hid rfl⟩
  have su4 : wl (u4) ≤ 18 := by rw [← HZ4.out]; have := wl_mul (c) (a); omega
  obtain ⟨u5, HZ5⟩ : ∃ z, Hid ((c) * (b) = z) := ⟨_, Lib.hid rfl⟩
  have su5 : wl (u5) ≤ 18 := by rw [← HZ5.out]; have := wl_mul (c) (b); omega
  obtain ⟨u6, HZ6⟩ : ∃ z, Hid (Nat.gcd (u4) (u5) = z) := ⟨_, Lib.hid rfl⟩
  have su6 : wl (u6) ≤ 18 := by rw [← HZ6.out]; have := wl_gcd (u4) (u5); omega
  have HZ7 : Hid ((c) * (u1) = u6) := Lib.hid (by first | omega | (try simp only [← HZ6.out, ← HZ5.out, ← HZ4.out, ← HZ1.out]) <;> first | rfl | omega | (simp; done) | exact Nat.mod_lt _ (by assumption) | exact Nat.div_add_mod' _ _ | exact Nat.gcd_comm _ _ | exact Nat.gcd_zero_left _ | exact Nat.gcd_mul_left _ _ _ | exact (Nat.gcd_mul_left _ _ _).symm | exact Nat.div_self (by assumption) | exact dv1 _ _ _ (by assumption) | exact dv2 _ _ _ | exact gc1 _ _ | exact gc2 _ _ (by assumption) | exact gc3 _ _ (by assumption) | exact gc4 _ _ (by assumption) | exact gc5 _ _ | exact gc6 _ _ | grind)
  have su7 : wl (u6) ≤ 18 := by have e := HZ7.out; first | omega | (rw [← e]; have := wl_mul (c) (u1); omega)
  have hd4 : decide (u1 = 0) = false := decide_eq_false (by first | omega | (try simp only [← HZ6.out, ← HZ5.out, ← HZ4.out, ← HZ1.out]) <;> first | rfl | omega | (simp; done) | exact Nat.mod_lt _ (by assumption) | exact Nat.div_add_mod' _ _ | exact Nat.gcd_comm _ _ | exact Nat.gcd_zero_left _ | exact Nat.gcd_mul_left _ _ _ | exact (Nat.gcd_mul_left _ _ _).symm | exact Nat.div_self (by assumption) | exact dv1 _ _ _ (by assumption) | exact dv2 _ _ _ | exact gc1 _ _ | exact gc2 _ _ (by assumption) | exact gc3 _ _ (by assumption) | exact gc4 _ _ (by assumption) | exact gc5 _ _ | exact gc6 _ _ | grind)
  have hd5 : decide (a = 0) = false := decide_eq_false (by first | omega | (try simp only [← HZ6.out, ← HZ5.out, ← HZ4.out, ← HZ1.out]) <;> first | rfl | omega | (simp; done) | exact Nat.mod_lt _ (by assumption) | exact Nat.div_add_mod' _ _ | exact Nat.gcd_comm _ _ | exact Nat.gcd_zero_left _ | exact Nat.gcd_mul_left _ _ _ | exact (Nat.gcd_mul_left _ _ _).symm | exact Nat.div_self (by assumption) | exact dv1 _ _ _ (by assumption) | exact dv2 _ _ _ | exact gc1 _ _ | exact gc2 _ _ (by assumption) | exact gc3 _ _ (by assumption) | exact gc4 _ _ (by assumption) | exact gc5 _ _ | exact gc6 _ _ | grind)
  have lx0 := bx0.cells
  have lx1 := bx1.cells
  have lx2 := bx2.cells
  have lx3 := bx3.cells
  have lx4 := bx4.cells
  have BX0 := Lib.hid bx0
  have BX1 := Lib.hid bx1
  have BX2 := Lib.hid bx2
  have BX3 := Lib.hid bx3
  have BX4 := Lib.hid bx4
  clear bx0 bx1 bx2 bx3 bx4
  refine sK fun K hK => ?_
  refine wp_region_plan 38 [] [] (fun _ => 0) (fun _ => .cells #[] 0) [(true, 0), (true, 1), (true, 2), (true, 3), (true, 4), (true, 5), (true, 6), (true, 7), (true, 9), (true, 8), (true, 10), (true, 11), (true, 12), (true, 13), (true, 14), (true, 16), (true, 17), (true, 20), (true, 21), (true, 15), (true, 18), (true, 19), (true, 22), (true, 23), (true, 24), (true, 25), (true, 26), (true, 27), (true, 28), (true, 29), (true, 30), (true, 31), (true, 32), (true, 33), (true, 34), (true, 35), (true, 36), (true, 37)] (by kernel_rfl) (by kernel_rfl) (fun i hi => by cases hi) (fun i hi => by cases hi) (fun _ _ _ _ _ h => h) (fun T hT => ?_)
  iterate 3 (refine wpPlan_takeL (v := ?_) rfl (by rfl) (fun w' hw => ?_) ?_; rotate_left; go_simp; with_reducible rfl; simp only [Act.put, rA, rB, rC])
  refine wpPlan_callL rfl (by rfl) Tryd.call25 (fun w' hw => nzgcd (b) (a) (u1) _ HZ2.out (by omega) (by omega)) (by rfl) ?_
  simp only [Act.put, rA, rB, rC]
  iterate 5 (refine wpPlan_takeL (v := ?_) rfl (by rfl) (fun w' hw => ?_) ?_; rotate_left; go_simp; with_reducible rfl; simp only [Act.put, rA, rB, rC])
  refine wpPlan_callL rfl (by rfl) Tryd.call25 (fun w' hw => nzgcd (a) (0) (a) _ HZ3.out (by first | omega | exact wlc (by decide)) (by first | omega | exact wlc (by decide))) (by rfl) ?_
  simp only [Act.put, rA, rB, rC]
  iterate 9 (refine wpPlan_takeL (v := ?_) rfl (by rfl) (fun w' hw => ?_) ?_; rotate_left; go_simp; with_reducible rfl; simp only [Act.put, rA, rB, rC])
  refine wpPlan_callL rfl (by rfl) Tryd.call23 (fun w' hw => nzmul (c) (a) (u4) _ HZ4.out (by omega) (by omega)) (by rfl) ?_
  simp only [Act.put, rA, rB, rC]
  refine wpPlan_callL rfl (by rfl) Tryd.call23 (fun w' hw => nzmul (c) (b) (u5) _ HZ5.out (by omega) (by omega)) (by rfl) ?_
  simp only [Act.put, rA, rB, rC]
  refine wpPlan_callL rfl (by rfl) Tryd.call25 (fun w' hw => nzgcd (u4) (u5) (u6) _ HZ6.out (by omega) (by omega)) (by rfl) ?_
  simp only [Act.put, rA, rB, rC]
  refine wpPlan_callL rfl (by rfl) Tryd.call23 (fun w' hw => nzmul (c) (u1) (u6) _ HZ7.out (by omega) (by omega)) (by rfl) ?_
  simp only [Act.put, rA, rB, rC]
  iterate 10 (refine wpPlan_takeL (v := ?_) rfl (by rfl) (fun w' hw => ?_) ?_; rotate_left; go_simp; with_reducible rfl; simp only [Act.put, rA, rB, rC])
  iterate 3 (refine wpPlan_skipL rfl (by rfl) ?_; simp only [Act.put, rA, rB, rC])
  iterate 2 (refine wpPlan_takeL (v := ?_) rfl (by rfl) (fun w' hw => ?_) ?_; rotate_left; go_simp; with_reducible rfl; simp only [Act.put, rA, rB, rC])
  refine wpPlan_nil (hT.out _ _ ?_); clear hT T
  intro G vw5 hg hf
  simp only [puts, Act.put, rA, rB, rC, rD, rE, ↓reduceIte, Nat.reduceEqDiff]
  clear lx0 lx1 lx2 lx3 lx4
  have HG := Lib.hid (hg)
  clear hg
  replace BX0 := bG BX0 HG
  replace BX1 := bG BX1 HG
  replace BX2 := bG BX2 HG
  replace BX3 := bG BX3 HG
  replace BX4 := bG BX4 HG
  have r0 := Gr.refl vw5
  go_wp2
  refine hK.out _ _ ?_; clear hK K
  show Code.wp _ _ _ _ _
  clear r0
  refine forgetW (fun w2 => NX w2 gx0 (a) ∧ NX w2 gx1 (b) ∧ NX w2 gx3 (u1) ∧ Bx w2 gx4 26 #[.int .u64 0, .string ⟨#[]⟩] ∧ Below w.heap.size w w2) ⟨BX0.out, BX1.out, BX3.out, BX4.out, HB.out.trans (HG.out.mono HB.out.size)⟩ ?_
  clear HB HG BX0 BX1 BX2 BX3 BX4
  rintro Wx6 ⟨bx0, bx1, bx3, bx4, HB⟩
  replace HB := Lib.hid HB
  clear hd4 hd5
  refine wp_cond_false (by rfl) ?_
  refine wp_skip ?_
  show Code.wp _ _ _ _ _
  refine wp_seq ?_
  have hd6 : decide (u1 = 0) = false := decide_eq_false (by first | omega | (try simp only [← HZ6.out, ← HZ5.out, ← HZ4.out, ← HZ1.out]) <;> first | rfl | omega | (simp; done) | exact Nat.mod_lt _ (by assumption) | exact Nat.div_add_mod' _ _ | exact Nat.gcd_comm _ _ | exact Nat.gcd_zero_left _ | exact Nat.gcd_mul_left _ _ _ | exact (Nat.gcd_mul_left _ _ _).symm | exact Nat.div_self (by assumption) | exact dv1 _ _ _ (by assumption) | exact dv2 _ _ _ | exact gc1 _ _ | exact gc2 _ _ (by assumption) | exact gc3 _ _ (by assumption) | exact gc4 _ _ (by assumption) | exact gc5 _ _ | exact gc6 _ _ | grind)
  have lx3 := bx3.cells
  have lx4 := bx4.cells
  have BX0 := Lib.hid bx0
  have BX1 := Lib.hid bx1
  have BX3 := Lib.hid bx3
  have BX4 := Lib.hid bx4
  clear bx0 bx1 bx3 bx4
  refine sK fun K hK => ?_
  refine wp_region_seqplan 3 [(true, 0), (true, 1), (true, 2)] (by rfl) (by simp) (fun T hT => ?_)
  iterate 3 (refine wpPlan_takeL (v := ?_) rfl (by rfl) (fun w' hw => ?_) ?_; rotate_left; go_simp; with_reducible rfl; simp only [Act.put, rA, rB, rC])
  refine wpPlan_nil (hT.out _ _ ?_); clear hT T
  intro vw6 hg
  simp only [puts, Act.put, rA, rB, rC, rD, rE, ↓reduceIte, Nat.reduceEqDiff]
  clear lx3 lx4
  have HG := Lib.hid (hg)
  clear hg
  replace BX0 := bG BX0 HG
  replace BX1 := bG BX1 HG
  replace BX3 := bG BX3 HG
  replace BX4 := bG BX4 HG
  have r0 := Gr.refl vw6
  go_wp2
  refine hK.out _ _ ?_; clear hK K
  show Code.wp _ _ _ _ _
  clear r0
  refine forgetW (fun w2 => NX w2 gx0 (a) ∧ NX w2 gx1 (b) ∧ NX w2 gx3 (u1) ∧ Bx w2 gx4 26 #[.int .u64 0, .string ⟨#[]⟩] ∧ Below w.heap.size w w2) ⟨BX0.out, BX1.out, BX3.out, BX4.out, HB.out.trans (HG.out.mono HB.out.size)⟩ ?_
  clear HB HG BX0 BX1 BX3 BX4
  rintro Wx8 ⟨bx0, bx1, bx3, bx4, HB⟩
  replace HB := Lib.hid HB
  clear hd6
  refine wp_cond_false (by rfl) ?_
  refine wp_skip ?_
  show Code.wp _ _ _ _ _
  obtain ⟨u8, HZ8⟩ : ∃ z, Hid ((a) / (u1) = z) := ⟨_, Lib.hid rfl⟩
  have su8 : wl (u8) ≤ 12 := by rw [← HZ8.out]; have := wl_div (a) (u1); omega
  have HZ9 : Hid ((a) % (u1) = 0) := Lib.hid (by first | omega | (try simp only [← HZ8.out, ← HZ6.out, ← HZ5.out, ← HZ4.out, ← HZ1.out]) <;> first | rfl | omega | (simp; done) | exact Nat.mod_lt _ (by assumption) | exact Nat.div_add_mod' _ _ | exact Nat.gcd_comm _ _ | exact Nat.gcd_zero_left _ | exact Nat.gcd_mul_left _ _ _ | exact (Nat.gcd_mul_left _ _ _).symm | exact Nat.div_self (by assumption) | exact dv1 _ _ _ (by assumption) | exact dv2 _ _ _ | exact gc1 _ _ | exact gc2 _ _ (by assumption) | exact gc3 _ _ (by assumption) | exact gc4 _ _ (by assumption) | exact gc5 _ _ | exact gc6 _ _ | grind)
  have su9 : wl (0) ≤ 12 := by have e := HZ9.out; first | omega | (rw [← e]; have := wl_mod (a) (u1); omega) | exact wl_le.2 (by decide +kernel)
  have lx0 := bx0.cells
  have lx3 := bx3.cells
  have BX0 := Lib.hid bx0
  have BX1 := Lib.hid bx1
  have BX3 := Lib.hid bx3
  have BX4 := Lib.hid bx4
  clear bx0 bx1 bx3 bx4
  refine sK fun K hK => ?_
  refine wp_region_seqplan 7 [(true, 0), (true, 1), (true, 2), (true, 3), (true, 4), (true, 5), (true, 6)] (by rfl) (by simp) (fun T hT => ?_)
  iterate 2 (refine wpPlan_takeL (v := ?_) rfl (by rfl) (fun w' hw => ?_) ?_; rotate_left; go_simp; with_reducible rfl; simp only [Act.put, rA, rB, rC])
  refine wpPlan_callL rfl (by rfl) Tryd.call22 (fun w' hw => nzdiv (a) (u1) (u8) (0) _ HZ8.out HZ9.out (by first | omega | (try simp only [← HZ8.out, ← HZ6.out, ← HZ5.out, ← HZ4.out, ← HZ1.out]) <;> first | rfl | omega | (simp; done) | exact Nat.mod_lt _ (by assumption) | exact Nat.div_add_mod' _ _ | exact Nat.gcd_comm _ _ | exact Nat.gcd_zero_left _ | exact Nat.gcd_mul_left _ _ _ | exact (Nat.gcd_mul_left _ _ _).symm | exact Nat.div_self (by assumption) | exact dv1 _ _ _ (by assumption) | exact dv2 _ _ _ | exact gc1 _ _ | exact gc2 _ _ (by assumption) | exact gc3 _ _ (by assumption) | exact gc4 _ _ (by assumption) | exact gc5 _ _ | exact gc6 _ _ | grind) (by omega) (by omega)) (by rfl) ?_
  simp only [Act.put, rA, rB, rC]
  iterate 4 (refine wpPlan_takeL (v := ?_) rfl (by rfl) (fun w' hw => ?_) ?_; rotate_left; go_simp; with_reducible rfl; simp only [Act.put, rA, rB, rC])
  refine wpPlan_nil (hT.out _ _ ?_); clear hT T
  intro vw7 hg
  simp only [puts, Act.put, rA, rB, rC, rD, rE, ↓reduceIte, Nat.reduceEqDiff]
  clear lx0 lx3
  have HG := Lib.hid (hg)
  clear hg
  replace BX0 := bG BX0 HG
  replace BX1 := bG BX1 HG
  replace BX3 := bG BX3 HG
  replace BX4 := bG BX4 HG
  have r0 := Gr.refl vw7
  go_wp2
  refine hK.out _ _ ?_; clear hK K
  show Code.wp _ _ _ _ _
  clear r0
  have hsz : w.heap.size ≤ vw7.heap.size := Nat.le_trans HB.out.size HG.out.size
  have mx0 : gx0 < vw7.heap.size := BX0.out.lt
  have mx1 : gx1 < vw7.heap.size := BX1.out.lt
  have mx3 : gx3 < vw7.heap.size := BX3.out.lt
  have mx4 : gx4 < vw7.heap.size := BX4.out.lt
  refine forgetW (fun w2 => NX w2 gx0 (a) ∧ NX w2 gx1 (b) ∧ NX w2 gx3 (u1) ∧ Bx w2 gx4 26 #[.int .u64 0, .string ⟨#[]⟩] ∧ NX w2 (vw7.heap.size) (u8) ∧ NX w2 (vw7.heap.size + 1) (0) ∧ Below w.heap.size w w2) ⟨((BX0.out).alloc _).alloc _, ((BX1.out).alloc _).alloc _, ((BX3.out).alloc _).alloc _, ((BX4.out).alloc _).alloc _, ((Bx.at (by simp) : Bx _ (vw7.heap.size) _ _)).alloc _, (Bx.at (by simp) : Bx _ (vw7.heap.size + 1) _ _), ((HB.out.trans (HG.out.mono HB.out.size)).alloc (by first | omega | (simp; omega)) _).alloc (by first | omega | (simp; omega)) _⟩ ?_
  clear HB HG BX0 BX1 BX3 BX4
  rintro Wx10 ⟨bx0, bx1, bx3, bx4, bx5, bx6, HB⟩
  replace HB := Lib.hid HB
  have qx5_6 : vw7.heap.size < vw7.heap.size + 1 := by omega
  have yx6 : w.heap.size ≤ vw7.heap.size + 1 := by omega
  have qx0_6 : gx0 < vw7.heap.size + 1 := by omega
  have qx1_6 : gx1 < vw7.heap.size + 1 := by omega
  have qx3_6 : gx3 < vw7.heap.size + 1 := by omega
  have qx4_6 : gx4 < vw7.heap.size + 1 := by omega
  generalize hx6 : vw7.heap.size + 1 = gx6 at *
  clear hx6
  have yx5 : w.heap.size ≤ vw7.heap.size := by omega
  have qx0_5 : gx0 < vw7.heap.size := by omega
  have qx1_5 : gx1 < vw7.heap.size := by omega
  have qx3_5 : gx3 < vw7.heap.size := by omega
  have qx4_5 : gx4 < vw7.heap.size := by omega
  generalize hx5 : vw7.heap.size = gx5 at *
  clear hx5
  clear hsz mx0 mx1 mx3 mx4
  obtain ⟨u10, HZ10⟩ : ∃ z, Hid ((b) / (u1) = z) := ⟨_, Lib.hid rfl⟩
  have su10 : wl (u10) ≤ 12 := by rw [← HZ10.out]; have := wl_div (b) (u1); omega
  have HZ11 : Hid ((b) % (u1) = 0) := Lib.hid (by first | omega | (try simp only [← HZ10.out, ← HZ8.out, ← HZ6.out, ← HZ5.out, ← HZ4.out, ← HZ1.out]) <;> first | rfl | omega | (simp; done) | exact Nat.mod_lt _ (by assumption) | exact Nat.div_add_mod' _ _ | exact Nat.gcd_comm _ _ | exact Nat.gcd_zero_left _ | exact Nat.gcd_mul_left _ _ _ | exact (Nat.gcd_mul_left _ _ _).symm | exact Nat.div_self (by assumption) | exact dv1 _ _ _ (by assumption) | exact dv2 _ _ _ | exact gc1 _ _ | exact gc2 _ _ (by assumption) | exact gc3 _ _ (by assumption) | exact gc4 _ _ (by assumption) | exact gc5 _ _ | exact gc6 _ _ | grind)
  have su11 : wl (0) ≤ 12 := by have e := HZ11.out; first | omega | (rw [← e]; have := wl_mod (b) (u1); omega) | exact wl_le.2 (by decide +kernel)
  have lx1 := bx1.cells
  have lx3 := bx3.cells
  have BX0 := Lib.hid bx0
  have BX1 := Lib.hid bx1
  have BX3 := Lib.hid bx3
  have BX4 := Lib.hid bx4
  have BX5 := Lib.hid bx5
  have BX6 := Lib.hid bx6
  clear bx0 bx1 bx3 bx4 bx5 bx6
  refine sK fun K hK => ?_
  refine wp_region_seqplan 7 [(true, 0), (true, 1), (true, 2), (true, 3), (true, 4), (true, 5), (true, 6)] (by rfl) (by simp) (fun T hT => ?_)
  iterate 2 (refine wpPlan_takeL (v := ?_) rfl (by rfl) (fun w' hw => ?_) ?_; rotate_left; go_simp; with_reducible rfl; simp only [Act.put, rA, rB, rC])
  refine wpPlan_callL rfl (by rfl) Tryd.call22 (fun w' hw => nzdiv (b) (u1) (u10) (0) _ HZ10.out HZ11.out (by first | omega | (try simp only [← HZ10.out, ← HZ8.out, ← HZ6.out, ← HZ5.out, ← HZ4.out, ← HZ1.out]) <;> first | rfl | omega | (simp; done) | exact Nat.mod_lt _ (by assumption) | exact Nat.div_add_mod' _ _ | exact Nat.gcd_comm _ _ | exact Nat.gcd_zero_left _ | exact Nat.gcd_mul_left _ _ _ | exact (Nat.gcd_mul_left _ _ _).symm | exact Nat.div_self (by assumption) | exact dv1 _ _ _ (by assumption) | exact dv2 _ _ _ | exact gc1 _ _ | exact gc2 _ _ (by assumption) | exact gc3 _ _ (by assumption) | exact gc4 _ _ (by assumption) | exact gc5 _ _ | exact gc6 _ _ | grind) (by omega) (by omega)) (by rfl) ?_
  simp only [Act.put, rA, rB, rC]
  iterate 4 (refine wpPlan_takeL (v := ?_) rfl (by rfl) (fun w' hw => ?_) ?_; rotate_left; go_simp; with_reducible rfl; simp only [Act.put, rA, rB, rC])
  refine wpPlan_nil (hT.out _ _ ?_); clear hT T
  intro vw8 hg
  simp only [puts, Act.put, rA, rB, rC, rD, rE, ↓reduceIte, Nat.reduceEqDiff]
  clear lx1 lx3
  have HG := Lib.hid (hg)
  clear hg
  replace BX0 := bG BX0 HG
  replace BX1 := bG BX1 HG
  replace BX3 := bG BX3 HG
  replace BX4 := bG BX4 HG
  replace BX5 := bG BX5 HG
  replace BX6 := bG BX6 HG
  have r0 := Gr.refl vw8
  go_wp2
  refine hK.out _ _ ?_; clear hK K
  show Code.wp _ _ _ _ _
  clear r0
  have hsz : w.heap.size ≤ vw8.heap.size := Nat.le_trans HB.out.size HG.out.size
  have mx0 : gx0 < vw8.heap.size := BX0.out.lt
  have mx1 : gx1 < vw8.heap.size := BX1.out.lt
  have mx3 : gx3 < vw8.heap.size := BX3.out.lt
  have mx4 : gx4 < vw8.heap.size := BX4.out.lt
  have mx5 : gx5 < vw8.heap.size := BX5.out.lt
  have mx6 : gx6 < vw8.heap.size := BX6.out.lt
  refine forgetW (fun w2 => NX w2 gx0 (a) ∧ NX w2 gx1 (b) ∧ NX w2 gx3 (u1) ∧ Bx w2 gx4 26 #[.int .u64 0, .string ⟨#[]⟩] ∧ NX w2 gx5 (u8) ∧ NX w2 gx6 (0) ∧ NX w2 (vw8.heap.size) (u10) ∧ NX w2 (vw8.heap.size + 1) (0) ∧ Below w.heap.size w w2) ⟨((BX0.out).alloc _).alloc _, ((BX1.out).alloc _).alloc _, ((BX3.out).alloc _).alloc _, ((BX4.out).alloc _).alloc _, ((BX5.out).alloc _).alloc _, ((BX6.out).alloc _).alloc _, ((Bx.at (by simp) : Bx _ (vw8.heap.size) _ _)).alloc _, (Bx.at (by simp) : Bx _ (vw8.heap.size + 1) _ _), ((HB.out.trans (HG.out.mono HB.out.size)).alloc (by first | omega | (simp; omega)) _).alloc (by first | omega | (simp; omega)) _⟩ ?_
  clear HB HG BX0 BX1 BX3 BX4 BX5 BX6
  rintro Wx11 ⟨bx0, bx1, bx3, bx4, bx5, bx6, bx7, bx8, HB⟩
  replace HB := Lib.hid HB
  have qx7_8 : vw8.heap.size < vw8.heap.size + 1 := by omega
  have yx8 : w.heap.size ≤ vw8.heap.size + 1 := by omega
  have qx0_8 : gx0 < vw8.heap.size + 1 := by omega
  have qx1_8 : gx1 < vw8.heap.size + 1 := by omega
  have qx3_8 : gx3 < vw8.heap.size + 1 := by omega
  have qx4_8 : gx4 < vw8.heap.size + 1 := by omega
  have qx5_8 : gx5 < vw8.heap.size + 1 := by omega
  have qx6_8 : gx6 < vw8.heap.size + 1 := by omega
  generalize hx8 : vw8.heap.size + 1 = gx8 at *
  clear hx8
  have yx7 : w.heap.size ≤ vw8.heap.size := by omega
  have qx0_7 : gx0 < vw8.heap.size := by omega
  have qx1_7 : gx1 < vw8.heap.size := by omega
  have qx3_7 : gx3 < vw8.heap.size := by omega
  have qx4_7 : gx4 < vw8.heap.size := by omega
  have qx5_7 : gx5 < vw8.heap.size := by omega
  have qx6_7 : gx6 < vw8.heap.size := by omega
  generalize hx7 : vw8.heap.size = gx7 at *
  clear hx7
  clear hsz mx0 mx1 mx3 mx4 mx5 mx6
  refine wp_seq ?_
  obtain ⟨u12, HZ12⟩ : ∃ z, Hid ((a) / (b) = z) := ⟨_, Lib.hid rfl⟩
  have su12 : wl (u12) ≤ 12 := by rw [← HZ12.out]; have := wl_div (a) (b); omega
  obtain ⟨u13, HZ13⟩ : ∃ z, Hid ((a) % (b) = z) := ⟨_, Lib.hid rfl⟩
  have su13 : wl (u13) ≤ 12 := by rw [← HZ13.out]; have := wl_mod (a) (b); omega
  have lx0 := bx0.cells
  have lx1 := bx1.cells
  have BX0 := Lib.hid bx0
  have BX1 := Lib.hid bx1
  have BX3 := Lib.hid bx3
  have BX4 := Lib.hid bx4
  have BX5 := Lib.hid bx5
  have BX6 := Lib.hid bx6
  have BX7 := Lib.hid bx7
  have BX8 := Lib.hid bx8
  clear bx0 bx1 bx3 bx4 bx5 bx6 bx7 bx8
  refine sK fun K hK => ?_
  refine wp_region_seqplan 7 [(true, 0), (true, 1), (true, 2), (true, 3), (true, 4), (true, 5), (true, 6)] (by rfl) (by simp) (fun T hT => ?_)
  iterate 2 (refine wpPlan_takeL (v := ?_) rfl (by rfl) (fun w' hw => ?_) ?_; rotate_left; go_simp; with_reducible rfl; simp only [Act.put, rA, rB, rC])
  refine wpPlan_callL rfl (by rfl) Tryd.call22 (fun w' hw => nzdiv (a) (b) (u12) (u13) _ HZ12.out HZ13.out (by first | omega | (try simp only [← HZ13.out, ← HZ12.out, ← HZ10.out, ← HZ8.out, ← HZ6.out, ← HZ5.out, ← HZ4.out, ← HZ1.out]) <;> first | rfl | omega | (simp; done) | exact Nat.mod_lt _ (by assumption) | exact Nat.div_add_mod' _ _ | exact Nat.gcd_comm _ _ | exact Nat.gcd_zero_left _ | exact Nat.gcd_mul_left _ _ _ | exact (Nat.gcd_mul_left _ _ _).symm | exact Nat.div_self (by assumption) | exact dv1 _ _ _ (by assumption) | exact dv2 _ _ _ | exact gc1 _ _ | exact gc2 _ _ (by assumption) | exact gc3 _ _ (by assumption) | exact gc4 _ _ (by assumption) | exact gc5 _ _ | exact gc6 _ _ | grind) (by omega) (by omega)) (by rfl) ?_
  simp only [Act.put, rA, rB, rC]
  iterate 4 (refine wpPlan_takeL (v := ?_) rfl (by rfl) (fun w' hw => ?_) ?_; rotate_left; go_simp; with_reducible rfl; simp only [Act.put, rA, rB, rC])
  refine wpPlan_nil (hT.out _ _ ?_); clear hT T
  intro vw9 hg
  simp only [puts, Act.put, rA, rB, rC, rD, rE, ↓reduceIte, Nat.reduceEqDiff]
  clear lx0 lx1
  have HG := Lib.hid (hg)
  clear hg
  replace BX0 := bG BX0 HG
  replace BX1 := bG BX1 HG
  replace BX3 := bG BX3 HG
  replace BX4 := bG BX4 HG
  replace BX5 := bG BX5 HG
  replace BX6 := bG BX6 HG
  replace BX7 := bG BX7 HG
  replace BX8 := bG BX8 HG
  have r0 := Gr.refl vw9
  go_wp2
  refine hK.out _ _ ?_; clear hK K
  show Code.wp _ _ _ _ _
  clear r0
  have hsz : w.heap.size ≤ vw9.heap.size := Nat.le_trans HB.out.size HG.out.size
  have mx0 : gx0 < vw9.heap.size := BX0.out.lt
  have mx1 : gx1 < vw9.heap.size := BX1.out.lt
  have mx3 : gx3 < vw9.heap.size := BX3.out.lt
  have mx4 : gx4 < vw9.heap.size := BX4.out.lt
  have mx5 : gx5 < vw9.heap.size := BX5.out.lt
  have mx6 : gx6 < vw9.heap.size := BX6.out.lt
  have mx7 : gx7 < vw9.heap.size := BX7.out.lt
  have mx8 : gx8 < vw9.heap.size := BX8.out.lt
  refine forgetW (fun w2 => NX w2 gx1 (b) ∧ NX w2 gx3 (u1) ∧ Bx w2 gx4 26 #[.int .u64 0, .string ⟨#[]⟩] ∧ NX w2 gx5 (u8) ∧ NX w2 gx6 (0) ∧ NX w2 gx7 (u10) ∧ NX w2 gx8 (0) ∧ NX w2 (vw9.heap.size + 1) (u13) ∧ Below w.heap.size w w2) ⟨((BX1.out).alloc _).alloc _, ((BX3.out).alloc _).alloc _, ((BX4.out).alloc _).alloc _, ((BX5.out).alloc _).alloc _, ((BX6.out).alloc _).alloc _, ((BX7.out).alloc _).alloc _, ((BX8.out).alloc _).alloc _, (Bx.at (by simp) : Bx _ (vw9.heap.size + 1) _ _), ((HB.out.trans (HG.out.mono HB.out.size)).alloc (by first | omega | (simp; omega)) _).alloc (by first | omega | (simp; omega)) _⟩ ?_
  clear HB HG BX0 BX1 BX3 BX4 BX5 BX6 BX7 BX8
  rintro Wx12 ⟨bx1, bx3, bx4, bx5, bx6, bx7, bx8, bx10, HB⟩
  replace HB := Lib.hid HB
  have yx10 : w.heap.size ≤ vw9.heap.size + 1 := by omega
  have qx0_10 : gx0 < vw9.heap.size + 1 := by omega
  have qx1_10 : gx1 < vw9.heap.size + 1 := by omega
  have qx3_10 : gx3 < vw9.heap.size + 1 := by omega
  have qx4_10 : gx4 < vw9.heap.size + 1 := by omega
  have qx5_10 : gx5 < vw9.heap.size + 1 := by omega
  have qx6_10 : gx6 < vw9.heap.size + 1 := by omega
  have qx7_10 : gx7 < vw9.heap.size + 1 := by omega
  have qx8_10 : gx8 < vw9.heap.size + 1 := by omega
  generalize hx10 : vw9.heap.size + 1 = gx10 at *
  clear hx10
  clear hsz mx0 mx1 mx3 mx4 mx5 mx6 mx7 mx8
  have HZ14 : Hid (Nat.gcd (b) (u13) = u1) := Lib.hid (by first | omega | (try simp only [← HZ13.out, ← HZ12.out, ← HZ10.out, ← HZ8.out, ← HZ6.out, ← HZ5.out, ← HZ4.out, ← HZ1.out]) <;> first | rfl | omega | (simp; done) | exact Nat.mod_lt _ (by assumption) | exact Nat.div_add_mod' _ _ | exact Nat.gcd_comm _ _ | exact Nat.gcd_zero_left _ | exact Nat.gcd_mul_left _ _ _ | exact (Nat.gcd_mul_left _ _ _).symm | exact Nat.div_self (by assumption) | exact dv1 _ _ _ (by assumption) | exact dv2 _ _ _ | exact gc1 _ _ | exact gc2 _ _ (by assumption) | exact gc3 _ _ (by assumption) | exact gc4 _ _ (by assumption) | exact gc5 _ _ | exact gc6 _ _ | grind)
  have su14 : wl (u1) ≤ 12 := by have e := HZ14.out; first | omega | (rw [← e]; have := wl_gcd (b) (u13); omega)
  have lx1 := bx1.cells
  have lx3 := bx3.cells
  have lx10 := bx10.cells
  have BX1 := Lib.hid bx1
  have BX3 := Lib.hid bx3
  have BX4 := Lib.hid bx4
  have BX5 := Lib.hid bx5
  have BX6 := Lib.hid bx6
  have BX7 := Lib.hid bx7
  have BX8 := Lib.hid bx8
  have BX10 := Lib.hid bx10
  clear bx1 bx3 bx4 bx5 bx6 bx7 bx8 bx10
  refine sK fun K hK => ?_
  refine wp_region_plan 7 [] [] (fun _ => 0) (fun _ => .cells #[] 0) [(true, 0), (true, 1), (true, 2), (true, 3), (true, 5), (true, 4), (true, 6)] (by kernel_rfl) (by kernel_rfl) (fun i hi => by cases hi) (fun i hi => by cases hi) (fun _ _ _ _ _ h => h) (fun T hT => ?_)
  iterate 5 (refine wpPlan_takeL (v := ?_) rfl (by rfl) (fun w' hw => ?_) ?_; rotate_left; go_simp; with_reducible rfl; simp only [Act.put, rA, rB, rC])
  refine wpPlan_callL rfl (by rfl) Tryd.call25 (fun w' hw => nzgcd (b) (u13) (u1) _ HZ14.out (by omega) (by omega)) (by rfl) ?_
  simp only [Act.put, rA, rB, rC]
  refine wpPlan_takeL (v := ?_) rfl (by rfl) (fun w' hw => ?_) ?_; rotate_left; go_simp; with_reducible rfl; simp only [Act.put, rA, rB, rC]
  refine wpPlan_nil (hT.out _ _ ?_); clear hT T
  intro G vw10 hg hf
  simp only [puts, Act.put, rA, rB, rC, rD, rE, ↓reduceIte, Nat.reduceEqDiff]
  clear lx1 lx3 lx10
  have HG := Lib.hid (hg)
  clear hg
  replace BX1 := bG BX1 HG
  replace BX3 := bG BX3 HG
  replace BX4 := bG BX4 HG
  replace BX5 := bG BX5 HG
  replace BX6 := bG BX6 HG
  replace BX7 := bG BX7 HG
  replace BX8 := bG BX8 HG
  replace BX10 := bG BX10 HG
  have r0 := Gr.refl vw10
  go_wp2
  refine hK.out _ _ ?_; clear hK K
  show Code.wp _ _ _ _ _
  clear r0
  refine forgetW (fun w2 => Bx w2 gx4 26 #[.int .u64 0, .string ⟨#[]⟩] ∧ NX w2 gx5 (u8) ∧ NX w2 gx6 (0) ∧ NX w2 gx7 (u10) ∧ NX w2 gx8 (0) ∧ Below w.heap.size w w2) ⟨BX4.out, BX5.out, BX6.out, BX7.out, BX8.out, HB.out.trans (HG.out.mono HB.out.size)⟩ ?_
  clear HB HG BX1 BX3 BX4 BX5 BX6 BX7 BX8 BX10
  rintro Wx13 ⟨bx4, bx5, bx6, bx7, bx8, HB⟩
  replace HB := Lib.hid HB
  refine wp_cond_false (by rfl) ?_
  refine wp_skip ?_
  show Code.wp _ _ _ _ _
  have HZ15 : Hid (Nat.gcd (u8) (u10) = 1) := Lib.hid (by first | omega | (try simp only [← HZ13.out, ← HZ12.out, ← HZ10.out, ← HZ8.out, ← HZ6.out, ← HZ5.out, ← HZ4.out, ← HZ1.out]) <;> first | rfl | omega | (simp; done) | exact Nat.mod_lt _ (by assumption) | exact Nat.div_add_mod' _ _ | exact Nat.gcd_comm _ _ | exact Nat.gcd_zero_left _ | exact Nat.gcd_mul_left _ _ _ | exact (Nat.gcd_mul_left _ _ _).symm | exact Nat.div_self (by assumption) | exact dv1 _ _ _ (by assumption) | exact dv2 _ _ _ | exact gc1 _ _ | exact gc2 _ _ (by assumption) | exact gc3 _ _ (by assumption) | exact gc4 _ _ (by assumption) | exact gc5 _ _ | exact gc6 _ _ | grind)
  have su15 : wl (1) ≤ 12 := by have e := HZ15.out; first | omega | (rw [← e]; have := wl_gcd (u8) (u10); omega) | exact wl_le.2 (by decide +kernel)
  have su_0_15 : wl 1 ≤ 1 := wl_le.2 (by decide +kernel)
  have lx4 := bx4.cells
  have lx5 := bx5.cells
  have lx6 := bx6.cells
  have lx7 := bx7.cells
  have lx8 := bx8.cells
  have BX4 := Lib.hid bx4
  have BX5 := Lib.hid bx5
  have BX6 := Lib.hid bx6
  have BX7 := Lib.hid bx7
  have BX8 := Lib.hid bx8
  clear bx4 bx5 bx6 bx7 bx8
  refine sK fun K hK => ?_
  refine wp_region_seqplan 19 [(true, 0), (true, 1), (true, 2), (true, 3), (true, 4), (true, 5), (true, 6), (true, 7), (true, 8), (true, 9), (true, 10), (true, 11), (true, 12), (true, 13), (true, 14), (true, 15), (true, 16), (true, 17), (true, 18)] (by rfl) (by simp) (fun T hT => ?_)
  iterate 11 (refine wpPlan_takeL (v := ?_) rfl (by rfl) (fun w' hw => ?_) ?_; rotate_left; go_simp; with_reducible rfl; simp only [Act.put, rA, rB, rC])
  refine wpPlan_callL rfl (by rfl) Tryd.call25 (fun w' hw => nzgcd (u8) (u10) (1) _ HZ15.out (by omega) (by omega)) (by rfl) ?_
  simp only [Act.put, rA, rB, rC]
  refine wpPlan_callL rfl (by rfl) Tryd.call38 (fun w' hw => nzof 1 _ (by decide)) (by rfl) ?_
  simp only [Act.put, rA, rB, rC]
  iterate 3 (refine wpPlan_takeL (v := ?_) rfl (by rfl) (fun w' hw => ?_) ?_; rotate_left; go_simp; with_reducible rfl; simp only [Act.put, rA, rB, rC])
  refine wpPlan_callL rfl (by rfl) Tryd.call12 (fun w' hw => works_any _ (Lib.hid (HT.out.gr (Gr.trans HB.out hw)))) (by rfl) ?_
  simp only [Act.put, rA, rB, rC]
  iterate 2 (refine wpPlan_takeL (v := ?_) rfl (by rfl) (fun w' hw => ?_) ?_; rotate_left; go_simp; with_reducible rfl; simp only [Act.put, rA, rB, rC])
  refine wpPlan_nil (hT.out _ _ ?_); clear hT T
  intro vw11 hg
  simp only [puts, Act.put, rA, rB, rC, rD, rE, ↓reduceIte, Nat.reduceEqDiff]
  clear lx4 lx5 lx6 lx7 lx8
  have HG := Lib.hid (hg)
  clear hg
  replace BX4 := bG BX4 HG
  replace BX5 := bG BX5 HG
  replace BX6 := bG BX6 HG
  replace BX7 := bG BX7 HG
  replace BX8 := bG BX8 HG
  have r0 := Gr.refl vw11
  go_wp2
  refine hK.out _ _ ?_; clear hK K
  show Code.wp _ _ _ _ _
  clear r0
  refine forgetW (fun w2 => Below w.heap.size w w2) (HB.out.trans (HG.out.mono HB.out.size)) ?_
  clear HB HG BX4 BX5 BX6 BX7 BX8
  rintro Wx15 HB
  replace HB := Lib.hid HB
  refine wp_ret ?_
  try simp only [Exit.then, Exit.inBlock]
  have r0 := Gr.refl Wx15
  exact bodyPost_ret (v := .bool true) (by simp [results, Tryd.results8, go_sem]) rfl ⟨rfl, HB.out⟩

set_option maxRecDepth 100000 in
set_option maxHeartbeats 4000000 in
theorem sor_big1 (vx : Value) (kx : Nat) (fx : Nat → Nat) (vy : Value) (ky : Nat) (fy : Nat → Nat) (vz : Value) (kz : Nat) (fz : Nat → Nat) (a b c : Nat)  (w : World) (HWx : Hid (Wa w vx kx fx)) (HFx : Hid (∀ i, i < kx → fx i < 4294967296)) (HVx : Hid (vl fx kx = a)) (HWy : Hid (Wa w vy ky fy)) (HFy : Hid (∀ i, i < ky → fy i < 4294967296)) (HVy : Hid (vl fy ky = b)) (HWz : Hid (Wa w vz kz fz)) (HFz : Hid (∀ i, i < kz → fz i < 4294967296)) (HVz : Hid (vl fz kz = c))  (hkx : 12 < kx) (HT : Hid (Tab w)) :
    Calls Tryd.prog 8 #[vx, vy, vz] w fun e w' => e = .returned (.bool true) ∧ Below w.heap.size w w' := by
  obtain ⟨ao_x, c_x, rfl⟩ := HWx.out.slice
  obtain ⟨ao_y, c_y, rfl⟩ := HWy.out.slice
  obtain ⟨ao_z, c_z, rfl⟩ := HWz.out.slice
  go_enter Tryd.func8, Tryd.ntmps8
  refine sK fun K hK => ?_
  refine wp_region_lit ?_
  go_wp2
  refine hK.out _ _ ?_; clear hK K
  show Code.wp _ _ _ _ _
  refine forgetW (fun w2 => Below w.heap.size w w2) (Below.refl _ _) ?_
  rintro Wx HB
  replace HB := Lib.hid HB
  refine wp_seq ?_
  have hd1 : 12 < ((kx : Int)) := by omega
  refine sK fun K hK => ?_
  refine wp_region_seqplan 13 [(true, 0), (true, 1), (true, 2), (true, 3), (true, 4), (true, 5), (true, 6), (true, 7), (true, 8), (true, 9), (true, 10), (true, 11), (true, 12)] (by rfl) (by simp) (fun T hT => ?_)
  iterate 4 (refine wpPlan_takeL (v := ?_) rfl (by rfl) (fun w' hw => ?_) ?_; rotate_left; go_simp; with_reducible rfl; simp only [Act.put, rA, rB, rC])
  iterate 3 (refine wpPlan_skipL rfl (by rfl) ?_; simp only [Act.put, rA, rB, rC])
  iterate 2 (refine wpPlan_takeL (v := ?_) rfl (by rfl) (fun w' hw => ?_) ?_; rotate_left; go_simp; with_reducible rfl; simp only [Act.put, rA, rB, rC])
  iterate 3 (refine wpPlan_skipL rfl (by rfl) ?_; simp only [Act.put, rA, rB, rC])
  refine wpPlan_takeL (v := ?_) rfl (by rfl) (fun w' hw => ?_) ?_; rotate_left; go_simp; with_reducible rfl; simp only [Act.put, rA, rB, rC]
  refine wpPlan_nil (hT.out _ _ ?_); clear hT T
  intro vw1 hg
  simp only [puts, Act.put, rA, rB, rC, rD, rE, ↓reduceIte, Nat.reduceEqDiff]
  have HG := Lib.hid (hg)
  clear hg
  have r0 := Gr.refl vw1
  go_wp2
  refine hK.out _ _ ?_; clear hK K
  show Code.wp _ _ _ _ _
  clear r0
  refine forgetW (fun w2 => Below w.heap.size w w2) (HB.out.trans (HG.out.mono HB.out.size)) ?_
  clear HB HG
  rintro Wx1 HB
  replace HB := Lib.hid HB
  clear hd1
  refine wp_cond_true (by rfl) ?_
  refine sK fun K hK => ?_
  refine wp_region_seqplan 2 [(true, 0), (true, 1)] (by rfl) (by simp) (fun T hT => ?_)
  refine wpPlan_callL rfl (by rfl) Tryd.call12 (fun w' hw => works_any _ (Lib.hid (HT.out.gr (Gr.trans HB.out hw)))) (by rfl) ?_
  simp only [Act.put, rA, rB, rC]
  refine wpPlan_takeL (v := ?_) rfl (by rfl) (fun w' hw => ?_) ?_; rotate_left; go_simp; with_reducible rfl; simp only [Act.put, rA, rB, rC]
  refine wpPlan_nil (hT.out _ _ ?_); clear hT T
  intro vw2 hg
  simp only [puts, Act.put, rA, rB, rC, rD, rE, ↓reduceIte, Nat.reduceEqDiff]
  have HG := Lib.hid (hg)
  clear hg
  have r0 := Gr.refl vw2
  go_wp2
  refine hK.out _ _ ?_; clear hK K
  show Code.wp _ _ _ _ _
  clear r0
  refine forgetW (fun w2 => Below w.heap.size w w2) (HB.out.trans (HG.out.mono HB.out.size)) ?_
  clear HB HG
  rintro Wx2 HB
  replace HB := Lib.hid HB
  refine wp_ret ?_
  try simp only [Exit.then, Exit.inBlock]
  have r0 := Gr.refl Wx2
  exact bodyPost_ret (v := .bool true) (by simp [results, Tryd.results8, go_sem]) rfl ⟨rfl, HB.out⟩

set_option maxRecDepth 100000 in
set_option maxHeartbeats 4000000 in
theorem sor_big2 (vx : Value) (kx : Nat) (fx : Nat → Nat) (vy : Value) (ky : Nat) (fy : Nat → Nat) (vz : Value) (kz : Nat) (fz : Nat → Nat) (a b c : Nat)  (w : World) (HWx : Hid (Wa w vx kx fx)) (HFx : Hid (∀ i, i < kx → fx i < 4294967296)) (HVx : Hid (vl fx kx = a)) (HWy : Hid (Wa w vy ky fy)) (HFy : Hid (∀ i, i < ky → fy i < 4294967296)) (HVy : Hid (vl fy ky = b)) (HWz : Hid (Wa w vz kz fz)) (HFz : Hid (∀ i, i < kz → fz i < 4294967296)) (HVz : Hid (vl fz kz = c)) (hkx : kx ≤ 12) (hky : 12 < ky) (HT : Hid (Tab w)) :
    Calls Tryd.prog 8 #[vx, vy, vz] w fun e w' => e = .returned (.bool true) ∧ Below w.heap.size w w' := by
  obtain ⟨ao_x, c_x, rfl⟩ := HWx.out.slice
  obtain ⟨ao_y, c_y, rfl⟩ := HWy.out.slice
  obtain ⟨ao_z, c_z, rfl⟩ := HWz.out.slice
  go_enter Tryd.func8, Tryd.ntmps8
  refine sK fun K hK => ?_
  refine wp_region_lit ?_
  go_wp2
  refine hK.out _ _ ?_; clear hK K
  show Code.wp _ _ _ _ _
  refine forgetW (fun w2 => Below w.heap.size w w2) (Below.refl _ _) ?_
  rintro Wx HB
  replace HB := Lib.hid HB
  refine wp_seq ?_
  have hd1 : ¬ (12 < ((kx : Int))) := by omega
  have hd2 : 12 < ((ky : Int)) := by omega
  refine sK fun K hK => ?_
  refine wp_region_seqplan 13 [(true, 0), (true, 1), (true, 2), (true, 3), (true, 4), (true, 5), (true, 6), (true, 7), (true, 8), (true, 9), (true, 10), (true, 11), (true, 12)] (by rfl) (by simp) (fun T hT => ?_)
  iterate 9 (refine wpPlan_takeL (v := ?_) rfl (by rfl) (fun w' hw => ?_) ?_; rotate_left; go_simp; with_reducible rfl; simp only [Act.put, rA, rB, rC])
  iterate 3 (refine wpPlan_skipL rfl (by rfl) ?_; simp only [Act.put, rA, rB, rC])
  refine wpPlan_takeL (v := ?_) rfl (by rfl) (fun w' hw => ?_) ?_; rotate_left; go_simp; with_reducible rfl; simp only [Act.put, rA, rB, rC]
  refine wpPlan_nil (hT.out _ _ ?_); clear hT T
  intro vw1 hg
  simp only [puts, Act.put, rA, rB, rC, rD, rE, ↓reduceIte, Nat.reduceEqDiff]
  have HG := Lib.hid (hg)
  clear hg
  have r0 := Gr.refl vw1
  go_wp2
  refine hK.out _ _ ?_; clear hK K
  show Code.wp _ _ _ _ _
  clear r0
  refine forgetW (fun w2 => Below w.heap.size w w2) (HB.out.trans (HG.out.mono HB.out.size)) ?_
  clear HB HG
  rintro Wx1 HB
  replace HB := Lib.hid HB
  clear hd1 hd2
  refine wp_cond_true (by rfl) ?_
  refine sK fun K hK => ?_
  refine wp_region_seqplan 2 [(true, 0), (true, 1)] (by rfl) (by simp) (fun T hT => ?_)
  refine wpPlan_callL rfl (by rfl) Tryd.call12 (fun w' hw => works_any _ (Lib.hid (HT.out.gr (Gr.trans HB.out hw)))) (by rfl) ?_
  simp only [Act.put, rA, rB, rC]
  refine wpPlan_takeL (v := ?_) rfl (by rfl) (fun w' hw => ?_) ?_; rotate_left; go_simp; with_reducible rfl; simp only [Act.put, rA, rB, rC]
  refine wpPlan_nil (hT.out _ _ ?_); clear hT T
  intro vw2 hg
  simp only [puts, Act.put, rA, rB, rC, rD, rE, ↓reduceIte, Nat.reduceEqDiff]
  have HG := Lib.hid (hg)
  clear hg
  have r0 := Gr.refl vw2
  go_wp2
  refine hK.out _ _ ?_; clear hK K
  show Code.wp _ _ _ _ _
  clear r0
  refine forgetW (fun w2 => Below w.heap.size w w2) (HB.out.trans (HG.out.mono HB.out.size)) ?_
  clear HB HG
  rintro Wx2 HB
  replace HB := Lib.hid HB
  refine wp_ret ?_
  try simp only [Exit.then, Exit.inBlock]
  have r0 := Gr.refl Wx2
  exact bodyPost_ret (v := .bool true) (by simp [results, Tryd.results8, go_sem]) rfl ⟨rfl, HB.out⟩

set_option maxRecDepth 100000 in
set_option maxHeartbeats 4000000 in
theorem sor_big3 (vx : Value) (kx : Nat) (fx : Nat → Nat) (vy : Value) (ky : Nat) (fy : Nat → Nat) (vz : Value) (kz : Nat) (fz : Nat → Nat) (a b c : Nat)  (w : World) (HWx : Hid (Wa w vx kx fx)) (HFx : Hid (∀ i, i < kx → fx i < 4294967296)) (HVx : Hid (vl fx kx = a)) (HWy : Hid (Wa w vy ky fy)) (HFy : Hid (∀ i, i < ky → fy i < 4294967296)) (HVy : Hid (vl fy ky = b)) (HWz : Hid (Wa w vz kz fz)) (HFz : Hid (∀ i, i < kz → fz i < 4294967296)) (HVz : Hid (vl fz kz = c)) (hkx : kx ≤ 12) (hky : ky ≤ 12) (hkz : 6 < kz) (HT : Hid (Tab w)) :
    Calls Tryd.prog 8 #[vx, vy, vz] w fun e w' => e = .returned (.bool true) ∧ Below w.heap.size w w' := by
  obtain ⟨ao_x, c_x, rfl⟩ := HWx.out.slice
  obtain ⟨ao_y, c_y, rfl⟩ := HWy.out.slice
  obtain ⟨ao_z, c_z, rfl⟩ := HWz.out.slice
  go_enter Tryd.func8, Tryd.ntmps8
  refine sK fun K hK => ?_
  refine wp_region_lit ?_
  go_wp2
  refine hK.out _ _ ?_; clear hK K
  show Code.wp _ _ _ _ _
  refine forgetW (fun w2 => Below w.heap.size w w2) (Below.refl _ _) ?_
  rintro Wx HB
  replace HB := Lib.hid HB
  refine wp_seq ?_
  have hd1 : ¬ (12 < ((kx : Int))) := by omega
  have hd2 : ¬ (12 < ((ky : Int))) := by omega
  have hd3 : 6 < ((kz : Int)) := by omega
  refine sK fun K hK => ?_
  refine wp_region_seqplan 13 [(true, 0), (true, 1), (true, 2), (true, 3), (true, 4), (true, 5), (true, 6), (true, 7), (true, 8), (true, 9), (true, 10), (true, 11), (true, 12)] (by rfl) (by simp) (fun T hT => ?_)
  iterate 13 (refine wpPlan_takeL (v := ?_) rfl (by rfl) (fun w' hw => ?_) ?_; rotate_left; go_simp; with_reducible rfl; simp only [Act.put, rA, rB, rC])
  refine wpPlan_nil (hT.out _ _ ?_); clear hT T
  intro vw1 hg
  simp only [puts, Act.put, rA, rB, rC, rD, rE, ↓reduceIte, Nat.reduceEqDiff]
  have HG := Lib.hid (hg)
  clear hg
  have r0 := Gr.refl vw1
  go_wp2
  refine hK.out _ _ ?_; clear hK K
  show Code.wp _ _ _ _ _
  clear r0
  refine forgetW (fun w2 => Below w.heap.size w w2) (HB.out.trans (HG.out.mono HB.out.size)) ?_
  clear HB HG
  rintro Wx1 HB
  replace HB := Lib.hid HB
  clear hd1 hd2 hd3
  refine wp_cond_true (by rfl) ?_
  refine sK fun K hK => ?_
  refine wp_region_seqplan 2 [(true, 0), (true, 1)] (by rfl) (by simp) (fun T hT => ?_)
  refine wpPlan_callL rfl (by rfl) Tryd.call12 (fun w' hw => works_any _ (Lib.hid (HT.out.gr (Gr.trans HB.out hw)))) (by rfl) ?_
  simp only [Act.put, rA, rB, rC]
  refine wpPlan_takeL (v := ?_) rfl (by rfl) (fun w' hw => ?_) ?_; rotate_left; go_simp; with_reducible rfl; simp only [Act.put, rA, rB, rC]
  refine wpPlan_nil (hT.out _ _ ?_); clear hT T
  intro vw2 hg
  simp only [puts, Act.put, rA, rB, rC, rD, rE, ↓reduceIte, Nat.reduceEqDiff]
  have HG := Lib.hid (hg)
  clear hg
  have r0 := Gr.refl vw2
  go_wp2
  refine hK.out _ _ ?_; clear hK K
  show Code.wp _ _ _ _ _
  clear r0
  refine forgetW (fun w2 => Below w.heap.size w w2) (HB.out.trans (HG.out.mono HB.out.size)) ?_
  clear HB HG
  rintro Wx2 HB
  replace HB := Lib.hid HB
  refine wp_ret ?_
  try simp only [Exit.then, Exit.inBlock]
  have r0 := Gr.refl Wx2
  exact bodyPost_ret (v := .bool true) (by simp [results, Tryd.results8, go_sem]) rfl ⟨rfl, HB.out⟩

theorem divisors_law (vx : Value) (kx : Nat) (fx : Nat → Nat) (vy : Value) (ky : Nat) (fy : Nat → Nat) (vz : Value) (kz : Nat) (fz : Nat → Nat)  (w : World) (HWx : Hid (Wa w vx kx fx)) (HFx : Hid (∀ i, i < kx → fx i < 4294967296)) (HWy : Hid (Wa w vy ky fy)) (HFy : Hid (∀ i, i < ky → fy i < 4294967296)) (HWz : Hid (Wa w vz kz fz)) (HFz : Hid (∀ i, i < kz → fz i < 4294967296))  (HT : Hid (Tab w)) :
    Calls Tryd.prog 8 #[vx, vy, vz] w fun e w' => e = .returned (.bool true) ∧ Below w.heap.size w w' := by
  by_cases hkx : kx ≤ 12
  · by_cases hky : ky ≤ 12
    · by_cases hkz : kz ≤ 6
      · skip
        obtain ⟨a, ha⟩ : ∃ z, vl fx kx = z := ⟨_, rfl⟩
        obtain ⟨b, hb⟩ : ∃ z, vl fy ky = z := ⟨_, rfl⟩
        obtain ⟨c, hc⟩ : ∃ z, vl fz kz = z := ⟨_, rfl⟩
        rcases Nat.eq_zero_or_pos a with h | h <;> rcases Nat.eq_zero_or_pos b with h2 | h2
        · exact sor_none vx kx fx vy ky fy vz kz fz c w HWx HFx (Lib.hid (ha.trans h)) HWy HFy (Lib.hid (hb.trans h2)) HWz HFz (Lib.hid hc) hkx hky hkz HT
        · exact sor_right vx kx fx vy ky fy vz kz fz b c w HWx HFx (Lib.hid (ha.trans h)) HWy HFy (Lib.hid hb) HWz HFz (Lib.hid hc) hkx hky hkz h2 HT
        · exact sor_left vx kx fx vy ky fy vz kz fz a c w HWx HFx (Lib.hid ha) HWy HFy (Lib.hid (hb.trans h2)) HWz HFz (Lib.hid hc) hkx hky hkz h HT
        · exact sor_both vx kx fx vy ky fy vz kz fz a b c w HWx HFx (Lib.hid ha) HWy HFy (Lib.hid hb) HWz HFz (Lib.hid hc) hkx hky hkz h h2 HT
      · exact sor_big3 vx kx fx vy ky fy vz kz fz _ _ _  w HWx HFx (Lib.hid rfl) HWy HFy (Lib.hid rfl) HWz HFz (Lib.hid rfl) hkx hky (by omega) HT
    · exact sor_big2 vx kx fx vy ky fy vz kz fz _ _ _  w HWx HFx (Lib.hid rfl) HWy HFy (Lib.hid rfl) HWz HFz (Lib.hid rfl) hkx (by omega) HT
  · exact sor_big1 vx kx fx vy ky fy vz kz fz _ _ _  w HWx HFx (Lib.hid rfl) HWy HFy (Lib.hid rfl) HWz HFz (Lib.hid rfl)  (by omega) HT

end Go.Proofs.YteenojfbnbkedaaDoor
