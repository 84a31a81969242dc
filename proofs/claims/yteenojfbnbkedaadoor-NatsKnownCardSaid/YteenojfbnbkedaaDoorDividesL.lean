
/- NatsDivides: the law's walk. -/
import Derived.Test.YteenojfbnbkedaaDoorSh
import Derived.Test.YteenojfbnbkedaaDoorPlainN
namespace Go.Proofs.YteenojfbnbkedaaDoor
open Go.RowKit
set_option linter.unusedSimpArgs false
set_option linter.unusedVariables false
attribute [local go_sem ↓] Go.wp_at_zero Go.wp_at_succ
attribute [local go_sem ↓] eq_nat eq_nat_zero
set_option maxRecDepth 100000 in
set_option maxHeartbeats 4000000 in
theorem dvd_zero (vx : Value) (kx : Nat) (fx : Nat → Nat) (vy : Value) (ky : Nat) (fy : Nat → Nat) (vz : Value) (kz : Nat) (fz : Nat → Nat) (a c : Nat)  (w : World) (HWx : Hid (Wa w vx kx fx)) (HFx : Hid (∀ i, i < kx → fx i < 4294967296)) (HVx : Hid (vl fx kx = a)) (HWy : Hid (Wa w vy ky fy)) (HFy : Hid (∀ i, i < ky → fy i < 4294967296)) (HVy : Hid (vl fy ky = 0)) (HWz : Hid (Wa w vz kz fz)) (HFz : Hid (∀ i, i < kz → fz i < 4294967296)) (HVz : Hid (vl fz kz = c)) (hkx : kx ≤ 24) (hky : ky ≤ 24) (hkz : kz ≤ 24) (HT : Hid (Tab w)) :
    Calls Tryd.prog 7 #[vx, vy, vz] w fun e w' => e = .returned (.bool true) ∧ Below w.heap.size w w' := by
  obtain ⟨ao_x, c_x, rfl⟩ := HWx.out.slice
  obtain ⟨ao_y, c_y, rfl⟩ := HWy.out.slice
  obtain ⟨ao_z, c_z, rfl⟩ := HWz.out.slice
  have hb_a : wl a ≤ 24 := by rw [← HVx.out]; have := wl_le.2 (vl_lt HFx.out); omega
  have hb_0 : wl 0 ≤ 24 := by rw [← HVy.out]; have := wl_le.2 (vl_lt HFy.out); omega
  have hb_c : wl c ≤ 24 := by rw [← HVz.out]; have := wl_le.2 (vl_lt HFz.out); omega
  go_enter Tryd.func7, Tryd.ntmps7
  refine sK fun K hK => ?_
  refine wp_region_lit ?_
  go_wp2
  refine hK.out _ _ ?_; clear hK K
  show Code.wp _ _ _ _ _
  refine forgetW (fun w2 => Below w.heap.size w w2) (Below.refl _ _) ?_
  rintro Wx HB
  replace HB := Lib.hid HB
  refine wp_seq ?_
  have hd1 : ¬ (24 < ((kx : Int))) := by omega
  have hd2 : ¬ (24 < ((ky : Int))) := by omega
  have hd3 : ¬ (24 < ((kz : Int))) := by omega
  refine sK fun K hK => ?_
  refine wp_region_seqplan 13 [(true, 0), (true, 1), (true, 2), (true, 3), (true, 4), (true, 5), (true, 6), (true, 7), (true, 8), (true, 9), (true, 10), (true, 11), (true, 12)] (by rfl) (by simp) (fun T hT => ?_)
  iterate 13 (refine wpPlan_takeL (v := ?_) rfl (by rfl) (fun w' hw => ?_) ?_; rotate_left; go_simp; with_reducible rfl; simp only [Act.put, rA, rB, rC])
  refine wpPlan_nil (hT.out _ _ ?_); clear hT T
  intro vw1 hg
  simp only [puts, Act.put, rA, rB, rC, rD, rE, ↓reduceIte, Nat.reduceEqDiff]
  have HG := Lib.hid (hg)
  clear hg
  have r0 := Gr.refl vw1
  go_wp2
  refine hK.out _ _ ?_; clear hK K
  show Code.wp _ _ _ _ _
  clear r0
  refine forgetW (fun w2 => Below w.heap.size w w2) (HB.out.trans (HG.out.mono HB.out.size)) ?_
  clear HB HG
  rintro Wx1 HB
  replace HB := Lib.hid HB
  clear hd1 hd2 hd3
  refine wp_cond_false (by rfl) ?_
  refine wp_skip ?_
  show Code.wp _ _ _ _ _
  refine sK fun K hK => ?_
  refine wp_region_seqplan 6 [(true, 0), (true, 1), (true, 2), (true, 3), (true, 4), (true, 5)] (by rfl) (by simp) (fun T hT => ?_)
  refine wpPlan_takeL (v := ?_) rfl (by rfl) (fun w' hw => ?_) ?_; rotate_left; go_simp; with_reducible rfl; simp only [Act.put, rA, rB, rC]
  refine wpPlan_callL rfl (by rfl) Tryd.call13 (fun w' hw => zmade _ kx fx a w _ HVx.out (by omega) HWx.out (Gr.trans HB.out hw) HFx.out) (by rfl) ?_
  simp only [Act.put, rA, rB, rC]
  refine wpPlan_takeL (v := ?_) rfl (by rfl) (fun w' hw => ?_) ?_; rotate_left; go_simp; with_reducible rfl; simp only [Act.put, rA, rB, rC]
  refine wpPlan_callL rfl (by rfl) Tryd.call13 (fun w' hw => zmade _ ky fy 0 w _ HVy.out (by omega) HWy.out (Gr.trans HB.out hw) HFy.out) (by rfl) ?_
  simp only [Act.put, rA, rB, rC]
  refine wpPlan_takeL (v := ?_) rfl (by rfl) (fun w' hw => ?_) ?_; rotate_left; go_simp; with_reducible rfl; simp only [Act.put, rA, rB, rC]
  refine wpPlan_callL rfl (by rfl) Tryd.call13 (fun w' hw => zmade _ kz fz c w _ HVz.out (by omega) HWz.out (Gr.trans HB.out hw) HFz.out) (by rfl) ?_
  simp only [Act.put, rA, rB, rC]
  refine wpPlan_nil (hT.out _ _ ?_); clear hT T
  intro vw2 hg
  simp only [puts, Act.put, rA, rB, rC, rD, rE, ↓reduceIte, Nat.reduceEqDiff]
  have HG := Lib.hid (hg)
  clear hg
  have r0 := Gr.refl vw2
  go_wp2
  refine hK.out _ _ ?_; clear hK K
  show Code.wp _ _ _ _ _
  clear r0
  have hsz : w.heap.size ≤ vw2.heap.size := Nat.le_trans HB.out.size HG.out.size
  refine forgetW (fun w2 => NX w2 (vw2.heap.size) (a) ∧ NX w2 (vw2.heap.size + 1) (0) ∧ NX w2 (vw2.heap.size + 1 + 1) (c) ∧ Below w.heap.size w w2) ⟨(((Bx.at (by simp) : Bx _ (vw2.heap.size) _ _)).alloc _).alloc _, ((Bx.at (by simp) : Bx _ (vw2.heap.size + 1) _ _)).alloc _, (Bx.at (by simp) : Bx _ (vw2.heap.size + 1 + 1) _ _), (((HB.out.trans (HG.out.mono HB.out.size)).alloc (by first | omega | (simp; omega)) _).alloc (by first | omega | (simp; omega)) _).alloc (by first | omega | (simp; omega)) _⟩ ?_
  clear HB HG
  rintro Wx3 ⟨bx0, bx1, bx2, HB⟩
  replace HB := Lib.hid HB
  have qx0_1 : vw2.heap.size < vw2.heap.size + 1 := by omega
  have qx0_2 : vw2.heap.size < vw2.heap.size + 1 + 1 := by omega
  have qx1_2 : vw2.heap.size + 1 < vw2.heap.size + 1 + 1 := by omega
  have yx2 : w.heap.size ≤ vw2.heap.size + 1 + 1 := by omega
  generalize hx2 : vw2.heap.size + 1 + 1 = gx2 at *
  clear hx2
  have yx1 : w.heap.size ≤ vw2.heap.size + 1 := by omega
  generalize hx1 : vw2.heap.size + 1 = gx1 at *
  clear hx1
  have yx0 : w.heap.size ≤ vw2.heap.size := by omega
  generalize hx0 : vw2.heap.size = gx0 at *
  clear hx0
  clear hsz
  have lx0 := bx0.cells
  have lx1 := bx1.cells
  have BX0 := Lib.hid bx0
  have BX1 := Lib.hid bx1
  have BX2 := Lib.hid bx2
  clear bx0 bx1 bx2
  refine sK fun K hK => ?_
  refine wp_region_seqplan 7 [(true, 0), (true, 1), (true, 2), (true, 3), (true, 4), (true, 5), (true, 6)] (by rfl) (by simp) (fun T hT => ?_)
  iterate 2 (refine wpPlan_takeL (v := ?_) rfl (by rfl) (fun w' hw => ?_) ?_; rotate_left; go_simp; with_reducible rfl; simp only [Act.put, rA, rB, rC])
  refine wpPlan_callL rfl (by rfl) Tryd.call22 (fun w' hw => nzdivno (a) (0) _ (by first | rfl | omega | (simp; done) | exact Nat.mod_lt _ (by assumption) | exact Nat.div_add_mod' _ _ | exact Nat.gcd_comm _ _ | exact Nat.gcd_zero_left _ | exact Nat.gcd_mul_left _ _ _ | exact (Nat.gcd_mul_left _ _ _).symm | exact Nat.div_self (by assumption) | exact dv1 _ _ _ (by assumption) | exact dv2 _ _ _ | exact gc1 _ _ | exact gc2 _ _ (by assumption) | exact gc3 _ _ (by assumption) | exact gc4 _ _ (by assumption) | exact gc5 _ _ | exact gc6 _ _ | grind) (by omega) (by omega)) (by rfl) ?_
  simp only [Act.put, rA, rB, rC]
  iterate 4 (refine wpPlan_takeL (v := ?_) rfl (by rfl) (fun w' hw => ?_) ?_; rotate_left; go_simp; with_reducible rfl; simp only [Act.put, rA, rB, rC])
  refine wpPlan_nil (hT.out _ _ ?_); clear hT T
  intro vw3 hg
  simp only [puts, Act.put, rA, rB, rC, rD, rE, ↓reduceIte, Nat.reduceEqDiff]
  clear lx0 lx1
  have HG := Lib.hid (hg)
  clear hg
  replace BX0 := bG BX0 HG
  replace BX1 := bG BX1 HG
  replace BX2 := bG BX2 HG
  have r0 := Gr.refl vw3
  go_wp2
  refine hK.out _ _ ?_; clear hK K
  show Code.wp _ _ _ _ _
  clear r0
  have hsz : w.heap.size ≤ vw3.heap.size := Nat.le_trans HB.out.size HG.out.size
  have mx0 : gx0 < vw3.heap.size := BX0.out.lt
  have mx1 : gx1 < vw3.heap.size := BX1.out.lt
  have mx2 : gx2 < vw3.heap.size := BX2.out.lt
  refine forgetW (fun w2 => NX w2 gx0 (a) ∧ NX w2 gx1 (0) ∧ NX w2 gx2 (c) ∧ NX w2 (vw3.heap.size) (0) ∧ NX w2 (vw3.heap.size + 1) (0) ∧ Below w.heap.size w w2) ⟨((BX0.out).alloc _).alloc _, ((BX1.out).alloc _).alloc _, ((BX2.out).alloc _).alloc _, ((Bx.at (by simp) : Bx _ (vw3.heap.size) _ _)).alloc _, (Bx.at (by simp) : Bx _ (vw3.heap.size + 1) _ _), ((HB.out.trans (HG.out.mono HB.out.size)).alloc (by first | omega | (simp; omega)) _).alloc (by first | omega | (simp; omega)) _⟩ ?_
  clear HB HG BX0 BX1 BX2
  rintro Wx4 ⟨bx0, bx1, bx2, bx3, bx4, HB⟩
  replace HB := Lib.hid HB
  have qx3_4 : vw3.heap.size < vw3.heap.size + 1 := by omega
  have yx4 : w.heap.size ≤ vw3.heap.size + 1 := by omega
  have qx0_4 : gx0 < vw3.heap.size + 1 := by omega
  have qx1_4 : gx1 < vw3.heap.size + 1 := by omega
  have qx2_4 : gx2 < vw3.heap.size + 1 := by omega
  generalize hx4 : vw3.heap.size + 1 = gx4 at *
  clear hx4
  have yx3 : w.heap.size ≤ vw3.heap.size := by omega
  have qx0_3 : gx0 < vw3.heap.size := by omega
  have qx1_3 : gx1 < vw3.heap.size := by omega
  have qx2_3 : gx2 < vw3.heap.size := by omega
  generalize hx3 : vw3.heap.size = gx3 at *
  clear hx3
  clear hsz mx0 mx1 mx2
  refine wp_seq ?_
  have lx1 := bx1.cells
  have BX0 := Lib.hid bx0
  have BX1 := Lib.hid bx1
  have BX2 := Lib.hid bx2
  have BX3 := Lib.hid bx3
  have BX4 := Lib.hid bx4
  clear bx0 bx1 bx2 bx3 bx4
  refine sK fun K hK => ?_
  refine wp_region_seqplan 3 [(true, 0), (true, 1), (true, 2)] (by rfl) (by simp) (fun T hT => ?_)
  iterate 3 (refine wpPlan_takeL (v := ?_) rfl (by rfl) (fun w' hw => ?_) ?_; rotate_left; go_simp; with_reducible rfl; simp only [Act.put, rA, rB, rC])
  refine wpPlan_nil (hT.out _ _ ?_); clear hT T
  intro vw4 hg
  simp only [puts, Act.put, rA, rB, rC, rD, rE, ↓reduceIte, Nat.reduceEqDiff]
  clear lx1
  have HG := Lib.hid (hg)
  clear hg
  replace BX0 := bG BX0 HG
  replace BX1 := bG BX1 HG
  replace BX2 := bG BX2 HG
  replace BX3 := bG BX3 HG
  replace BX4 := bG BX4 HG
  have r0 := Gr.refl vw4
  go_wp2
  refine hK.out _ _ ?_; clear hK K
  show Code.wp _ _ _ _ _
  clear r0
  refine forgetW (fun w2 => NX w2 gx0 (a) ∧ NX w2 gx1 (0) ∧ NX w2 gx2 (c) ∧ NX w2 gx3 (0) ∧ NX w2 gx4 (0) ∧ Below w.heap.size w w2) ⟨BX0.out, BX1.out, BX2.out, BX3.out, BX4.out, HB.out.trans (HG.out.mono HB.out.size)⟩ ?_
  clear HB HG BX0 BX1 BX2 BX3 BX4
  rintro Wx5 ⟨bx0, bx1, bx2, bx3, bx4, HB⟩
  replace HB := Lib.hid HB
  refine wp_cond_true (by rfl) ?_
  have BX0 := Lib.hid bx0
  have BX1 := Lib.hid bx1
  have BX2 := Lib.hid bx2
  have BX3 := Lib.hid bx3
  have BX4 := Lib.hid bx4
  clear bx0 bx1 bx2 bx3 bx4
  refine sK fun K hK => ?_
  refine wp_region_seqplan 6 [(true, 0), (true, 1), (true, 2), (true, 3), (true, 4), (true, 5)] (by rfl) (by simp) (fun T hT => ?_)
  iterate 3 (refine wpPlan_takeL (v := ?_) rfl (by rfl) (fun w' hw => ?_) ?_; rotate_left; go_simp; with_reducible rfl; simp only [Act.put, rA, rB, rC])
  refine wpPlan_callL rfl (by rfl) Tryd.call12 (fun w' hw => works_any _ (Lib.hid (HT.out.gr (Gr.trans HB.out hw)))) (by rfl) ?_
  simp only [Act.put, rA, rB, rC]
  iterate 2 (refine wpPlan_takeL (v := ?_) rfl (by rfl) (fun w' hw => ?_) ?_; rotate_left; go_simp; with_reducible rfl; simp only [Act.put, rA, rB, rC])
  refine wpPlan_nil (hT.out _ _ ?_); clear hT T
  intro vw5 hg
  simp only [puts, Act.put, rA, rB, rC, rD, rE, ↓reduceIte, Nat.reduceEqDiff]
  have HG := Lib.hid (hg)
  clear hg
  replace BX0 := bG BX0 HG
  replace BX1 := bG BX1 HG
  replace BX2 := bG BX2 HG
  replace BX3 := bG BX3 HG
  replace BX4 := bG BX4 HG
  have r0 := Gr.refl vw5
  go_wp2
  refine hK.out _ _ ?_; clear hK K
  show Code.wp _ _ _ _ _
  clear r0
  refine forgetW (fun w2 => NX w2 gx0 (a) ∧ NX w2 gx1 (0) ∧ NX w2 gx2 (c) ∧ NX w2 gx3 (0) ∧ NX w2 gx4 (0) ∧ Below w.heap.size w w2) ⟨BX0.out, BX1.out, BX2.out, BX3.out, BX4.out, HB.out.trans (HG.out.mono HB.out.size)⟩ ?_
  clear HB HG BX0 BX1 BX2 BX3 BX4
  rintro Wx6 ⟨bx0, bx1, bx2, bx3, bx4, HB⟩
  replace HB := Lib.hid HB
  refine wp_ret ?_
  try simp only [Exit.then, Exit.inBlock]
  have r0 := Gr.refl Wx6
  exact bodyPost_ret (v := .bool true) (by simp [results, Tryd.results7, go_sem]) rfl ⟨rfl, HB.out⟩

set_option maxRecDepth 100000 in
set_option maxHeartbeats 4000000 in
theorem dvd_pos (vx : Value) (kx : Nat) (fx : Nat → Nat) (vy : Value) (ky : Nat) (fy : Nat → Nat) (vz : Value) (kz : Nat) (fz : Nat → Nat) (a b c : Nat)  (w : World) (HWx : Hid (Wa w vx kx fx)) (HFx : Hid (∀ i, i < kx → fx i < 4294967296)) (HVx : Hid (vl fx kx = a)) (HWy : Hid (Wa w vy ky fy)) (HFy : Hid (∀ i, i < ky → fy i < 4294967296)) (HVy : Hid (vl fy ky = b)) (HWz : Hid (Wa w vz kz fz)) (HFz : Hid (∀ i, i < kz → fz i < 4294967296)) (HVz : Hid (vl fz kz = c)) (hkx : kx ≤ 24) (hky : ky ≤ 24) (hkz : kz ≤ 24) (hb0 : 0 < b) (HT : Hid (Tab w)) :
    Calls Tryd.prog 7 #[vx, vy, vz] w fun e w' => e = .returned (.bool true) ∧ Below w.heap.size w w' := by
  obtain ⟨ao_x, c_x, rfl⟩ := HWx.out.slice
  obtain ⟨ao_y, c_y, rfl⟩ := HWy.out.slice
  obtain ⟨ao_z, c_z, rfl⟩ := HWz.out.slice
  have hb_a : wl a ≤ 24 := by rw [← HVx.out]; have := wl_le.2 (vl_lt HFx.out); omega
  have hb_b : wl b ≤ 24 := by rw [← HVy.out]; have := wl_le.2 (vl_lt HFy.out); omega
  have hb_c : wl c ≤ 24 := by rw [← HVz.out]; have := wl_le.2 (vl_lt HFz.out); omega
  go_enter Tryd.func7, Tryd.ntmps7
  refine sK fun K hK => ?_
  refine wp_region_lit ?_
  go_wp2
  refine hK.out _ _ ?_; clear hK K
  show Code.wp _ _ _ _ _
  refine forgetW (fun w2 => Below w.heap.size w w2) (Below.refl _ _) ?_
  rintro Wx HB
  replace HB := Lib.hid HB
  refine wp_seq ?_
  have hd1 : ¬ (24 < ((kx : Int))) := by omega
  have hd2 : ¬ (24 < ((ky : Int))) := by omega
  have hd3 : ¬ (24 < ((kz : Int))) := by omega
  refine sK fun K hK => ?_
  refine wp_region_seqplan 13 [(true, 0), (true, 1), (true, 2), (true, 3), (true, 4), (true, 5), (true, 6), (true, 7), (true, 8), (true, 9), (true, 10), (true, 11), (true, 12)] (by rfl) (by simp) (fun T hT => ?_)
  iterate 13 (refine wpPlan_takeL (v := ?_) rfl (by rfl) (fun w' hw => ?_) ?_; rotate_left; go_simp; with_reducible rfl; simp only [Act.put, rA, rB, rC])
  refine wpPlan_nil (hT.out _ _ ?_); clear hT T
  intro vw1 hg
  simp only [puts, Act.put, rA, rB, rC, rD, rE, ↓reduceIte, Nat.reduceEqDiff]
  have HG := Lib.hid (hg)
  clear hg
  have r0 := Gr.refl vw1
  go_wp2
  refine hK.out _ _ ?_; clear hK K
  show Code.wp _ _ _ _ _
  clear r0
  refine forgetW (fun w2 => Below w.heap.size w w2) (HB.out.trans (HG.out.mono HB.out.size)) ?_
  clear HB HG
  rintro Wx1 HB
  replace HB := Lib.hid HB
  clear hd1 hd2 hd3
  refine wp_cond_false (by rfl) ?_
  refine wp_skip ?_
  show Code.wp _ _ _ _ _
  refine sK fun K hK => ?_
  refine wp_region_seqplan 6 [(true, 0), (true, 1), (true, 2), (true, 3), (true, 4), (true, 5)] (by rfl) (by simp) (fun T hT => ?_)
  refine wpPlan_takeL (v := ?_) rfl (by rfl) (fun w' hw => ?_) ?_; rotate_left; go_simp; with_reducible rfl; simp only [Act.put, rA, rB, rC]
  refine wpPlan_callL rfl (by rfl) Tryd.call13 (fun w' hw => zmade _ kx fx a w _ HVx.out (by omega) HWx.out (Gr.trans HB.out hw) HFx.out) (by rfl) ?_
  simp only [Act.put, rA, rB, rC]
  refine wpPlan_takeL (v := ?_) rfl (by rfl) (fun w' hw => ?_) ?_; rotate_left; go_simp; with_reducible rfl; simp only [Act.put, rA, rB, rC]
  refine wpPlan_callL rfl (by rfl) Tryd.call13 (fun w' hw => zmade _ ky fy b w _ HVy.out (by omega) HWy.out (Gr.trans HB.out hw) HFy.out) (by rfl) ?_
  simp only [Act.put, rA, rB, rC]
  refine wpPlan_takeL (v := ?_) rfl (by rfl) (fun w' hw => ?_) ?_; rotate_left; go_simp; with_reducible rfl; simp only [Act.put, rA, rB, rC]
  refine wpPlan_callL rfl (by rfl) Tryd.call13 (fun w' hw => zmade _ kz fz c w _ HVz.out (by omega) HWz.out (Gr.trans HB.out hw) HFz.out) (by rfl) ?_
  simp only [Act.put, rA, rB, rC]
  refine wpPlan_nil (hT.out _ _ ?_); clear hT T
  intro vw2 hg
  simp only [puts, Act.put, rA, rB, rC, rD, rE, ↓reduceIte, Nat.reduceEqDiff]
  have HG := Lib.hid (hg)
  clear hg
  have r0 := Gr.refl vw2
  go_wp2
  refine hK.out _ _ ?_; clear hK K
  show Code.wp _ _ _ _ _
  clear r0
  have hsz : w.heap.size ≤ vw2.heap.size := Nat.le_trans HB.out.size HG.out.size
  refine forgetW (fun w2 => NX w2 (vw2.heap.size) (a) ∧ NX w2 (vw2.heap.size + 1) (b) ∧ NX w2 (vw2.heap.size + 1 + 1) (c) ∧ Below w.heap.size w w2) ⟨(((Bx.at (by simp) : Bx _ (vw2.heap.size) _ _)).alloc _).alloc _, ((Bx.at (by simp) : Bx _ (vw2.heap.size + 1) _ _)).alloc _, (Bx.at (by simp) : Bx _ (vw2.heap.size + 1 + 1) _ _), (((HB.out.trans (HG.out.mono HB.out.size)).alloc (by first | omega | (simp; omega)) _).alloc (by first | omega | (simp; omega)) _).alloc (by first | omega | (simp; omega)) _⟩ ?_
  clear HB HG
  rintro Wx3 ⟨bx0, bx1, bx2, HB⟩
  replace HB := Lib.hid HB
  have qx0_1 : vw2.heap.size < vw2.heap.size + 1 := by omega
  have qx0_2 : vw2.heap.size < vw2.heap.size + 1 + 1 := by omega
  have qx1_2 : vw2.heap.size + 1 < vw2.heap.size + 1 + 1 := by omega
  have yx2 : w.heap.size ≤ vw2.heap.size + 1 + 1 := by omega
  generalize hx2 : vw2.heap.size + 1 + 1 = gx2 at *
  clear hx2
  have yx1 : w.heap.size ≤ vw2.heap.size + 1 := by omega
  generalize hx1 : vw2.heap.size + 1 = gx1 at *
  clear hx1
  have yx0 : w.heap.size ≤ vw2.heap.size := by omega
  generalize hx0 : vw2.heap.size = gx0 at *
  clear hx0
  clear hsz
  obtain ⟨u1, HZ1⟩ : ∃ z, Hid ((a) / (b) = z) := ⟨_, Lib.hid rfl⟩
  have su1 : wl (u1) ≤ 24 := by rw [← HZ1.out]; have := wl_div (a) (b); omega
  obtain ⟨u2, HZ2⟩ : ∃ z, Hid ((a) % (b) = z) := ⟨_, Lib.hid rfl⟩
  have su2 : wl (u2) ≤ 24 := by rw [← HZ2.out]; have := wl_mod (a) (b); omega
  have lx0 := bx0.cells
  have lx1 := bx1.cells
  have BX0 := Lib.hid bx0
  have BX1 := Lib.hid bx1
  have BX2 := Lib.hid bx2
  clear bx0 bx1 bx2
  refine sK fun K hK => ?_
  refine wp_region_seqplan 7 [(true, 0), (true, 1), (true, 2), (true, 3), (true, 4), (true, 5), (true, 6)] (by rfl) (by simp) (fun T hT => ?_)
  iterate 2 (refine wpPlan_takeL (v := ?_) rfl (by rfl) (fun w' hw => ?_) ?_; rotate_left; go_simp; with_reducible rfl; simp only [Act.put, rA, rB, rC])
  refine wpPlan_callL rfl (by rfl) Tryd.call22 (fun w' hw => nzdiv (a) (b) (u1) (u2) _ HZ1.out HZ2.out (by first | omega | (try simp only [← HZ2.out, ← HZ1.out]) <;> first | rfl | omega | (simp; done) | exact Nat.mod_lt _ (by assumption) | exact Nat.div_add_mod' _ _ | exact Nat.gcd_comm _ _ | exact Nat.gcd_zero_left _ | exact Nat.gcd_mul_left _ _ _ | exact (Nat.gcd_mul_left _ _ _).symm | exact Nat.div_self (by assumption) | exact dv1 _ _ _ (by assumption) | exact dv2 _ _ _ | exact gc1 _ _ | exact gc2 _ _ (by assumption) | exact gc3 _ _ (by assumption) | exact gc4 _ _ (by assumption) | exact gc5 _ _ | exact gc6 _ _ | grind) (by omega) (by omega)) (by rfl) ?_
  simp only [Act.put, rA, rB, rC]
  iterate 4 (refine wpPlan_takeL (v := ?_) rfl (by rfl) (fun w' hw => ?_) ?_; rotate_left; go_simp; with_reducible rfl; simp only [Act.put, rA, rB, rC])
  refine wpPlan_nil (hT.out _ _ ?_); clear hT T
  intro vw3 hg
  simp only [puts, Act.put, rA, rB, rC, rD, rE, ↓reduceIte, Nat.reduceEqDiff]
  clear lx0 lx1
  have HG := Lib.hid (hg)
  clear hg
  replace BX0 := bG BX0 HG
  replace BX1 := bG BX1 HG
  replace BX2 := bG BX2 HG
  have r0 := Gr.refl vw3
  go_wp2
  refine hK.out _ _ ?_; clear hK K
  show Code.wp _ _ _ _ _
  clear r0
  have hsz : w.heap.size ≤ vw3.heap.size := Nat.le_trans HB.out.size HG.out.size
  have mx0 : gx0 < vw3.heap.size := BX0.out.lt
  have mx1 : gx1 < vw3.heap.size := BX1.out.lt
  have mx2 : gx2 < vw3.heap.size := BX2.out.lt
  refine forgetW (fun w2 => NX w2 gx0 (a) ∧ NX w2 gx1 (b) ∧ NX w2 gx2 (c) ∧ NX w2 (vw3.heap.size) (u1) ∧ NX w2 (vw3.heap.size + 1) (u2) ∧ Below w.heap.size w w2) ⟨((BX0.out).alloc _).alloc _, ((BX1.out).alloc _).alloc _, ((BX2.out).alloc _).alloc _, ((Bx.at (by simp) : Bx _ (vw3.heap.size) _ _)).alloc _, (Bx.at (by simp) : Bx _ (vw3.heap.size + 1) _ _), ((HB.out.trans (HG.out.mono HB.out.size)).alloc (by first | omega | (simp; omega)) _).alloc (by first | omega | (simp; omega)) _⟩ ?_
  clear HB HG BX0 BX1 BX2
  rintro Wx4 ⟨bx0, bx1, bx2, bx3, bx4, HB⟩
  replace HB := Lib.hid HB
  have qx3_4 : vw3.heap.size < vw3.heap.size + 1 := by omega
  have yx4 : w.heap.size ≤ vw3.heap.size + 1 := by omega
  have qx0_4 : gx0 < vw3.heap.size + 1 := by omega
  have qx1_4 : gx1 < vw3.heap.size + 1 := by omega
  have qx2_4 : gx2 < vw3.heap.size + 1 := by omega
  generalize hx4 : vw3.heap.size + 1 = gx4 at *
  clear hx4
  have yx3 : w.heap.size ≤ vw3.heap.size := by omega
  have qx0_3 : gx0 < vw3.heap.size := by omega
  have qx1_3 : gx1 < vw3.heap.size := by omega
  have qx2_3 : gx2 < vw3.heap.size := by omega
  generalize hx3 : vw3.heap.size = gx3 at *
  clear hx3
  clear hsz mx0 mx1 mx2
  refine wp_seq ?_
  have hd4 : decide (b = 0) = false := decide_eq_false (by first | omega | (try simp only [← HZ2.out, ← HZ1.out]) <;> first | rfl | omega | (simp; done) | exact Nat.mod_lt _ (by assumption) | exact Nat.div_add_mod' _ _ | exact Nat.gcd_comm _ _ | exact Nat.gcd_zero_left _ | exact Nat.gcd_mul_left _ _ _ | exact (Nat.gcd_mul_left _ _ _).symm | exact Nat.div_self (by assumption) | exact dv1 _ _ _ (by assumption) | exact dv2 _ _ _ | exact gc1 _ _ | exact gc2 _ _ (by assumption) | exact gc3 _ _ (by assumption) | exact gc4 _ _ (by assumption) | exact gc5 _ _ | exact gc6 _ _ | grind)
  have lx1 := bx1.cells
  have BX0 := Lib.hid bx0
  have BX1 := Lib.hid bx1
  have BX2 := Lib.hid bx2
  have BX3 := Lib.hid bx3
  have BX4 := Lib.hid bx4
  clear bx0 bx1 bx2 bx3 bx4
  refine sK fun K hK => ?_
  refine wp_region_seqplan 3 [(true, 0), (true, 1), (true, 2)] (by rfl) (by simp) (fun T hT => ?_)
  iterate 3 (refine wpPlan_takeL (v := ?_) rfl (by rfl) (fun w' hw => ?_) ?_; rotate_left; go_simp; with_reducible rfl; simp only [Act.put, rA, rB, rC])
  refine wpPlan_nil (hT.out _ _ ?_); clear hT T
  intro vw4 hg
  simp only [puts, Act.put, rA, rB, rC, rD, rE, ↓reduceIte, Nat.reduceEqDiff]
  clear lx1
  have HG := Lib.hid (hg)
  clear hg
  replace BX0 := bG BX0 HG
  replace BX1 := bG BX1 HG
  replace BX2 := bG BX2 HG
  replace BX3 := bG BX3 HG
  replace BX4 := bG BX4 HG
  have r0 := Gr.refl vw4
  go_wp2
  refine hK.out _ _ ?_; clear hK K
  show Code.wp _ _ _ _ _
  clear r0
  refine forgetW (fun w2 => NX w2 gx0 (a) ∧ NX w2 gx1 (b) ∧ NX w2 gx2 (c) ∧ NX w2 gx3 (u1) ∧ NX w2 gx4 (u2) ∧ Below w.heap.size w w2) ⟨BX0.out, BX1.out, BX2.out, BX3.out, BX4.out, HB.out.trans (HG.out.mono HB.out.size)⟩ ?_
  clear HB HG BX0 BX1 BX2 BX3 BX4
  rintro Wx5 ⟨bx0, bx1, bx2, bx3, bx4, HB⟩
  replace HB := Lib.hid HB
  clear hd4
  refine wp_cond_false (by rfl) ?_
  refine wp_skip ?_
  show Code.wp _ _ _ _ _
  refine wp_seq ?_
  obtain ⟨u3, HZ3⟩ : ∃ z, Hid ((u1) * (b) = z) := ⟨_, Lib.hid rfl⟩
  have su3 : wl (u3) ≤ 48 := by rw [← HZ3.out]; have := wl_mul (u1) (b); omega
  have HZ4 : Hid ((u3) + (u2) = a) := Lib.hid (by first | omega | (try simp only [← HZ3.out, ← HZ2.out, ← HZ1.out]) <;> first | rfl | omega | (simp; done) | exact Nat.mod_lt _ (by assumption) | exact Nat.div_add_mod' _ _ | exact Nat.gcd_comm _ _ | exact Nat.gcd_zero_left _ | exact Nat.gcd_mul_left _ _ _ | exact (Nat.gcd_mul_left _ _ _).symm | exact Nat.div_self (by assumption) | exact dv1 _ _ _ (by assumption) | exact dv2 _ _ _ | exact gc1 _ _ | exact gc2 _ _ (by assumption) | exact gc3 _ _ (by assumption) | exact gc4 _ _ (by assumption) | exact gc5 _ _ | exact gc6 _ _ | grind)
  have su4 : wl (a) ≤ 49 := by have e := HZ4.out; first | omega | (rw [← e]; have := wl_add (u3) (u2); omega)
  have lx0 := bx0.cells
  have lx1 := bx1.cells
  have lx3 := bx3.cells
  have lx4 := bx4.cells
  have BX0 := Lib.hid bx0
  have BX1 := Lib.hid bx1
  have BX2 := Lib.hid bx2
  have BX3 := Lib.hid bx3
  have BX4 := Lib.hid bx4
  clear bx0 bx1 bx2 bx3 bx4
  refine sK fun K hK => ?_
  refine wp_region_plan 16 [] [] (fun _ => 0) (fun _ => .cells #[] 0) [(true, 0), (true, 1), (true, 2), (true, 3), (true, 4), (true, 5), (true, 6), (true, 7), (true, 8), (true, 9), (true, 10), (true, 12), (true, 14), (true, 11), (true, 13), (true, 15)] (by kernel_rfl) (by kernel_rfl) (fun i hi => by cases hi) (fun i hi => by cases hi) (fun _ _ _ _ _ h => h) (fun T hT => ?_)
  iterate 5 (refine wpPlan_takeL (v := ?_) rfl (by rfl) (fun w' hw => ?_) ?_; rotate_left; go_simp; with_reducible rfl; simp only [Act.put, rA, rB, rC])
  refine wpPlan_callL rfl (by rfl) Tryd.call20 (fun w' hw => nzcmp (u2) (b) (-1) _ (cmpI_lt (by have e : (u2) < (b) := (by first | omega | (try simp only [← HZ2.out, ← HZ1.out]) <;> first | rfl | omega | (simp; done) | exact Nat.mod_lt _ (by assumption) | exact Nat.div_add_mod' _ _ | exact Nat.gcd_comm _ _ | exact Nat.gcd_zero_left _ | exact Nat.gcd_mul_left _ _ _ | exact (Nat.gcd_mul_left _ _ _).symm | exact Nat.div_self (by assumption) | exact dv1 _ _ _ (by assumption) | exact dv2 _ _ _ | exact gc1 _ _ | exact gc2 _ _ (by assumption) | exact gc3 _ _ (by assumption) | exact gc4 _ _ (by assumption) | exact gc5 _ _ | exact gc6 _ _ | grind); first | exact e | omega)) (by omega) (by omega)) (by rfl) ?_
  simp only [Act.put, rA, rB, rC]
  iterate 7 (refine wpPlan_takeL (v := ?_) rfl (by rfl) (fun w' hw => ?_) ?_; rotate_left; go_simp; with_reducible rfl; simp only [Act.put, rA, rB, rC])
  refine wpPlan_callL rfl (by rfl) Tryd.call23 (fun w' hw => nzmul (u1) (b) (u3) _ HZ3.out (by omega) (by omega)) (by rfl) ?_
  simp only [Act.put, rA, rB, rC]
  refine wpPlan_callL rfl (by rfl) Tryd.call18 (fun w' hw => nzadd (u3) (u2) (a) _ HZ4.out (by omega) (by omega)) (by rfl) ?_
  simp only [Act.put, rA, rB, rC]
  refine wpPlan_takeL (v := ?_) rfl (by rfl) (fun w' hw => ?_) ?_; rotate_left; go_simp; with_reducible rfl; simp only [Act.put, rA, rB, rC]
  refine wpPlan_nil (hT.out _ _ ?_); clear hT T
  intro G vw5 hg hf
  simp only [puts, Act.put, rA, rB, rC, rD, rE, ↓reduceIte, Nat.reduceEqDiff]
  clear lx0 lx1 lx3 lx4
  have HG := Lib.hid (hg)
  clear hg
  replace BX0 := bG BX0 HG
  replace BX1 := bG BX1 HG
  replace BX2 := bG BX2 HG
  replace BX3 := bG BX3 HG
  replace BX4 := bG BX4 HG
  have r0 := Gr.refl vw5
  go_wp2
  refine hK.out _ _ ?_; clear hK K
  show Code.wp _ _ _ _ _
  clear r0
  refine forgetW (fun w2 => NX w2 gx0 (a) ∧ NX w2 gx1 (b) ∧ NX w2 gx2 (c) ∧ Below w.heap.size w w2) ⟨BX0.out, BX1.out, BX2.out, HB.out.trans (HG.out.mono HB.out.size)⟩ ?_
  clear HB HG BX0 BX1 BX2 BX3 BX4
  rintro Wx7 ⟨bx0, bx1, bx2, HB⟩
  replace HB := Lib.hid HB
  refine wp_cond_false (by rfl) ?_
  refine wp_skip ?_
  show Code.wp _ _ _ _ _
  obtain ⟨u5, HZ5⟩ : ∃ z, Hid ((c) / (b) = z) := ⟨_, Lib.hid rfl⟩
  have su5 : wl (u5) ≤ 24 := by rw [← HZ5.out]; have := wl_div (c) (b); omega
  obtain ⟨u6, HZ6⟩ : ∃ z, Hid ((c) % (b) = z) := ⟨_, Lib.hid rfl⟩
  have su6 : wl (u6) ≤ 24 := by rw [← HZ6.out]; have := wl_mod (c) (b); omega
  have lx1 := bx1.cells
  have lx2 := bx2.cells
  have BX0 := Lib.hid bx0
  have BX1 := Lib.hid bx1
  have BX2 := Lib.hid bx2
  clear bx0 bx1 bx2
  refine sK fun K hK => ?_
  refine wp_region_seqplan 7 [(true, 0), (true, 1), (true, 2), (true, 3), (true, 4), (true, 5), (true, 6)] (by rfl) (by simp) (fun T hT => ?_)
  iterate 2 (refine wpPlan_takeL (v := ?_) rfl (by rfl) (fun w' hw => ?_) ?_; rotate_left; go_simp; with_reducible rfl; simp only [Act.put, rA, rB, rC])
  refine wpPlan_callL rfl (by rfl) Tryd.call22 (fun w' hw => nzdiv (c) (b) (u5) (u6) _ HZ5.out HZ6.out (by first | omega | (try simp only [← HZ6.out, ← HZ5.out, ← HZ3.out, ← HZ2.out, ← HZ1.out]) <;> first | rfl | omega | (simp; done) | exact Nat.mod_lt _ (by assumption) | exact Nat.div_add_mod' _ _ | exact Nat.gcd_comm _ _ | exact Nat.gcd_zero_left _ | exact Nat.gcd_mul_left _ _ _ | exact (Nat.gcd_mul_left _ _ _).symm | exact Nat.div_self (by assumption) | exact dv1 _ _ _ (by assumption) | exact dv2 _ _ _ | exact gc1 _ _ | exact gc2 _ _ (by assumption) | exact gc3 _ _ (by assumption) | exact gc4 _ _ (by assumption) | exact gc5 _ _ | exact gc6 _ _ | grind) (by omega) (by omega)) (by rfl) ?_
  simp only [Act.put, rA, rB, rC]
  iterate 4 (refine wpPlan_takeL (v := ?_) rfl (by rfl) (fun w' hw => ?_) ?_; rotate_left; go_simp; with_reducible rfl; simp only [Act.put, rA, rB, rC])
  refine wpPlan_nil (hT.out _ _ ?_); clear hT T
  intro vw6 hg
  simp only [puts, Act.put, rA, rB, rC, rD, rE, ↓reduceIte, Nat.reduceEqDiff]
  clear lx1 lx2
  have HG := Lib.hid (hg)
  clear hg
  replace BX0 := bG BX0 HG
  replace BX1 := bG BX1 HG
  replace BX2 := bG BX2 HG
  have r0 := Gr.refl vw6
  go_wp2
  refine hK.out _ _ ?_; clear hK K
  show Code.wp _ _ _ _ _
  clear r0
  have hsz : w.heap.size ≤ vw6.heap.size := Nat.le_trans HB.out.size HG.out.size
  have mx0 : gx0 < vw6.heap.size := BX0.out.lt
  have mx1 : gx1 < vw6.heap.size := BX1.out.lt
  have mx2 : gx2 < vw6.heap.size := BX2.out.lt
  refine forgetW (fun w2 => NX w2 gx0 (a) ∧ NX w2 gx1 (b) ∧ NX w2 (vw6.heap.size + 1) (u6) ∧ Below w.heap.size w w2) ⟨((BX0.out).alloc _).alloc _, ((BX1.out).alloc _).alloc _, (Bx.at (by simp) : Bx _ (vw6.heap.size + 1) _ _), ((HB.out.trans (HG.out.mono HB.out.size)).alloc (by first | omega | (simp; omega)) _).alloc (by first | omega | (simp; omega)) _⟩ ?_
  clear HB HG BX0 BX1 BX2
  rintro Wx9 ⟨bx0, bx1, bx6, HB⟩
  replace HB := Lib.hid HB
  have yx6 : w.heap.size ≤ vw6.heap.size + 1 := by omega
  have qx0_6 : gx0 < vw6.heap.size + 1 := by omega
  have qx1_6 : gx1 < vw6.heap.size + 1 := by omega
  have qx2_6 : gx2 < vw6.heap.size + 1 := by omega
  generalize hx6 : vw6.heap.size + 1 = gx6 at *
  clear hx6
  clear hsz mx0 mx1 mx2
  obtain ⟨u7, HZ7⟩ : ∃ z, Hid ((a) * (b) = z) := ⟨_, Lib.hid rfl⟩
  have su7 : wl (u7) ≤ 48 := by rw [← HZ7.out]; have := wl_mul (a) (b); omega
  obtain ⟨u8, HZ8⟩ : ∃ z, Hid ((u7) + (u6) = z) := ⟨_, Lib.hid rfl⟩
  have su8 : wl (u8) ≤ 49 := by rw [← HZ8.out]; have := wl_add (u7) (u6); omega
  have HZ9 : Hid ((u8) / (b) = a) := Lib.hid (by first | omega | (try simp only [← HZ8.out, ← HZ7.out, ← HZ6.out, ← HZ5.out, ← HZ3.out, ← HZ2.out, ← HZ1.out]) <;> first | rfl | omega | (simp; done) | exact Nat.mod_lt _ (by assumption) | exact Nat.div_add_mod' _ _ | exact Nat.gcd_comm _ _ | exact Nat.gcd_zero_left _ | exact Nat.gcd_mul_left _ _ _ | exact (Nat.gcd_mul_left _ _ _).symm | exact Nat.div_self (by assumption) | exact dv1 _ _ _ (by assumption) | exact dv2 _ _ _ | exact gc1 _ _ | exact gc2 _ _ (by assumption) | exact gc3 _ _ (by assumption) | exact gc4 _ _ (by assumption) | exact gc5 _ _ | exact gc6 _ _ | grind)
  have su9 : wl (a) ≤ 49 := by have e := HZ9.out; first | omega | (rw [← e]; have := wl_div (u8) (b); omega)
  have HZ10 : Hid ((u8) % (b) = u6) := Lib.hid (by first | omega | (try simp only [← HZ8.out, ← HZ7.out, ← HZ6.out, ← HZ5.out, ← HZ3.out, ← HZ2.out, ← HZ1.out]) <;> first | rfl | omega | (simp; done) | exact Nat.mod_lt _ (by assumption) | exact Nat.div_add_mod' _ _ | exact Nat.gcd_comm _ _ | exact Nat.gcd_zero_left _ | exact Nat.gcd_mul_left _ _ _ | exact (Nat.gcd_mul_left _ _ _).symm | exact Nat.div_self (by assumption) | exact dv1 _ _ _ (by assumption) | exact dv2 _ _ _ | exact gc1 _ _ | exact gc2 _ _ (by assumption) | exact gc3 _ _ (by assumption) | exact gc4 _ _ (by assumption) | exact gc5 _ _ | exact gc6 _ _ | grind)
  have su10 : wl (u6) ≤ 49 := by have e := HZ10.out; first | omega | (rw [← e]; have := wl_mod (u8) (b); omega)
  have lx0 := bx0.cells
  have lx1 := bx1.cells
  have lx6 := bx6.cells
  have BX0 := Lib.hid bx0
  have BX1 := Lib.hid bx1
  have BX6 := Lib.hid bx6
  clear bx0 bx1 bx6
  refine sK fun K hK => ?_
  refine wp_region_plan 13 [11, 12] [9, 10] (fun i => if i = 11 then 16 else 17) (fun i => if i = 11 then .cells #[.int .u64 0, .string ⟨#[]⟩] 26 else .cells #[.int .u64 0, .string ⟨#[]⟩] 26) [(true, 0), (true, 1), (true, 3), (true, 5), (true, 2), (true, 4), (true, 6), (true, 7), (true, 8), (true, 9), (true, 10)] (by kernel_rfl) (by kernel_rfl) (by intro i hi; simp only [List.mem_cons, List.not_mem_nil, or_false] at hi; rcases hi with rfl | rfl <;> exact ⟨_, rfl, rfl, rfl, by simp, fun ρ w => by kernel_rfl⟩) (by intro i hi; simp only [List.mem_cons, List.not_mem_nil, or_false] at hi; rcases hi with rfl | rfl <;> exact ⟨_, rfl, pure_extract⟩) (fun _ _ _ _ _ h => h) (fun T hT => ?_)
  iterate 4 (refine wpPlan_takeL (v := ?_) rfl (by rfl) (fun w' hw => ?_) ?_; rotate_left; go_simp; with_reducible rfl; simp only [Act.put, rA, rB, rC])
  refine wpPlan_callL rfl (by rfl) Tryd.call23 (fun w' hw => nzmul (a) (b) (u7) _ HZ7.out (by omega) (by omega)) (by rfl) ?_
  simp only [Act.put, rA, rB, rC]
  refine wpPlan_callL rfl (by rfl) Tryd.call18 (fun w' hw => nzadd (u7) (u6) (u8) _ HZ8.out (by omega) (by omega)) (by rfl) ?_
  simp only [Act.put, rA, rB, rC]
  refine wpPlan_callL rfl (by rfl) Tryd.call22 (fun w' hw => nzdiv (u8) (b) (a) (u6) _ HZ9.out HZ10.out (by first | omega | (try simp only [← HZ8.out, ← HZ7.out, ← HZ6.out, ← HZ5.out, ← HZ3.out, ← HZ2.out, ← HZ1.out]) <;> first | rfl | omega | (simp; done) | exact Nat.mod_lt _ (by assumption) | exact Nat.div_add_mod' _ _ | exact Nat.gcd_comm _ _ | exact Nat.gcd_zero_left _ | exact Nat.gcd_mul_left _ _ _ | exact (Nat.gcd_mul_left _ _ _).symm | exact Nat.div_self (by assumption) | exact dv1 _ _ _ (by assumption) | exact dv2 _ _ _ | exact gc1 _ _ | exact gc2 _ _ (by assumption) | exact gc3 _ _ (by assumption) | exact gc4 _ _ (by assumption) | exact gc5 _ _ | exact gc6 _ _ | grind) (by omega) (by omega)) (by rfl) ?_
  simp only [Act.put, rA, rB, rC]
  iterate 4 (refine wpPlan_takeL (v := ?_) rfl (by rfl) (fun w' hw => ?_) ?_; rotate_left; go_simp; with_reducible rfl; simp only [Act.put, rA, rB, rC])
  refine wpPlan_nil (hT.out _ _ ?_); clear hT T
  intro G vw7 hg hf
  simp only [puts, Act.put, rA, rB, rC, rD, rE, ↓reduceIte, Nat.reduceEqDiff]
  clear lx0 lx1 lx6
  have HG := Lib.hid (hg)
  clear hg
  have bx7 := Bx.of_fresh hf (i := 11) (by decide) rfl
  have yx7 := (hf.1 11 (by decide)).1
  have bx8 := Bx.of_fresh hf (i := 12) (by decide) rfl
  have yx8 := (hf.1 12 (by decide)).1
  have dx7_8 : G 11 ≠ G 12 := fun e => absurd (hf.2 11 (by decide) 12 (by decide) e) (by decide)
  clear hf
  generalize G 11 = gx7 at *
  generalize G 12 = gx8 at *
  have qx0_7 : gx0 < gx7 := Nat.lt_of_lt_of_le BX0.out.lt yx7
  have qx0_8 : gx0 < gx8 := Nat.lt_of_lt_of_le BX0.out.lt yx8
  have qx1_7 : gx1 < gx7 := Nat.lt_of_lt_of_le BX1.out.lt yx7
  have qx1_8 : gx1 < gx8 := Nat.lt_of_lt_of_le BX1.out.lt yx8
  have qx6_7 : gx6 < gx7 := Nat.lt_of_lt_of_le BX6.out.lt yx7
  have qx6_8 : gx6 < gx8 := Nat.lt_of_lt_of_le BX6.out.lt yx8
  replace yx7 : w.heap.size ≤ gx7 := Nat.le_trans HB.out.size yx7
  replace yx8 : w.heap.size ≤ gx8 := Nat.le_trans HB.out.size yx8
  replace BX0 := bG BX0 HG
  replace BX1 := bG BX1 HG
  replace BX6 := bG BX6 HG
  have lx7 := bx7.cells; have fx7 := bx7.free
  have lx8 := bx8.cells; have fx8 := bx8.free
  have r0 := Gr.refl vw7
  have BX7 := Lib.hid bx7; clear bx7
  have BX8 := Lib.hid bx8; clear bx8
  go_wp2
  refine hK.out _ _ ?_; clear hK K
  show Code.wp _ _ _ _ _
  clear lx7 fx7
  clear lx8 fx8
  clear r0
  refine forgetW (fun w2 => NX w2 gx0 (a) ∧ NX w2 gx6 (u6) ∧ NX w2 gx7 (a) ∧ NX w2 gx8 (u6) ∧ Below w.heap.size w w2) ⟨so2 (so2 (BX0.out) (by show gx0 ≠ gx7; omega)) (by show gx0 ≠ gx8; omega), so2 (so2 (BX6.out) (by show gx6 ≠ gx7; omega)) (by show gx6 ≠ gx8; omega), (so2 (((BX7.out).set 0 _).set 1 _) (by show gx7 ≠ gx8; omega)).eq (by simp only [rA, rB, rC]), (((so2 (BX8.out) (by show gx8 ≠ gx7; omega)).set 0 _).set 1 _).eq (by simp only [rA, rB, rC]), sc2 (sc2 (HB.out.trans (HG.out.mono HB.out.size)) (by show w.heap.size ≤ gx7; omega)) (by show w.heap.size ≤ gx8; omega)⟩ ?_
  clear HB HG BX0 BX1 BX6 BX7 BX8
  rintro Wx10 ⟨bx0, bx6, bx7, bx8, HB⟩
  replace HB := Lib.hid HB
  have lx0 := bx0.cells
  have lx6 := bx6.cells
  have lx7 := bx7.cells
  have lx8 := bx8.cells
  have BX0 := Lib.hid bx0
  have BX6 := Lib.hid bx6
  have BX7 := Lib.hid bx7
  have BX8 := Lib.hid bx8
  clear bx0 bx6 bx7 bx8
  refine sK fun K hK => ?_
  refine wp_region_seqplan 15 [(true, 0), (true, 1), (true, 2), (true, 3), (true, 4), (true, 5), (true, 6), (true, 7), (true, 8), (true, 9), (true, 10), (true, 11), (true, 12), (true, 13), (true, 14)] (by rfl) (by simp) (fun T hT => ?_)
  iterate 12 (refine wpPlan_takeL (v := ?_) rfl (by rfl) (fun w' hw => ?_) ?_; rotate_left; go_simp; with_reducible rfl; simp only [Act.put, rA, rB, rC])
  refine wpPlan_callL rfl (by rfl) Tryd.call12 (fun w' hw => works_any _ (Lib.hid (HT.out.gr (Gr.trans HB.out hw)))) (by rfl) ?_
  simp only [Act.put, rA, rB, rC]
  iterate 2 (refine wpPlan_takeL (v := ?_) rfl (by rfl) (fun w' hw => ?_) ?_; rotate_left; go_simp; with_reducible rfl; simp only [Act.put, rA, rB, rC])
  refine wpPlan_nil (hT.out _ _ ?_); clear hT T
  intro vw8 hg
  simp only [puts, Act.put, rA, rB, rC, rD, rE, ↓reduceIte, Nat.reduceEqDiff]
  clear lx0 lx6 lx7 lx8
  have HG := Lib.hid (hg)
  clear hg
  replace BX0 := bG BX0 HG
  replace BX6 := bG BX6 HG
  replace BX7 := bG BX7 HG
  replace BX8 := bG BX8 HG
  have r0 := Gr.refl vw8
  go_wp2
  refine hK.out _ _ ?_; clear hK K
  show Code.wp _ _ _ _ _
  clear r0
  refine forgetW (fun w2 => Below w.heap.size w w2) (HB.out.trans (HG.out.mono HB.out.size)) ?_
  clear HB HG BX0 BX6 BX7 BX8
  rintro Wx11 HB
  replace HB := Lib.hid HB
  refine wp_ret ?_
  try simp only [Exit.then, Exit.inBlock]
  have r0 := Gr.refl Wx11
  exact bodyPost_ret (v := .bool true) (by simp [results, Tryd.results7, go_sem]) rfl ⟨rfl, HB.out⟩

set_option maxRecDepth 100000 in
set_option maxHeartbeats 4000000 in
theorem dvd_big1 (vx : Value) (kx : Nat) (fx : Nat → Nat) (vy : Value) (ky : Nat) (fy : Nat → Nat) (vz : Value) (kz : Nat) (fz : Nat → Nat) (a b c : Nat)  (w : World) (HWx : Hid (Wa w vx kx fx)) (HFx : Hid (∀ i, i < kx → fx i < 4294967296)) (HVx : Hid (vl fx kx = a)) (HWy : Hid (Wa w vy ky fy)) (HFy : Hid (∀ i, i < ky → fy i < 4294967296)) (HVy : Hid (vl fy ky = b)) (HWz : Hid (Wa w vz kz fz)) (HFz : Hid (∀ i, i < kz → fz i < 4294967296)) (HVz : Hid (vl fz kz = c))  (hkx : 24 < kx) (HT : Hid (Tab w)) :
    Calls Tryd.prog 7 #[vx, vy, vz] w fun e w' => e = .returned (.bool true) ∧ Below w.heap.size w w' := by
  obtain ⟨ao_x, c_x, rfl⟩ := HWx.out.slice
  obtain ⟨ao_y, c_y, rfl⟩ := HWy.out.slice
  obtain ⟨ao_z, c_z, rfl⟩ := HWz.out.slice
  go_enter Tryd.func7, Tryd.ntmps7
  refine sK fun K hK => ?_
  refine wp_region_lit ?_
  go_wp2
  refine hK.out _ _ ?_; clear hK K
  show Code.wp _ _ _ _ _
  refine forgetW (fun w2 => Below w.heap.size w w2) (Below.refl _ _) ?_
  rintro Wx HB
  replace HB := Lib.hid HB
  refine wp_seq ?_
  have hd1 : 24 < ((kx : Int)) := by omega
  refine sK fun K hK => ?_
  refine wp_region_seqplan 13 [(true, 0), (true, 1), (true, 2), (true, 3), (true, 4), (true, 5), (true, 6), (true, 7), (true, 8), (true, 9), (true, 10), (true, 11), (true, 12)] (by rfl) (by simp) (fun T hT => ?_)
  iterate 4 (refine wpPlan_takeL (v := ?_) rfl (by rfl) (fun w' hw => ?_) ?_; rotate_left; go_simp; with_reducible rfl; simp only [Act.put, rA, rB, rC])
  iterate 3 (refine wpPlan_skipL rfl (by rfl) ?_; simp only [Act.put, rA, rB, rC])
  iterate 2 (refine wpPlan_takeL (v := ?_) rfl (by rfl) (fun w' hw => ?_) ?_; rotate_left; go_simp; with_reducible rfl; simp only [Act.put, rA, rB, rC])
  iterate 3 (refine wpPlan_skipL rfl (by rfl) ?_; simp only [Act.put, rA, rB, rC])
  refine wpPlan_takeL (v := ?_) rfl (by rfl) (fun w' hw => ?_) ?_; rotate_left; go_simp; with_reducible rfl; simp only [Act.put, rA, rB, rC]
  refine wpPlan_nil (hT.out _ _ ?_); clear hT T
  intro vw1 hg
  simp only [puts, Act.put, rA, rB, rC, rD, rE, ↓reduceIte, Nat.reduceEqDiff]
  have HG := Lib.hid (hg)
  clear hg
  have r0 := Gr.refl vw1
  go_wp2
  refine hK.out _ _ ?_; clear hK K
  show Code.wp _ _ _ _ _
  clear r0
  refine forgetW (fun w2 => Below w.heap.size w w2) (HB.out.trans (HG.out.mono HB.out.size)) ?_
  clear HB HG
  rintro Wx1 HB
  replace HB := Lib.hid HB
  clear hd1
  refine wp_cond_true (by rfl) ?_
  refine sK fun K hK => ?_
  refine wp_region_seqplan 2 [(true, 0), (true, 1)] (by rfl) (by simp) (fun T hT => ?_)
  refine wpPlan_callL rfl (by rfl) Tryd.call12 (fun w' hw => works_any _ (Lib.hid (HT.out.gr (Gr.trans HB.out hw)))) (by rfl) ?_
  simp only [Act.put, rA, rB, rC]
  refine wpPlan_takeL (v := ?_) rfl (by rfl) (fun w' hw => ?_) ?_; rotate_left; go_simp; with_reducible rfl; simp only [Act.put, rA, rB, rC]
  refine wpPlan_nil (hT.out _ _ ?_); clear hT T
  intro vw2 hg
  simp only [puts, Act.put, rA, rB, rC, rD, rE, ↓reduceIte, Nat.reduceEqDiff]
  have HG := Lib.hid (hg)
  clear hg
  have r0 := Gr.refl vw2
  go_wp2
  refine hK.out _ _ ?_; clear hK K
  show Code.wp _ _ _ _ _
  clear r0
  refine forgetW (fun w2 => Below w.heap.size w w2) (HB.out.trans (HG.out.mono HB.out.size)) ?_
  clear HB HG
  rintro Wx2 HB
  replace HB := Lib.hid HB
  refine wp_ret ?_
  try simp only [Exit.then, Exit.inBlock]
  have r0 := Gr.refl Wx2
  exact bodyPost_ret (v := .bool true) (by simp [results, Tryd.results7, go_sem]) rfl ⟨rfl, HB.out⟩

set_option maxRecDepth 100000 in
set_option maxHeartbeats 4000000 in
theorem dvd_big2 (vx : Value) (kx : Nat) (fx : Nat → Nat) (vy : Value) (ky : Nat) (fy : Nat → Nat) (vz : Value) (kz : Nat) (fz : Nat → Nat) (a b c : Nat)  (w : World) (HWx : Hid (Wa w vx kx fx)) (HFx : Hid (∀ i, i < kx → fx i < 4294967296)) (HVx : Hid (vl fx kx = a)) (HWy : Hid (Wa w vy ky fy)) (HFy : Hid (∀ i, i < ky → fy i < 4294967296)) (HVy : Hid (vl fy ky = b)) (HWz : Hid (Wa w vz kz fz)) (HFz : Hid (∀ i, i < kz → fz i < 4294967296)) (HVz : Hid (vl fz kz = c)) (hkx : kx ≤ 24) (hky : 24 < ky) (HT : Hid (Tab w)) :
    Calls Tryd.prog 7 #[vx, vy, vz] w fun e w' => e = .returned (.bool true) ∧ Below w.heap.size w w' := by
  obtain ⟨ao_x, c_x, rfl⟩ := HWx.out.slice
  obtain ⟨ao_y, c_y, rfl⟩ := HWy.out.slice
  obtain ⟨ao_z, c_z, rfl⟩ := HWz.out.slice
  go_enter Tryd.func7, Tryd.ntmps7
  refine sK fun K hK => ?_
  refine wp_region_lit ?_
  go_wp2
  refine hK.out _ _ ?_; clear hK K
  show Code.wp _ _ _ _ _
  refine forgetW (fun w2 => Below w.heap.size w w2) (Below.refl _ _) ?_
  rintro Wx HB
  replace HB := Lib.hid HB
  refine wp_seq ?_
  have hd1 : ¬ (24 < ((kx : Int))) := by omega
  have hd2 : 24 < ((ky : Int)) := by omega
  refine sK fun K hK => ?_
  refine wp_region_seqplan 13 [(true, 0), (true, 1), (true, 2), (true, 3), (true, 4), (true, 5), (true, 6), (true, 7), (true, 8), (true, 9), (true, 10), (true, 11), (true, 12)] (by rfl) (by simp) (fun T hT => ?_)
  iterate 9 (refine wpPlan_takeL (v := ?_) rfl (by rfl) (fun w' hw => ?_) ?_; rotate_left; go_simp; with_reducible rfl; simp only [Act.put, rA, rB, rC])
  iterate 3 (refine wpPlan_skipL rfl (by rfl) ?_; simp only [Act.put, rA, rB, rC])
  refine wpPlan_takeL (v := ?_) rfl (by rfl) (fun w' hw => ?_) ?_; rotate_left; go_simp; with_reducible rfl; simp only [Act.put, rA, rB, rC]
  refine wpPlan_nil (hT.out _ _ ?_); clear hT T
  intro vw1 hg
  simp only [puts, Act.put, rA, rB, rC, rD, rE, ↓reduceIte, Nat.reduceEqDiff]
  have HG := Lib.hid (hg)
  clear hg
  have r0 := Gr.refl vw1
  go_wp2
  refine hK.out _ _ ?_; clear hK K
  show Code.wp _ _ _ _ _
  clear r0
  refine forgetW (fun w2 => Below w.heap.size w w2) (HB.out.trans (HG.out.mono HB.out.size)) ?_
  clear HB HG
  rintro Wx1 HB
  replace HB := Lib.hid HB
  clear hd1 hd2
  refine wp_cond_true (by rfl) ?_
  refine sK fun K hK => ?_
  refine wp_region_seqplan 2 [(true, 0), (true, 1)] (by rfl) (by simp) (fun T hT => ?_)
  refine wpPlan_callL rfl (by rfl) Tryd.call12 (fun w' hw => works_any _ (Lib.hid (HT.out.gr (Gr.trans HB.out hw)))) (by rfl) ?_
  simp only [Act.put, rA, rB, rC]
  refine wpPlan_takeL (v := ?_) rfl (by rfl) (fun w' hw => ?_) ?_; rotate_left; go_simp; with_reducible rfl; simp only [Act.put, rA, rB, rC]
  refine wpPlan_nil (hT.out _ _ ?_); clear hT T
  intro vw2 hg
  simp only [puts, Act.put, rA, rB, rC, rD, rE, ↓reduceIte, Nat.reduceEqDiff]
  have HG := Lib.hid (hg)
  clear hg
  have r0 := Gr.refl vw2
  go_wp2
  refine hK.out _ _ ?_; clear hK K
  show Code.wp _ _ _ _ _
  clear r0
  refine forgetW (fun w2 => Below w.heap.size w w2) (HB.out.trans (HG.out.mono HB.out.size)) ?_
  clear HB HG
  rintro Wx2 HB
  replace HB := Lib.hid HB
  refine wp_ret ?_
  try simp only [Exit.then, Exit.inBlock]
  have r0 := Gr.refl Wx2
  exact bodyPost_ret (v := .bool true) (by simp [results, Tryd.results7, go_sem]) rfl ⟨rfl, HB.out⟩

set_option maxRecDepth 100000 in
set_option maxHeartbeats 4000000 in
theorem dvd_big3 (vx : Value) (kx : Nat) (fx : Nat → Nat) (vy : Value) (ky : Nat) (fy : Nat → Nat) (vz : Value) (kz : Nat) (fz : Nat → Nat) (a b c : Nat)  (w : World) (HWx : Hid (Wa w vx kx fx)) (HFx : Hid (∀ i, i < kx → fx i < 4294967296)) (HVx : Hid (vl fx kx = a)) (HWy : Hid (Wa w vy ky fy)) (HFy : Hid (∀ i, i < ky → fy i < 4294967296)) (HVy : Hid (vl fy ky = b)) (HWz : Hid (Wa w vz kz fz)) (HFz : Hid (∀ i, i < kz → fz i < 4294967296)) (HVz : Hid (vl fz kz = c)) (hkx : kx ≤ 24) (hky : ky ≤ 24) (hkz : 24 < kz) (HT : Hid (Tab w)) :
    Calls Tryd.prog 7 #[vx, vy, vz] w fun e w' => e = .returned (.bool true) ∧ Below w.heap.size w w' := by
  obtain ⟨ao_x, c_x, rfl⟩ := HWx.out.slice
  obtain ⟨ao_y, c_y, rfl⟩ := HWy.out.slice
  obtain ⟨ao_z, c_z, rfl⟩ := HWz.out.slice
  go_enter Tryd.func7, Tryd.ntmps7
  refine sK fun K hK => ?_
  refine wp_region_lit ?_
  go_wp2
  refine hK.out _ _ ?_; clear hK K
  show Code.wp _ _ _ _ _
  refine forgetW (fun w2 => Below w.heap.size w w2) (Below.refl _ _) ?_
  rintro Wx HB
  replace HB := Lib.hid HB
  refine wp_seq ?_
  have hd1 : ¬ (24 < ((kx : Int))) := by omega
  have hd2 : ¬ (24 < ((ky : Int))) := by omega
  have hd3 : 24 < ((kz : Int)) := by omega
  refine sK fun K hK => ?_
  refine wp_region_seqplan 13 [(true, 0), (true, 1), (true, 2), (true, 3), (true, 4), (true, 5), (true, 6), (true, 7), (true, 8), (true, 9), (true, 10), (true, 11), (true, 12)] (by rfl) (by simp) (fun T hT => ?_)
  iterate 13 (refine wpPlan_takeL (v := ?_) rfl (by rfl) (fun w' hw => ?_) ?_; rotate_left; go_simp; with_reducible rfl; simp only [Act.put, rA, rB, rC])
  refine wpPlan_nil (hT.out _ _ ?_); clear hT T
  intro vw1 hg
  simp only [puts, Act.put, rA, rB, rC, rD, rE, ↓reduceIte, Nat.reduceEqDiff]
  have HG := Lib.hid (hg)
  clear hg
  have r0 := Gr.refl vw1
  go_wp2
  refine hK.out _ _ ?_; clear hK K
  show Code.wp _ _ _ _ _
  clear r0
  refine forgetW (fun w2 => Below w.heap.size w w2) (HB.out.trans (HG.out.mono HB.out.size)) ?_
  clear HB HG
  rintro Wx1 HB
  replace HB := Lib.hid HB
  clear hd1 hd2 hd3
  refine wp_cond_true (by rfl) ?_
  refine sK fun K hK => ?_
  refine wp_region_seqplan 2 [(true, 0), (true, 1)] (by rfl) (by simp) (fun T hT => ?_)
  refine wpPlan_callL rfl (by rfl) Tryd.call12 (fun w' hw => works_any _ (Lib.hid (HT.out.gr (Gr.trans HB.out hw)))) (by rfl) ?_
  simp only [Act.put, rA, rB, rC]
  refine wpPlan_takeL (v := ?_) rfl (by rfl) (fun w' hw => ?_) ?_; rotate_left; go_simp; with_reducible rfl; simp only [Act.put, rA, rB, rC]
  refine wpPlan_nil (hT.out _ _ ?_); clear hT T
  intro vw2 hg
  simp only [puts, Act.put, rA, rB, rC, rD, rE, ↓reduceIte, Nat.reduceEqDiff]
  have HG := Lib.hid (hg)
  clear hg
  have r0 := Gr.refl vw2
  go_wp2
  refine hK.out _ _ ?_; clear hK K
  show Code.wp _ _ _ _ _
  clear r0
  refine forgetW (fun w2 => Below w.heap.size w w2) (HB.out.trans (HG.out.mono HB.out.size)) ?_
  clear HB HG
  rintro Wx2 HB
  replace HB := Lib.hid HB
  refine wp_ret ?_
  try simp only [Exit.then, Exit.inBlock]
  have r0 := Gr.refl Wx2
  exact bodyPost_ret (v := .bool true) (by simp [results, Tryd.results7, go_sem]) rfl ⟨rfl, HB.out⟩

theorem divides_law (vx : Value) (kx : Nat) (fx : Nat → Nat) (vy : Value) (ky : Nat) (fy : Nat → Nat) (vz : Value) (kz : Nat) (fz : Nat → Nat)  (w : World) (HWx : Hid (Wa w vx kx fx)) (HFx : Hid (∀ i, i < kx → fx i < 4294967296)) (HWy : Hid (Wa w vy ky fy)) (HFy : Hid (∀ i, i < ky → fy i < 4294967296)) (HWz : Hid (Wa w vz kz fz)) (HFz : Hid (∀ i, i < kz → fz i < 4294967296))  (HT : Hid (Tab w)) :
    Calls Tryd.prog 7 #[vx, vy, vz] w fun e w' => e = .returned (.bool true) ∧ Below w.heap.size w w' := by
  by_cases hkx : kx ≤ 24
  · by_cases hky : ky ≤ 24
    · by_cases hkz : kz ≤ 24
      · skip
        obtain ⟨a, ha⟩ : ∃ z, vl fx kx = z := ⟨_, rfl⟩
        obtain ⟨b, hb⟩ : ∃ z, vl fy ky = z := ⟨_, rfl⟩
        obtain ⟨c, hc⟩ : ∃ z, vl fz kz = z := ⟨_, rfl⟩
        rcases Nat.eq_zero_or_pos b with h | h
        · exact dvd_zero vx kx fx vy ky fy vz kz fz a c w HWx HFx (Lib.hid ha) HWy HFy (Lib.hid (hb.trans h)) HWz HFz (Lib.hid hc) hkx hky hkz HT
        · exact dvd_pos vx kx fx vy ky fy vz kz fz a b c w HWx HFx (Lib.hid ha) HWy HFy (Lib.hid hb) HWz HFz (Lib.hid hc) hkx hky hkz h HT
      · exact dvd_big3 vx kx fx vy ky fy vz kz fz _ _ _  w HWx HFx (Lib.hid rfl) HWy HFy (Lib.hid rfl) HWz HFz (Lib.hid rfl) hkx hky (by omega) HT
    · exact dvd_big2 vx kx fx vy ky fy vz kz fz _ _ _  w HWx HFx (Lib.hid rfl) HWy HFy (Lib.hid rfl) HWz HFz (Lib.hid rfl) hkx (by omega) HT
  · exact dvd_big1 vx kx fx vy ky fy vz kz fz _ _ _  w HWx HFx (Lib.hid rfl) HWy HFy (Lib.hid rfl) HWz HFz (Lib.hid rfl)  (by omega) HT

end Go.Proofs.YteenojfbnbkedaaDoor
