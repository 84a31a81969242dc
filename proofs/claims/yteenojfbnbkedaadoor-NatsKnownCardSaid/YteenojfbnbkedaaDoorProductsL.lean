
/- NatsProducts: the law's walk. -/
import Derived.Test.YteenojfbnbkedaaDoorSh
import Derived.Test.YteenojfbnbkedaaDoorPlainN
namespace Go.Proofs.YteenojfbnbkedaaDoor
open Go.RowKit
set_option linter.unusedSimpArgs false
set_option linter.unusedVariables false
attribute [local go_sem ↓] Go.wp_at_zero Go.wp_at_succ
attribute [local go_sem ↓] eq_nat eq_nat_zero
set_option maxRecDepth 100000 in
set_option maxHeartbeats 4000000 in
theorem prod_zero (vx : Value) (kx : Nat) (fx : Nat → Nat) (vy : Value) (ky : Nat) (fy : Nat → Nat) (a : Nat)  (w : World) (HWx : Hid (Wa w vx kx fx)) (HFx : Hid (∀ i, i < kx → fx i < 4294967296)) (HVx : Hid (vl fx kx = a)) (HWy : Hid (Wa w vy ky fy)) (HFy : Hid (∀ i, i < ky → fy i < 4294967296)) (HVy : Hid (vl fy ky = 0)) (hkx : kx ≤ 16) (hky : ky ≤ 16) (HT : Hid (Tab w)) :
    Calls Tryd.prog 4 #[vx, vy] w fun e w' => e = .returned (.bool true) ∧ Below w.heap.size w w' := by
  obtain ⟨ao_x, c_x, rfl⟩ := HWx.out.slice
  obtain ⟨ao_y, c_y, rfl⟩ := HWy.out.slice
  have hb_a : wl a ≤ 16 := by rw [← HVx.out]; have := wl_le.2 (vl_lt HFx.out); omega
  have hb_0 : wl 0 ≤ 16 := by rw [← HVy.out]; have := wl_le.2 (vl_lt HFy.out); omega
  go_enter Tryd.func4, Tryd.ntmps4
  refine sK fun K hK => ?_
  refine wp_region_lit ?_
  go_wp2
  refine hK.out _ _ ?_; clear hK K
  show Code.wp _ _ _ _ _
  refine forgetW (fun w2 => Below w.heap.size w w2) (Below.refl _ _) ?_
  rintro Wx HB
  replace HB := Lib.hid HB
  refine wp_seq ?_
  have hd1 : ¬ (16 < ((kx : Int))) := by omega
  have hd2 : ¬ (16 < ((ky : Int))) := by omega
  refine sK fun K hK => ?_
  refine wp_region_seqplan 8 [(true, 0), (true, 1), (true, 2), (true, 3), (true, 4), (true, 5), (true, 6), (true, 7)] (by rfl) (by simp) (fun T hT => ?_)
  iterate 8 (refine wpPlan_takeL (v := ?_) rfl (by rfl) (fun w' hw => ?_) ?_; rotate_left; go_simp; with_reducible rfl; simp only [Act.put, rA, rB, rC])
  refine wpPlan_nil (hT.out _ _ ?_); clear hT T
  intro vw1 hg
  simp only [puts, Act.put, rA, rB, rC, rD, rE, ↓reduceIte, Nat.reduceEqDiff]
  have HG := Lib.hid (hg)
  clear hg
  have r0 := Gr.refl vw1
  go_wp2
  refine hK.out _ _ ?_; clear hK K
  show Code.wp _ _ _ _ _
  clear r0
  refine forgetW (fun w2 => Below w.heap.size w w2) (HB.out.trans (HG.out.mono HB.out.size)) ?_
  clear HB HG
  rintro Wx1 HB
  replace HB := Lib.hid HB
  clear hd1 hd2
  refine wp_cond_false (by rfl) ?_
  refine wp_skip ?_
  show Code.wp _ _ _ _ _
  refine sK fun K hK => ?_
  refine wp_region_seqplan 4 [(true, 0), (true, 1), (true, 2), (true, 3)] (by rfl) (by simp) (fun T hT => ?_)
  refine wpPlan_takeL (v := ?_) rfl (by rfl) (fun w' hw => ?_) ?_; rotate_left; go_simp; with_reducible rfl; simp only [Act.put, rA, rB, rC]
  refine wpPlan_callL rfl (by rfl) Tryd.call13 (fun w' hw => zmade _ kx fx a w _ HVx.out (by omega) HWx.out (Gr.trans HB.out hw) HFx.out) (by rfl) ?_
  simp only [Act.put, rA, rB, rC]
  refine wpPlan_takeL (v := ?_) rfl (by rfl) (fun w' hw => ?_) ?_; rotate_left; go_simp; with_reducible rfl; simp only [Act.put, rA, rB, rC]
  refine wpPlan_callL rfl (by rfl) Tryd.call13 (fun w' hw => zmade _ ky fy 0 w _ HVy.out (by omega) HWy.out (Gr.trans HB.out hw) HFy.out) (by rfl) ?_
  simp only [Act.put, rA, rB, rC]
  refine wpPlan_nil (hT.out _ _ ?_); clear hT T
  intro vw2 hg
  simp only [puts, Act.put, rA, rB, rC, rD, rE, ↓reduceIte, Nat.reduceEqDiff]
  have HG := Lib.hid (hg)
  clear hg
  have r0 := Gr.refl vw2
  go_wp2
  refine hK.out _ _ ?_; clear hK K
  show Code.wp _ _ _ _ _
  clear r0
  have hsz : w.heap.size ≤ vw2.heap.size := Nat.le_trans HB.out.size HG.out.size
  refine forgetW (fun w2 => NX w2 (vw2.heap.size) (a) ∧ NX w2 (vw2.heap.size + 1) (0) ∧ Below w.heap.size w w2) ⟨((Bx.at (by simp) : Bx _ (vw2.heap.size) _ _)).alloc _, (Bx.at (by simp) : Bx _ (vw2.heap.size + 1) _ _), ((HB.out.trans (HG.out.mono HB.out.size)).alloc (by first | omega | (simp; omega)) _).alloc (by first | omega | (simp; omega)) _⟩ ?_
  clear HB HG
  rintro Wx3 ⟨bx0, bx1, HB⟩
  replace HB := Lib.hid HB
  have qx0_1 : vw2.heap.size < vw2.heap.size + 1 := by omega
  have yx1 : w.heap.size ≤ vw2.heap.size + 1 := by omega
  generalize hx1 : vw2.heap.size + 1 = gx1 at *
  clear hx1
  have yx0 : w.heap.size ≤ vw2.heap.size := by omega
  generalize hx0 : vw2.heap.size = gx0 at *
  clear hx0
  clear hsz
  have su1 : tw a ≤ 48 := by rw [← HVx.out]; have := tw_wl (vl fx kx); have := wl_le.2 (vl_lt HFx.out); omega
  have su2 : tw 0 ≤ 48 := by rw [← HVy.out]; have := tw_wl (vl fy ky); have := wl_le.2 (vl_lt HFy.out); omega
  have BX0 := Lib.hid bx0
  have BX1 := Lib.hid bx1
  clear bx0 bx1
  refine sK fun K hK => ?_
  have HS0 := Lib.hid (HB.out.size)
  have MX0 : gx0 < Wx3.heap.size := BX0.out.lt
  have MX1 : gx1 < Wx3.heap.size := BX1.out.lt
  refine wp_region_seqplan 6 [(true, 0), (false, 1), (true, 2), (false, 3), (true, 4), (true, 5)] (by rfl) (by simp) (fun T hT => ?_)
  refine wpPlan_takeL (v := ?_) rfl (by rfl) (fun w' hw => ?_) ?_; rotate_left; go_simp; with_reducible rfl; simp only [Act.put, rA, rB, rC]
  refine wpPlan_callE rfl (by rfl) Tryd.call14 (by rfl) (fun w' hw => (zrofw _ kx fx a w _ HVx.out (by omega) HWx.out (Gr.trans HB.out hw) HFx.out).mono ?_)
  rintro e vv1 ⟨⟨rv1, rfl, bx2⟩, hg0⟩
  obtain ⟨ao1, nn1, cc1, rfl⟩ := Rn.sl bx2
  refine ⟨_, rfl, hg0, ?_⟩
  replace hg0 := Gr.trans hw hg0; clear hw
  have HG0 := Lib.hid hg0; clear hg0
  replace BX0 := bG BX0 HG0
  replace BX1 := bG BX1 HG0
  replace HB := Lib.hid (HB.out.trans (HG0.out.mono HB.out.size))
  have BX2 := Lib.hid bx2; clear bx2
  clear HG0
  simp only [Act.put, rA, rB, rC]
  refine wpPlan_takeL (v := ?_) rfl (by rfl) (fun w' hw => ?_) ?_; rotate_left; go_simp; with_reducible rfl; simp only [Act.put, rA, rB, rC]
  refine wpPlan_callE rfl (by rfl) Tryd.call14 (by rfl) (fun w' hw => (zrofw _ ky fy 0 w _ HVy.out (by omega) HWy.out (Gr.trans HB.out hw) HFy.out).mono ?_)
  rintro e vv2 ⟨⟨rv2, rfl, bx3⟩, hg0⟩
  obtain ⟨ao2, nn2, cc2, rfl⟩ := Rn.sl bx3
  refine ⟨_, rfl, hg0, ?_⟩
  replace hg0 := Gr.trans hw hg0; clear hw
  have HG0 := Lib.hid hg0; clear hg0
  replace BX0 := bG BX0 HG0
  replace BX1 := bG BX1 HG0
  replace BX2 := rG BX2 HG0
  replace HB := Lib.hid (HB.out.trans (HG0.out.mono HB.out.size))
  have BX3 := Lib.hid bx3; clear bx3
  clear HG0
  simp only [Act.put, rA, rB, rC]
  iterate 2 (refine wpPlan_takeL (v := ?_) rfl (by rfl) (fun w' hw => ?_) ?_; rotate_left; go_simp; with_reducible rfl; simp only [Act.put, rA, rB, rC])
  refine wpPlan_nil (hT.out _ _ ?_); clear hT T
  intro vw3 hg
  simp only [puts, Act.put, rA, rB, rC, rD, rE, ↓reduceIte, Nat.reduceEqDiff]
  have HG := Lib.hid (hg)
  clear hg
  replace BX0 := bG BX0 HG
  replace BX1 := bG BX1 HG
  replace BX2 := rG BX2 HG
  replace BX3 := rG BX3 HG
  have r0 := Gr.refl vw3
  go_wp2
  refine hK.out _ _ ?_; clear hK K
  show Code.wp _ _ _ _ _
  clear r0
  refine forgetW (fun w2 => NX w2 gx0 (a) ∧ NX w2 gx1 (0) ∧ Rn w2 (.slice ao1 nn1 cc1) (a) ∧ Rn w2 (.slice ao2 nn2 cc2) (0) ∧ Below w.heap.size w w2) ⟨BX0.out, BX1.out, BX2.out, BX3.out, HB.out.trans (HG.out.mono HB.out.size)⟩ ?_
  clear HB HG BX0 BX1 BX2 BX3
  rintro Wx4 ⟨bx0, bx1, bx2, bx3, HB⟩
  replace HB := Lib.hid HB
  have lx0 := bx0.cells
  have lx1 := bx1.cells
  have BX0 := Lib.hid bx0
  have BX1 := Lib.hid bx1
  have BX2 := Lib.hid bx2
  have BX3 := Lib.hid bx3
  clear bx0 bx1 bx2 bx3
  refine sK fun K hK => ?_
  refine wp_region_seqplan 7 [(true, 0), (true, 1), (true, 2), (true, 3), (true, 4), (true, 5), (true, 6)] (by rfl) (by simp) (fun T hT => ?_)
  iterate 2 (refine wpPlan_takeL (v := ?_) rfl (by rfl) (fun w' hw => ?_) ?_; rotate_left; go_simp; with_reducible rfl; simp only [Act.put, rA, rB, rC])
  refine wpPlan_callL rfl (by rfl) Tryd.call22 (fun w' hw => nzdivno (a) (0) _ (by first | rfl | omega | (simp; done) | exact Nat.div_add_mod' _ _ | grind) (by omega) (by omega)) (by rfl) ?_
  simp only [Act.put, rA, rB, rC]
  iterate 4 (refine wpPlan_takeL (v := ?_) rfl (by rfl) (fun w' hw => ?_) ?_; rotate_left; go_simp; with_reducible rfl; simp only [Act.put, rA, rB, rC])
  refine wpPlan_nil (hT.out _ _ ?_); clear hT T
  intro vw4 hg
  simp only [puts, Act.put, rA, rB, rC, rD, rE, ↓reduceIte, Nat.reduceEqDiff]
  clear lx0 lx1
  have HG := Lib.hid (hg)
  clear hg
  replace BX0 := bG BX0 HG
  replace BX1 := bG BX1 HG
  replace BX2 := rG BX2 HG
  replace BX3 := rG BX3 HG
  have r0 := Gr.refl vw4
  go_wp2
  refine hK.out _ _ ?_; clear hK K
  show Code.wp _ _ _ _ _
  clear r0
  have hsz : w.heap.size ≤ vw4.heap.size := Nat.le_trans HB.out.size HG.out.size
  have mx0 : gx0 < vw4.heap.size := BX0.out.lt
  have mx1 : gx1 < vw4.heap.size := BX1.out.lt
  refine forgetW (fun w2 => NX w2 gx0 (a) ∧ NX w2 gx1 (0) ∧ Rn w2 (.slice ao1 nn1 cc1) (a) ∧ Rn w2 (.slice ao2 nn2 cc2) (0) ∧ NX w2 (vw4.heap.size) (0) ∧ NX w2 (vw4.heap.size + 1) (0) ∧ Below w.heap.size w w2) ⟨((BX0.out).alloc _).alloc _, ((BX1.out).alloc _).alloc _, ((BX2.out).alloc _).alloc _, ((BX3.out).alloc _).alloc _, ((Bx.at (by simp) : Bx _ (vw4.heap.size) _ _)).alloc _, (Bx.at (by simp) : Bx _ (vw4.heap.size + 1) _ _), ((HB.out.trans (HG.out.mono HB.out.size)).alloc (by first | omega | (simp; omega)) _).alloc (by first | omega | (simp; omega)) _⟩ ?_
  clear HB HG BX0 BX1 BX2 BX3
  rintro Wx5 ⟨bx0, bx1, bx2, bx3, bx4, bx5, HB⟩
  replace HB := Lib.hid HB
  have qx4_5 : vw4.heap.size < vw4.heap.size + 1 := by omega
  have yx5 : w.heap.size ≤ vw4.heap.size + 1 := by omega
  have qx0_5 : gx0 < vw4.heap.size + 1 := by omega
  have qx1_5 : gx1 < vw4.heap.size + 1 := by omega
  generalize hx5 : vw4.heap.size + 1 = gx5 at *
  clear hx5
  have yx4 : w.heap.size ≤ vw4.heap.size := by omega
  have qx0_4 : gx0 < vw4.heap.size := by omega
  have qx1_4 : gx1 < vw4.heap.size := by omega
  generalize hx4 : vw4.heap.size = gx4 at *
  clear hx4
  clear hsz mx0 mx1
  refine wp_seq ?_
  have HZ3 : Hid ((a) * (0) = 0) := Lib.hid (by first | rfl | omega | (simp; done) | exact Nat.div_add_mod' _ _ | grind)
  have su3 : wl (0) ≤ 32 := by have e := HZ3.out; first | omega | (rw [← e]; have := wl_mul (a) (0); omega) | exact wl_le.2 (by decide +kernel)
  have HZ4 : Hid ((a) * (0) = 0) := Lib.hid (by first | rfl | omega | (simp; done) | exact Nat.div_add_mod' _ _ | grind)
  have su4 : tw (0) ≤ 96 := by have e := HZ4.out; first | omega | (rw [← e]; have := tw_mul (a) (0); omega) | exact tw_le.2 (by decide +kernel)
  have HZ5 : Hid (Nat.gcd (a) (0) = a) := Lib.hid (by first | rfl | omega | (simp; done) | exact Nat.div_add_mod' _ _ | grind)
  have su5 : wl (a) ≤ 16 := by have e := HZ5.out; first | omega | (rw [← e]; have := wl_gcd (a) (0); omega)
  have HZ6 : Hid (Nat.gcd (a) (0) = a) := Lib.hid (by first | rfl | omega | (simp; done) | exact Nat.div_add_mod' _ _ | grind)
  have su6 : tw (a) ≤ 48 := by have e := HZ6.out; first | omega | (rw [← e]; have := tw_gcd (a) (0); omega)
  have hd3 : ¬ (0 < ((nn2 : Int))) := by have hl := Rn.len bx3; have ht := (tw_pos (n := 0)); have hz := (tw_eq_zero (n := 0)); omega
  have hd4 : ¬ (0 < nn2) := by have e := hd3; omega
  have lx0 := bx0.cells
  have lx1 := bx1.cells
  have BX0 := Lib.hid bx0
  have BX1 := Lib.hid bx1
  have BX2 := Lib.hid bx2
  have BX3 := Lib.hid bx3
  have BX4 := Lib.hid bx4
  have BX5 := Lib.hid bx5
  clear bx0 bx1 bx2 bx3 bx4 bx5
  refine sK fun K hK => ?_
  have HS0 := Lib.hid (HB.out.size)
  have MX0 : gx0 < Wx5.heap.size := BX0.out.lt
  have MX1 : gx1 < Wx5.heap.size := BX1.out.lt
  have MX4 : gx4 < Wx5.heap.size := BX4.out.lt
  have MX5 : gx5 < Wx5.heap.size := BX5.out.lt
  refine wp_region_seqplan 25 [(true, 0), (true, 1), (true, 2), (true, 3), (true, 4), (false, 5), (true, 6), (true, 7), (true, 8), (true, 9), (true, 10), (true, 11), (true, 12), (true, 13), (false, 14), (true, 15), (true, 16), (true, 17), (true, 18), (true, 19), (true, 20), (true, 21), (true, 22), (true, 23), (true, 24)] (by rfl) (by simp) (fun T hT => ?_)
  iterate 2 (refine wpPlan_takeL (v := ?_) rfl (by rfl) (fun w' hw => ?_) ?_; rotate_left; go_simp; with_reducible rfl; simp only [Act.put, rA, rB, rC])
  refine wpPlan_callL rfl (by rfl) Tryd.call23 (fun w' hw => nzmul (a) (0) (0) _ HZ3.out (by omega) (by omega)) (by rfl) ?_
  simp only [Act.put, rA, rB, rC]
  iterate 2 (refine wpPlan_takeL (v := ?_) rfl (by rfl) (fun w' hw => ?_) ?_; rotate_left; go_simp; with_reducible rfl; simp only [Act.put, rA, rB, rC])
  refine wpPlan_callE rfl (by rfl) Tryd.call24 (by rfl) (fun w' hw => (zrmul _ _ (a) (0) (0) _ HZ4.out (BX2.out.gr hw) (BX3.out.gr hw) (by omega) (by omega)).mono ?_)
  rintro e vv1 ⟨⟨rv3, rfl, bx6⟩, hg0⟩
  obtain ⟨ao3, nn3, cc3, rfl⟩ := Rn.sl bx6
  refine ⟨_, rfl, hg0, ?_⟩
  replace hg0 := Gr.trans hw hg0; clear hw
  have HG0 := Lib.hid hg0; clear hg0
  replace BX0 := bG BX0 HG0
  replace BX1 := bG BX1 HG0
  replace BX2 := rG BX2 HG0
  replace BX3 := rG BX3 HG0
  replace BX4 := bG BX4 HG0
  replace BX5 := bG BX5 HG0
  replace HB := Lib.hid (HB.out.trans (HG0.out.mono HB.out.size))
  have BX6 := Lib.hid bx6; clear bx6
  clear HG0
  clear lx0; have lx0 := BX0.out.cells
  clear lx1; have lx1 := BX1.out.cells
  simp only [Act.put, rA, rB, rC]
  refine wpPlan_callL rfl (by rfl) Tryd.call17 (fun w' hw => same_any (0) (0) _ _ (rfl) (BX6.out.gr hw) (by omega) (by omega) (Lib.hid (HT.out.gr (Gr.trans HB.out hw)))) (by rfl) ?_
  simp only [Act.put, rA, rB, rC]
  iterate 4 (refine wpPlan_takeL (v := ?_) rfl (by rfl) (fun w' hw => ?_) ?_; rotate_left; go_simp; with_reducible rfl; simp only [Act.put, rA, rB, rC])
  refine wpPlan_callL rfl (by rfl) Tryd.call25 (fun w' hw => nzgcd (a) (0) (a) _ HZ5.out (by omega) (by omega)) (by rfl) ?_
  simp only [Act.put, rA, rB, rC]
  iterate 2 (refine wpPlan_takeL (v := ?_) rfl (by rfl) (fun w' hw => ?_) ?_; rotate_left; go_simp; with_reducible rfl; simp only [Act.put, rA, rB, rC])
  refine wpPlan_callE rfl (by rfl) Tryd.call26 (by rfl) (fun w' hw => (zrgcd _ _ (a) (0) (a) _ HZ6.out (BX2.out.gr hw) (BX3.out.gr hw) (by omega) (by omega)).mono ?_)
  rintro e vv2 ⟨⟨rv4, rfl, bx7⟩, hg0⟩
  obtain ⟨ao4, nn4, cc4, rfl⟩ := Rn.sl bx7
  refine ⟨_, rfl, hg0, ?_⟩
  replace hg0 := Gr.trans hw hg0; clear hw
  have HG0 := Lib.hid hg0; clear hg0
  replace BX0 := bG BX0 HG0
  replace BX1 := bG BX1 HG0
  replace BX2 := rG BX2 HG0
  replace BX3 := rG BX3 HG0
  replace BX4 := bG BX4 HG0
  replace BX5 := bG BX5 HG0
  replace BX6 := rG BX6 HG0
  replace HB := Lib.hid (HB.out.trans (HG0.out.mono HB.out.size))
  have BX7 := Lib.hid bx7; clear bx7
  clear HG0
  clear lx0; have lx0 := BX0.out.cells
  clear lx1; have lx1 := BX1.out.cells
  simp only [Act.put, rA, rB, rC]
  refine wpPlan_callL rfl (by rfl) Tryd.call17 (fun w' hw => same_any (a) (a) _ _ (rfl) (BX7.out.gr hw) (by omega) (by omega) (Lib.hid (HT.out.gr (Gr.trans HB.out hw)))) (by rfl) ?_
  simp only [Act.put, rA, rB, rC]
  iterate 9 (refine wpPlan_takeL (v := ?_) rfl (by rfl) (fun w' hw => ?_) ?_; rotate_left; go_simp; with_reducible rfl; simp only [Act.put, rA, rB, rC])
  refine wpPlan_nil (hT.out _ _ ?_); clear hT T
  intro vw5 hg
  simp only [puts, Act.put, rA, rB, rC, rD, rE, ↓reduceIte, Nat.reduceEqDiff]
  clear lx0 lx1
  have HG := Lib.hid (hg)
  clear hg
  replace BX0 := bG BX0 HG
  replace BX1 := bG BX1 HG
  replace BX2 := rG BX2 HG
  replace BX3 := rG BX3 HG
  replace BX4 := bG BX4 HG
  replace BX5 := bG BX5 HG
  replace BX6 := rG BX6 HG
  replace BX7 := rG BX7 HG
  have r0 := Gr.refl vw5
  go_wp2
  refine hK.out _ _ ?_; clear hK K
  show Code.wp _ _ _ _ _
  clear r0
  refine forgetW (fun w2 => Rn w2 (.slice ao1 nn1 cc1) (a) ∧ Rn w2 (.slice ao2 nn2 cc2) (0) ∧ NX w2 gx4 (0) ∧ NX w2 gx5 (0) ∧ Below w.heap.size w w2) ⟨BX2.out, BX3.out, BX4.out, BX5.out, HB.out.trans (HG.out.mono HB.out.size)⟩ ?_
  clear HB HG BX0 BX1 BX2 BX3 BX4 BX5 BX6 BX7
  rintro Wx6 ⟨bx2, bx3, bx4, bx5, HB⟩
  replace HB := Lib.hid HB
  clear hd3 hd4
  refine wp_cond_false (by rfl) ?_
  refine wp_skip ?_
  show Code.wp _ _ _ _ _
  refine wp_seq ?_
  have BX2 := Lib.hid bx2
  have BX3 := Lib.hid bx3
  have BX4 := Lib.hid bx4
  have BX5 := Lib.hid bx5
  clear bx2 bx3 bx4 bx5
  refine sK fun K hK => ?_
  refine wp_region_seqplan 2 [(true, 0), (true, 1)] (by rfl) (by simp) (fun T hT => ?_)
  iterate 2 (refine wpPlan_takeL (v := ?_) rfl (by rfl) (fun w' hw => ?_) ?_; rotate_left; go_simp; with_reducible rfl; simp only [Act.put, rA, rB, rC])
  refine wpPlan_nil (hT.out _ _ ?_); clear hT T
  intro vw6 hg
  simp only [puts, Act.put, rA, rB, rC, rD, rE, ↓reduceIte, Nat.reduceEqDiff]
  have HG := Lib.hid (hg)
  clear hg
  replace BX2 := rG BX2 HG
  replace BX3 := rG BX3 HG
  replace BX4 := bG BX4 HG
  replace BX5 := bG BX5 HG
  have r0 := Gr.refl vw6
  go_wp2
  refine hK.out _ _ ?_; clear hK K
  show Code.wp _ _ _ _ _
  clear r0
  refine forgetW (fun w2 => Rn w2 (.slice ao1 nn1 cc1) (a) ∧ Rn w2 (.slice ao2 nn2 cc2) (0) ∧ NX w2 gx4 (0) ∧ NX w2 gx5 (0) ∧ Below w.heap.size w w2) ⟨BX2.out, BX3.out, BX4.out, BX5.out, HB.out.trans (HG.out.mono HB.out.size)⟩ ?_
  clear HB HG BX2 BX3 BX4 BX5
  rintro Wx8 ⟨bx2, bx3, bx4, bx5, HB⟩
  replace HB := Lib.hid HB
  refine wp_cond_true (by rfl) ?_
  have lx4 := bx4.cells
  have lx5 := bx5.cells
  have BX2 := Lib.hid bx2
  have BX3 := Lib.hid bx3
  have BX4 := Lib.hid bx4
  have BX5 := Lib.hid bx5
  clear bx2 bx3 bx4 bx5
  refine sK fun K hK => ?_
  refine wp_region_seqplan 12 [(true, 0), (true, 1), (true, 2), (true, 3), (true, 4), (true, 5), (true, 6), (true, 7), (true, 8), (true, 9), (true, 10), (true, 11)] (by rfl) (by simp) (fun T hT => ?_)
  iterate 9 (refine wpPlan_takeL (v := ?_) rfl (by rfl) (fun w' hw => ?_) ?_; rotate_left; go_simp; with_reducible rfl; simp only [Act.put, rA, rB, rC])
  refine wpPlan_callL rfl (by rfl) Tryd.call12 (fun w' hw => works_any _ (Lib.hid (HT.out.gr (Gr.trans HB.out hw)))) (by rfl) ?_
  simp only [Act.put, rA, rB, rC]
  iterate 2 (refine wpPlan_takeL (v := ?_) rfl (by rfl) (fun w' hw => ?_) ?_; rotate_left; go_simp; with_reducible rfl; simp only [Act.put, rA, rB, rC])
  refine wpPlan_nil (hT.out _ _ ?_); clear hT T
  intro vw7 hg
  simp only [puts, Act.put, rA, rB, rC, rD, rE, ↓reduceIte, Nat.reduceEqDiff]
  clear lx4 lx5
  have HG := Lib.hid (hg)
  clear hg
  replace BX2 := rG BX2 HG
  replace BX3 := rG BX3 HG
  replace BX4 := bG BX4 HG
  replace BX5 := bG BX5 HG
  have r0 := Gr.refl vw7
  go_wp2
  refine hK.out _ _ ?_; clear hK K
  show Code.wp _ _ _ _ _
  clear r0
  refine forgetW (fun w2 => Rn w2 (.slice ao1 nn1 cc1) (a) ∧ Rn w2 (.slice ao2 nn2 cc2) (0) ∧ NX w2 gx4 (0) ∧ NX w2 gx5 (0) ∧ Below w.heap.size w w2) ⟨BX2.out, BX3.out, BX4.out, BX5.out, HB.out.trans (HG.out.mono HB.out.size)⟩ ?_
  clear HB HG BX2 BX3 BX4 BX5
  rintro Wx9 ⟨bx2, bx3, bx4, bx5, HB⟩
  replace HB := Lib.hid HB
  refine wp_ret ?_
  try simp only [Exit.then, Exit.inBlock]
  have r0 := Gr.refl Wx9
  exact bodyPost_ret (v := .bool true) (by simp [results, Tryd.results4, go_sem]) rfl ⟨rfl, HB.out⟩

set_option maxRecDepth 100000 in
set_option maxHeartbeats 4000000 in
theorem prod_pos (vx : Value) (kx : Nat) (fx : Nat → Nat) (vy : Value) (ky : Nat) (fy : Nat → Nat) (a b : Nat)  (w : World) (HWx : Hid (Wa w vx kx fx)) (HFx : Hid (∀ i, i < kx → fx i < 4294967296)) (HVx : Hid (vl fx kx = a)) (HWy : Hid (Wa w vy ky fy)) (HFy : Hid (∀ i, i < ky → fy i < 4294967296)) (HVy : Hid (vl fy ky = b)) (hkx : kx ≤ 16) (hky : ky ≤ 16) (hb0 : 0 < b) (HT : Hid (Tab w)) :
    Calls Tryd.prog 4 #[vx, vy] w fun e w' => e = .returned (.bool true) ∧ Below w.heap.size w w' := by
  obtain ⟨ao_x, c_x, rfl⟩ := HWx.out.slice
  obtain ⟨ao_y, c_y, rfl⟩ := HWy.out.slice
  have hb_a : wl a ≤ 16 := by rw [← HVx.out]; have := wl_le.2 (vl_lt HFx.out); omega
  have hb_b : wl b ≤ 16 := by rw [← HVy.out]; have := wl_le.2 (vl_lt HFy.out); omega
  go_enter Tryd.func4, Tryd.ntmps4
  refine sK fun K hK => ?_
  refine wp_region_lit ?_
  go_wp2
  refine hK.out _ _ ?_; clear hK K
  show Code.wp _ _ _ _ _
  refine forgetW (fun w2 => Below w.heap.size w w2) (Below.refl _ _) ?_
  rintro Wx HB
  replace HB := Lib.hid HB
  refine wp_seq ?_
  have hd1 : ¬ (16 < ((kx : Int))) := by omega
  have hd2 : ¬ (16 < ((ky : Int))) := by omega
  refine sK fun K hK => ?_
  refine wp_region_seqplan 8 [(true, 0), (true, 1), (true, 2), (true, 3), (true, 4), (true, 5), (true, 6), (true, 7)] (by rfl) (by simp) (fun T hT => ?_)
  iterate 8 (refine wpPlan_takeL (v := ?_) rfl (by rfl) (fun w' hw => ?_) ?_; rotate_left; go_simp; with_reducible rfl; simp only [Act.put, rA, rB, rC])
  refine wpPlan_nil (hT.out _ _ ?_); clear hT T
  intro vw1 hg
  simp only [puts, Act.put, rA, rB, rC, rD, rE, ↓reduceIte, Nat.reduceEqDiff]
  have HG := Lib.hid (hg)
  clear hg
  have r0 := Gr.refl vw1
  go_wp2
  refine hK.out _ _ ?_; clear hK K
  show Code.wp _ _ _ _ _
  clear r0
  refine forgetW (fun w2 => Below w.heap.size w w2) (HB.out.trans (HG.out.mono HB.out.size)) ?_
  clear HB HG
  rintro Wx1 HB
  replace HB := Lib.hid HB
  clear hd1 hd2
  refine wp_cond_false (by rfl) ?_
  refine wp_skip ?_
  show Code.wp _ _ _ _ _
  refine sK fun K hK => ?_
  refine wp_region_seqplan 4 [(true, 0), (true, 1), (true, 2), (true, 3)] (by rfl) (by simp) (fun T hT => ?_)
  refine wpPlan_takeL (v := ?_) rfl (by rfl) (fun w' hw => ?_) ?_; rotate_left; go_simp; with_reducible rfl; simp only [Act.put, rA, rB, rC]
  refine wpPlan_callL rfl (by rfl) Tryd.call13 (fun w' hw => zmade _ kx fx a w _ HVx.out (by omega) HWx.out (Gr.trans HB.out hw) HFx.out) (by rfl) ?_
  simp only [Act.put, rA, rB, rC]
  refine wpPlan_takeL (v := ?_) rfl (by rfl) (fun w' hw => ?_) ?_; rotate_left; go_simp; with_reducible rfl; simp only [Act.put, rA, rB, rC]
  refine wpPlan_callL rfl (by rfl) Tryd.call13 (fun w' hw => zmade _ ky fy b w _ HVy.out (by omega) HWy.out (Gr.trans HB.out hw) HFy.out) (by rfl) ?_
  simp only [Act.put, rA, rB, rC]
  refine wpPlan_nil (hT.out _ _ ?_); clear hT T
  intro vw2 hg
  simp only [puts, Act.put, rA, rB, rC, rD, rE, ↓reduceIte, Nat.reduceEqDiff]
  have HG := Lib.hid (hg)
  clear hg
  have r0 := Gr.refl vw2
  go_wp2
  refine hK.out _ _ ?_; clear hK K
  show Code.wp _ _ _ _ _
  clear r0
  have hsz : w.heap.size ≤ vw2.heap.size := Nat.le_trans HB.out.size HG.out.size
  refine forgetW (fun w2 => NX w2 (vw2.heap.size) (a) ∧ NX w2 (vw2.heap.size + 1) (b) ∧ Below w.heap.size w w2) ⟨((Bx.at (by simp) : Bx _ (vw2.heap.size) _ _)).alloc _, (Bx.at (by simp) : Bx _ (vw2.heap.size + 1) _ _), ((HB.out.trans (HG.out.mono HB.out.size)).alloc (by first | omega | (simp; omega)) _).alloc (by first | omega | (simp; omega)) _⟩ ?_
  clear HB HG
  rintro Wx3 ⟨bx0, bx1, HB⟩
  replace HB := Lib.hid HB
  have qx0_1 : vw2.heap.size < vw2.heap.size + 1 := by omega
  have yx1 : w.heap.size ≤ vw2.heap.size + 1 := by omega
  generalize hx1 : vw2.heap.size + 1 = gx1 at *
  clear hx1
  have yx0 : w.heap.size ≤ vw2.heap.size := by omega
  generalize hx0 : vw2.heap.size = gx0 at *
  clear hx0
  clear hsz
  have su1 : tw a ≤ 48 := by rw [← HVx.out]; have := tw_wl (vl fx kx); have := wl_le.2 (vl_lt HFx.out); omega
  have su2 : tw b ≤ 48 := by rw [← HVy.out]; have := tw_wl (vl fy ky); have := wl_le.2 (vl_lt HFy.out); omega
  have BX0 := Lib.hid bx0
  have BX1 := Lib.hid bx1
  clear bx0 bx1
  refine sK fun K hK => ?_
  have HS0 := Lib.hid (HB.out.size)
  have MX0 : gx0 < Wx3.heap.size := BX0.out.lt
  have MX1 : gx1 < Wx3.heap.size := BX1.out.lt
  refine wp_region_seqplan 6 [(true, 0), (false, 1), (true, 2), (false, 3), (true, 4), (true, 5)] (by rfl) (by simp) (fun T hT => ?_)
  refine wpPlan_takeL (v := ?_) rfl (by rfl) (fun w' hw => ?_) ?_; rotate_left; go_simp; with_reducible rfl; simp only [Act.put, rA, rB, rC]
  refine wpPlan_callE rfl (by rfl) Tryd.call14 (by rfl) (fun w' hw => (zrofw _ kx fx a w _ HVx.out (by omega) HWx.out (Gr.trans HB.out hw) HFx.out).mono ?_)
  rintro e vv1 ⟨⟨rv1, rfl, bx2⟩, hg0⟩
  obtain ⟨ao1, nn1, cc1, rfl⟩ := Rn.sl bx2
  refine ⟨_, rfl, hg0, ?_⟩
  replace hg0 := Gr.trans hw hg0; clear hw
  have HG0 := Lib.hid hg0; clear hg0
  replace BX0 := bG BX0 HG0
  replace BX1 := bG BX1 HG0
  replace HB := Lib.hid (HB.out.trans (HG0.out.mono HB.out.size))
  have BX2 := Lib.hid bx2; clear bx2
  clear HG0
  simp only [Act.put, rA, rB, rC]
  refine wpPlan_takeL (v := ?_) rfl (by rfl) (fun w' hw => ?_) ?_; rotate_left; go_simp; with_reducible rfl; simp only [Act.put, rA, rB, rC]
  refine wpPlan_callE rfl (by rfl) Tryd.call14 (by rfl) (fun w' hw => (zrofw _ ky fy b w _ HVy.out (by omega) HWy.out (Gr.trans HB.out hw) HFy.out).mono ?_)
  rintro e vv2 ⟨⟨rv2, rfl, bx3⟩, hg0⟩
  obtain ⟨ao2, nn2, cc2, rfl⟩ := Rn.sl bx3
  refine ⟨_, rfl, hg0, ?_⟩
  replace hg0 := Gr.trans hw hg0; clear hw
  have HG0 := Lib.hid hg0; clear hg0
  replace BX0 := bG BX0 HG0
  replace BX1 := bG BX1 HG0
  replace BX2 := rG BX2 HG0
  replace HB := Lib.hid (HB.out.trans (HG0.out.mono HB.out.size))
  have BX3 := Lib.hid bx3; clear bx3
  clear HG0
  simp only [Act.put, rA, rB, rC]
  iterate 2 (refine wpPlan_takeL (v := ?_) rfl (by rfl) (fun w' hw => ?_) ?_; rotate_left; go_simp; with_reducible rfl; simp only [Act.put, rA, rB, rC])
  refine wpPlan_nil (hT.out _ _ ?_); clear hT T
  intro vw3 hg
  simp only [puts, Act.put, rA, rB, rC, rD, rE, ↓reduceIte, Nat.reduceEqDiff]
  have HG := Lib.hid (hg)
  clear hg
  replace BX0 := bG BX0 HG
  replace BX1 := bG BX1 HG
  replace BX2 := rG BX2 HG
  replace BX3 := rG BX3 HG
  have r0 := Gr.refl vw3
  go_wp2
  refine hK.out _ _ ?_; clear hK K
  show Code.wp _ _ _ _ _
  clear r0
  refine forgetW (fun w2 => NX w2 gx0 (a) ∧ NX w2 gx1 (b) ∧ Rn w2 (.slice ao1 nn1 cc1) (a) ∧ Rn w2 (.slice ao2 nn2 cc2) (b) ∧ Below w.heap.size w w2) ⟨BX0.out, BX1.out, BX2.out, BX3.out, HB.out.trans (HG.out.mono HB.out.size)⟩ ?_
  clear HB HG BX0 BX1 BX2 BX3
  rintro Wx4 ⟨bx0, bx1, bx2, bx3, HB⟩
  replace HB := Lib.hid HB
  obtain ⟨u3, HZ3⟩ : ∃ z, Hid ((a) / (b) = z) := ⟨_, Lib.hid rfl⟩
  have su3 : wl (u3) ≤ 16 := by rw [← HZ3.out]; have := wl_div (a) (b); omega
  obtain ⟨u4, HZ4⟩ : ∃ z, Hid ((a) % (b) = z) := ⟨_, Lib.hid rfl⟩
  have su4 : wl (u4) ≤ 16 := by rw [← HZ4.out]; have := wl_mod (a) (b); omega
  have lx0 := bx0.cells
  have lx1 := bx1.cells
  have BX0 := Lib.hid bx0
  have BX1 := Lib.hid bx1
  have BX2 := Lib.hid bx2
  have BX3 := Lib.hid bx3
  clear bx0 bx1 bx2 bx3
  refine sK fun K hK => ?_
  refine wp_region_seqplan 7 [(true, 0), (true, 1), (true, 2), (true, 3), (true, 4), (true, 5), (true, 6)] (by rfl) (by simp) (fun T hT => ?_)
  iterate 2 (refine wpPlan_takeL (v := ?_) rfl (by rfl) (fun w' hw => ?_) ?_; rotate_left; go_simp; with_reducible rfl; simp only [Act.put, rA, rB, rC])
  refine wpPlan_callL rfl (by rfl) Tryd.call22 (fun w' hw => nzdiv (a) (b) (u3) (u4) _ HZ3.out HZ4.out (by first | omega | (try simp only [← HZ4.out, ← HZ3.out]) <;> first | rfl | omega | (simp; done) | exact Nat.div_add_mod' _ _ | grind) (by omega) (by omega)) (by rfl) ?_
  simp only [Act.put, rA, rB, rC]
  iterate 4 (refine wpPlan_takeL (v := ?_) rfl (by rfl) (fun w' hw => ?_) ?_; rotate_left; go_simp; with_reducible rfl; simp only [Act.put, rA, rB, rC])
  refine wpPlan_nil (hT.out _ _ ?_); clear hT T
  intro vw4 hg
  simp only [puts, Act.put, rA, rB, rC, rD, rE, ↓reduceIte, Nat.reduceEqDiff]
  clear lx0 lx1
  have HG := Lib.hid (hg)
  clear hg
  replace BX0 := bG BX0 HG
  replace BX1 := bG BX1 HG
  replace BX2 := rG BX2 HG
  replace BX3 := rG BX3 HG
  have r0 := Gr.refl vw4
  go_wp2
  refine hK.out _ _ ?_; clear hK K
  show Code.wp _ _ _ _ _
  clear r0
  have hsz : w.heap.size ≤ vw4.heap.size := Nat.le_trans HB.out.size HG.out.size
  have mx0 : gx0 < vw4.heap.size := BX0.out.lt
  have mx1 : gx1 < vw4.heap.size := BX1.out.lt
  refine forgetW (fun w2 => NX w2 gx0 (a) ∧ NX w2 gx1 (b) ∧ Rn w2 (.slice ao1 nn1 cc1) (a) ∧ Rn w2 (.slice ao2 nn2 cc2) (b) ∧ NX w2 (vw4.heap.size) (u3) ∧ NX w2 (vw4.heap.size + 1) (u4) ∧ Below w.heap.size w w2) ⟨((BX0.out).alloc _).alloc _, ((BX1.out).alloc _).alloc _, ((BX2.out).alloc _).alloc _, ((BX3.out).alloc _).alloc _, ((Bx.at (by simp) : Bx _ (vw4.heap.size) _ _)).alloc _, (Bx.at (by simp) : Bx _ (vw4.heap.size + 1) _ _), ((HB.out.trans (HG.out.mono HB.out.size)).alloc (by first | omega | (simp; omega)) _).alloc (by first | omega | (simp; omega)) _⟩ ?_
  clear HB HG BX0 BX1 BX2 BX3
  rintro Wx5 ⟨bx0, bx1, bx2, bx3, bx4, bx5, HB⟩
  replace HB := Lib.hid HB
  have qx4_5 : vw4.heap.size < vw4.heap.size + 1 := by omega
  have yx5 : w.heap.size ≤ vw4.heap.size + 1 := by omega
  have qx0_5 : gx0 < vw4.heap.size + 1 := by omega
  have qx1_5 : gx1 < vw4.heap.size + 1 := by omega
  generalize hx5 : vw4.heap.size + 1 = gx5 at *
  clear hx5
  have yx4 : w.heap.size ≤ vw4.heap.size := by omega
  have qx0_4 : gx0 < vw4.heap.size := by omega
  have qx1_4 : gx1 < vw4.heap.size := by omega
  generalize hx4 : vw4.heap.size = gx4 at *
  clear hx4
  clear hsz mx0 mx1
  refine wp_seq ?_
  obtain ⟨u5, HZ5⟩ : ∃ z, Hid ((a) * (b) = z) := ⟨_, Lib.hid rfl⟩
  have su5 : wl (u5) ≤ 32 := by rw [← HZ5.out]; have := wl_mul (a) (b); omega
  have HZ6 : Hid ((a) * (b) = u5) := Lib.hid (by first | omega | (try simp only [← HZ5.out, ← HZ4.out, ← HZ3.out]) <;> first | rfl | omega | (simp; done) | exact Nat.div_add_mod' _ _ | grind)
  have su6 : tw (u5) ≤ 96 := by have e := HZ6.out; first | omega | (rw [← e]; have := tw_mul (a) (b); omega)
  obtain ⟨u7, HZ7⟩ : ∃ z, Hid (Nat.gcd (a) (b) = z) := ⟨_, Lib.hid rfl⟩
  have su7 : wl (u7) ≤ 16 := by rw [← HZ7.out]; have := wl_gcd (a) (b); omega
  have HZ8 : Hid (Nat.gcd (a) (b) = u7) := Lib.hid (by first | omega | (try simp only [← HZ7.out, ← HZ5.out, ← HZ4.out, ← HZ3.out]) <;> first | rfl | omega | (simp; done) | exact Nat.div_add_mod' _ _ | grind)
  have su8 : tw (u7) ≤ 48 := by have e := HZ8.out; first | omega | (rw [← e]; have := tw_gcd (a) (b); omega)
  have hd3 : 0 < ((nn2 : Int)) := by have hl := Rn.len bx3; have ht := (tw_pos (n := b)); have hz := (tw_eq_zero (n := b)); omega
  have hd4 : 0 < nn2 := by have e := hd3; omega
  have lx0 := bx0.cells
  have lx1 := bx1.cells
  have BX0 := Lib.hid bx0
  have BX1 := Lib.hid bx1
  have BX2 := Lib.hid bx2
  have BX3 := Lib.hid bx3
  have BX4 := Lib.hid bx4
  have BX5 := Lib.hid bx5
  clear bx0 bx1 bx2 bx3 bx4 bx5
  refine sK fun K hK => ?_
  have HS0 := Lib.hid (HB.out.size)
  have MX0 : gx0 < Wx5.heap.size := BX0.out.lt
  have MX1 : gx1 < Wx5.heap.size := BX1.out.lt
  have MX4 : gx4 < Wx5.heap.size := BX4.out.lt
  have MX5 : gx5 < Wx5.heap.size := BX5.out.lt
  refine wp_region_seqplan 25 [(true, 0), (true, 1), (true, 2), (true, 3), (true, 4), (false, 5), (true, 6), (true, 7), (true, 8), (true, 9), (true, 10), (true, 11), (true, 12), (true, 13), (false, 14), (true, 15), (true, 16), (true, 17), (true, 18), (true, 19), (true, 20), (true, 21), (true, 22), (true, 23), (true, 24)] (by rfl) (by simp) (fun T hT => ?_)
  iterate 2 (refine wpPlan_takeL (v := ?_) rfl (by rfl) (fun w' hw => ?_) ?_; rotate_left; go_simp; with_reducible rfl; simp only [Act.put, rA, rB, rC])
  refine wpPlan_callL rfl (by rfl) Tryd.call23 (fun w' hw => nzmul (a) (b) (u5) _ HZ5.out (by omega) (by omega)) (by rfl) ?_
  simp only [Act.put, rA, rB, rC]
  iterate 2 (refine wpPlan_takeL (v := ?_) rfl (by rfl) (fun w' hw => ?_) ?_; rotate_left; go_simp; with_reducible rfl; simp only [Act.put, rA, rB, rC])
  refine wpPlan_callE rfl (by rfl) Tryd.call24 (by rfl) (fun w' hw => (zrmul _ _ (a) (b) (u5) _ HZ6.out (BX2.out.gr hw) (BX3.out.gr hw) (by omega) (by omega)).mono ?_)
  rintro e vv1 ⟨⟨rv3, rfl, bx6⟩, hg0⟩
  obtain ⟨ao3, nn3, cc3, rfl⟩ := Rn.sl bx6
  refine ⟨_, rfl, hg0, ?_⟩
  replace hg0 := Gr.trans hw hg0; clear hw
  have HG0 := Lib.hid hg0; clear hg0
  replace BX0 := bG BX0 HG0
  replace BX1 := bG BX1 HG0
  replace BX2 := rG BX2 HG0
  replace BX3 := rG BX3 HG0
  replace BX4 := bG BX4 HG0
  replace BX5 := bG BX5 HG0
  replace HB := Lib.hid (HB.out.trans (HG0.out.mono HB.out.size))
  have BX6 := Lib.hid bx6; clear bx6
  clear HG0
  clear lx0; have lx0 := BX0.out.cells
  clear lx1; have lx1 := BX1.out.cells
  simp only [Act.put, rA, rB, rC]
  refine wpPlan_callL rfl (by rfl) Tryd.call17 (fun w' hw => same_any (u5) (u5) _ _ (rfl) (BX6.out.gr hw) (by omega) (by omega) (Lib.hid (HT.out.gr (Gr.trans HB.out hw)))) (by rfl) ?_
  simp only [Act.put, rA, rB, rC]
  iterate 4 (refine wpPlan_takeL (v := ?_) rfl (by rfl) (fun w' hw => ?_) ?_; rotate_left; go_simp; with_reducible rfl; simp only [Act.put, rA, rB, rC])
  refine wpPlan_callL rfl (by rfl) Tryd.call25 (fun w' hw => nzgcd (a) (b) (u7) _ HZ7.out (by omega) (by omega)) (by rfl) ?_
  simp only [Act.put, rA, rB, rC]
  iterate 2 (refine wpPlan_takeL (v := ?_) rfl (by rfl) (fun w' hw => ?_) ?_; rotate_left; go_simp; with_reducible rfl; simp only [Act.put, rA, rB, rC])
  refine wpPlan_callE rfl (by rfl) Tryd.call26 (by rfl) (fun w' hw => (zrgcd _ _ (a) (b) (u7) _ HZ8.out (BX2.out.gr hw) (BX3.out.gr hw) (by omega) (by omega)).mono ?_)
  rintro e vv2 ⟨⟨rv4, rfl, bx7⟩, hg0⟩
  obtain ⟨ao4, nn4, cc4, rfl⟩ := Rn.sl bx7
  refine ⟨_, rfl, hg0, ?_⟩
  replace hg0 := Gr.trans hw hg0; clear hw
  have HG0 := Lib.hid hg0; clear hg0
  replace BX0 := bG BX0 HG0
  replace BX1 := bG BX1 HG0
  replace BX2 := rG BX2 HG0
  replace BX3 := rG BX3 HG0
  replace BX4 := bG BX4 HG0
  replace BX5 := bG BX5 HG0
  replace BX6 := rG BX6 HG0
  replace HB := Lib.hid (HB.out.trans (HG0.out.mono HB.out.size))
  have BX7 := Lib.hid bx7; clear bx7
  clear HG0
  clear lx0; have lx0 := BX0.out.cells
  clear lx1; have lx1 := BX1.out.cells
  simp only [Act.put, rA, rB, rC]
  refine wpPlan_callL rfl (by rfl) Tryd.call17 (fun w' hw => same_any (u7) (u7) _ _ (rfl) (BX7.out.gr hw) (by omega) (by omega) (Lib.hid (HT.out.gr (Gr.trans HB.out hw)))) (by rfl) ?_
  simp only [Act.put, rA, rB, rC]
  iterate 9 (refine wpPlan_takeL (v := ?_) rfl (by rfl) (fun w' hw => ?_) ?_; rotate_left; go_simp; with_reducible rfl; simp only [Act.put, rA, rB, rC])
  refine wpPlan_nil (hT.out _ _ ?_); clear hT T
  intro vw5 hg
  simp only [puts, Act.put, rA, rB, rC, rD, rE, ↓reduceIte, Nat.reduceEqDiff]
  clear lx0 lx1
  have HG := Lib.hid (hg)
  clear hg
  replace BX0 := bG BX0 HG
  replace BX1 := bG BX1 HG
  replace BX2 := rG BX2 HG
  replace BX3 := rG BX3 HG
  replace BX4 := bG BX4 HG
  replace BX5 := bG BX5 HG
  replace BX6 := rG BX6 HG
  replace BX7 := rG BX7 HG
  have r0 := Gr.refl vw5
  go_wp2
  refine hK.out _ _ ?_; clear hK K
  show Code.wp _ _ _ _ _
  clear r0
  refine forgetW (fun w2 => Rn w2 (.slice ao1 nn1 cc1) (a) ∧ Rn w2 (.slice ao2 nn2 cc2) (b) ∧ NX w2 gx4 (u3) ∧ NX w2 gx5 (u4) ∧ Below w.heap.size w w2) ⟨BX2.out, BX3.out, BX4.out, BX5.out, HB.out.trans (HG.out.mono HB.out.size)⟩ ?_
  clear HB HG BX0 BX1 BX2 BX3 BX4 BX5 BX6 BX7
  rintro Wx6 ⟨bx2, bx3, bx4, bx5, HB⟩
  replace HB := Lib.hid HB
  clear hd3 hd4
  refine wp_cond_false (by rfl) ?_
  refine wp_skip ?_
  show Code.wp _ _ _ _ _
  refine wp_seq ?_
  have BX2 := Lib.hid bx2
  have BX3 := Lib.hid bx3
  have BX4 := Lib.hid bx4
  have BX5 := Lib.hid bx5
  clear bx2 bx3 bx4 bx5
  refine sK fun K hK => ?_
  refine wp_region_seqplan 2 [(true, 0), (true, 1)] (by rfl) (by simp) (fun T hT => ?_)
  iterate 2 (refine wpPlan_takeL (v := ?_) rfl (by rfl) (fun w' hw => ?_) ?_; rotate_left; go_simp; with_reducible rfl; simp only [Act.put, rA, rB, rC])
  refine wpPlan_nil (hT.out _ _ ?_); clear hT T
  intro vw6 hg
  simp only [puts, Act.put, rA, rB, rC, rD, rE, ↓reduceIte, Nat.reduceEqDiff]
  have HG := Lib.hid (hg)
  clear hg
  replace BX2 := rG BX2 HG
  replace BX3 := rG BX3 HG
  replace BX4 := bG BX4 HG
  replace BX5 := bG BX5 HG
  have r0 := Gr.refl vw6
  go_wp2
  refine hK.out _ _ ?_; clear hK K
  show Code.wp _ _ _ _ _
  clear r0
  refine forgetW (fun w2 => Rn w2 (.slice ao1 nn1 cc1) (a) ∧ Rn w2 (.slice ao2 nn2 cc2) (b) ∧ NX w2 gx4 (u3) ∧ NX w2 gx5 (u4) ∧ Below w.heap.size w w2) ⟨BX2.out, BX3.out, BX4.out, BX5.out, HB.out.trans (HG.out.mono HB.out.size)⟩ ?_
  clear HB HG BX2 BX3 BX4 BX5
  rintro Wx8 ⟨bx2, bx3, bx4, bx5, HB⟩
  replace HB := Lib.hid HB
  refine wp_cond_false (by rfl) ?_
  refine wp_skip ?_
  show Code.wp _ _ _ _ _
  have HZ9 : Hid ((a) / (b) = u3) := Lib.hid (by first | omega | (try simp only [← HZ7.out, ← HZ5.out, ← HZ4.out, ← HZ3.out]) <;> first | rfl | omega | (simp; done) | exact Nat.div_add_mod' _ _ | grind)
  have su9 : tw (u3) ≤ 48 := by have e := HZ9.out; first | omega | (rw [← e]; have := tw_div (a) (b); omega)
  have HZ10 : Hid ((a) % (b) = u4) := Lib.hid (by first | omega | (try simp only [← HZ7.out, ← HZ5.out, ← HZ4.out, ← HZ3.out]) <;> first | rfl | omega | (simp; done) | exact Nat.div_add_mod' _ _ | grind)
  have su10 : tw (u4) ≤ 48 := by have e := HZ10.out; first | omega | (rw [← e]; have := tw_mod (a) (b); omega)
  have BX2 := Lib.hid bx2
  have BX3 := Lib.hid bx3
  have BX4 := Lib.hid bx4
  have BX5 := Lib.hid bx5
  clear bx2 bx3 bx4 bx5
  refine sK fun K hK => ?_
  have HS0 := Lib.hid (HB.out.size)
  have MX4 : gx4 < Wx8.heap.size := BX4.out.lt
  have MX5 : gx5 < Wx8.heap.size := BX5.out.lt
  refine wp_region_seqplan 8 [(true, 0), (true, 1), (false, 2), (true, 3), (true, 4), (true, 5), (true, 6), (true, 7)] (by rfl) (by simp) (fun T hT => ?_)
  iterate 2 (refine wpPlan_takeL (v := ?_) rfl (by rfl) (fun w' hw => ?_) ?_; rotate_left; go_simp; with_reducible rfl; simp only [Act.put, rA, rB, rC])
  refine wpPlan_callE rfl (by rfl) Tryd.call27 (by rfl) (fun w' hw => (zrdiv _ _ (a) (b) (u3) (u4) _ HZ9.out HZ10.out (BX2.out.gr hw) (BX3.out.gr hw) (by first | omega | (try simp only [← HZ7.out, ← HZ5.out, ← HZ4.out, ← HZ3.out]) <;> first | rfl | omega | (simp; done) | exact Nat.div_add_mod' _ _ | grind) (by omega) (by omega)).mono ?_)
  rintro e vv1 ⟨⟨rv5, rv6, rfl, bx8, bx9⟩, hg0⟩
  obtain ⟨ao5, nn5, cc5, rfl⟩ := Rn.sl bx8
  obtain ⟨ao6, nn6, cc6, rfl⟩ := Rn.sl bx9
  refine ⟨_, rfl, hg0, ?_⟩
  replace hg0 := Gr.trans hw hg0; clear hw
  have HG0 := Lib.hid hg0; clear hg0
  replace BX2 := rG BX2 HG0
  replace BX3 := rG BX3 HG0
  replace BX4 := bG BX4 HG0
  replace BX5 := bG BX5 HG0
  replace HB := Lib.hid (HB.out.trans (HG0.out.mono HB.out.size))
  have BX8 := Lib.hid bx8; clear bx8
  have BX9 := Lib.hid bx9; clear bx9
  clear HG0
  simp only [Act.put, rA, rB, rC]
  iterate 5 (refine wpPlan_takeL (v := ?_) rfl (by rfl) (fun w' hw => ?_) ?_; rotate_left; go_simp; with_reducible rfl; simp only [Act.put, rA, rB, rC])
  refine wpPlan_nil (hT.out _ _ ?_); clear hT T
  intro vw7 hg
  simp only [puts, Act.put, rA, rB, rC, rD, rE, ↓reduceIte, Nat.reduceEqDiff]
  have HG := Lib.hid (hg)
  clear hg
  replace BX2 := rG BX2 HG
  replace BX3 := rG BX3 HG
  replace BX4 := bG BX4 HG
  replace BX5 := bG BX5 HG
  replace BX8 := rG BX8 HG
  replace BX9 := rG BX9 HG
  have r0 := Gr.refl vw7
  go_wp2
  refine hK.out _ _ ?_; clear hK K
  show Code.wp _ _ _ _ _
  clear r0
  refine forgetW (fun w2 => NX w2 gx4 (u3) ∧ NX w2 gx5 (u4) ∧ Rn w2 (.slice ao5 nn5 cc5) (u3) ∧ Rn w2 (.slice ao6 nn6 cc6) (u4) ∧ Below w.heap.size w w2) ⟨BX4.out, BX5.out, BX8.out, BX9.out, HB.out.trans (HG.out.mono HB.out.size)⟩ ?_
  clear HB HG BX2 BX3 BX4 BX5 BX8 BX9
  rintro Wx10 ⟨bx4, bx5, bx8, bx9, HB⟩
  replace HB := Lib.hid HB
  have lx4 := bx4.cells
  have lx5 := bx5.cells
  have BX4 := Lib.hid bx4
  have BX5 := Lib.hid bx5
  have BX8 := Lib.hid bx8
  have BX9 := Lib.hid bx9
  clear bx4 bx5 bx8 bx9
  refine sK fun K hK => ?_
  refine wp_region_seqplan 12 [(true, 0), (true, 1), (true, 2), (true, 3), (true, 4), (true, 5), (true, 6), (true, 7), (true, 8), (true, 9), (true, 10), (true, 11)] (by rfl) (by simp) (fun T hT => ?_)
  iterate 2 (refine wpPlan_takeL (v := ?_) rfl (by rfl) (fun w' hw => ?_) ?_; rotate_left; go_simp; with_reducible rfl; simp only [Act.put, rA, rB, rC])
  refine wpPlan_callL rfl (by rfl) Tryd.call17 (fun w' hw => same_any (u3) (u3) _ _ (rfl) (BX8.out.gr hw) (by omega) (by omega) (Lib.hid (HT.out.gr (Gr.trans HB.out hw)))) (by rfl) ?_
  simp only [Act.put, rA, rB, rC]
  iterate 3 (refine wpPlan_takeL (v := ?_) rfl (by rfl) (fun w' hw => ?_) ?_; rotate_left; go_simp; with_reducible rfl; simp only [Act.put, rA, rB, rC])
  refine wpPlan_callL rfl (by rfl) Tryd.call17 (fun w' hw => same_any (u4) (u4) _ _ (rfl) (BX9.out.gr hw) (by omega) (by omega) (Lib.hid (HT.out.gr (Gr.trans HB.out hw)))) (by rfl) ?_
  simp only [Act.put, rA, rB, rC]
  iterate 2 (refine wpPlan_takeL (v := ?_) rfl (by rfl) (fun w' hw => ?_) ?_; rotate_left; go_simp; with_reducible rfl; simp only [Act.put, rA, rB, rC])
  refine wpPlan_callL rfl (by rfl) Tryd.call12 (fun w' hw => works_any _ (Lib.hid (HT.out.gr (Gr.trans HB.out hw)))) (by rfl) ?_
  simp only [Act.put, rA, rB, rC]
  iterate 2 (refine wpPlan_takeL (v := ?_) rfl (by rfl) (fun w' hw => ?_) ?_; rotate_left; go_simp; with_reducible rfl; simp only [Act.put, rA, rB, rC])
  refine wpPlan_nil (hT.out _ _ ?_); clear hT T
  intro vw8 hg
  simp only [puts, Act.put, rA, rB, rC, rD, rE, ↓reduceIte, Nat.reduceEqDiff]
  clear lx4 lx5
  have HG := Lib.hid (hg)
  clear hg
  replace BX4 := bG BX4 HG
  replace BX5 := bG BX5 HG
  replace BX8 := rG BX8 HG
  replace BX9 := rG BX9 HG
  have r0 := Gr.refl vw8
  go_wp2
  refine hK.out _ _ ?_; clear hK K
  show Code.wp _ _ _ _ _
  clear r0
  refine forgetW (fun w2 => Below w.heap.size w w2) (HB.out.trans (HG.out.mono HB.out.size)) ?_
  clear HB HG BX4 BX5 BX8 BX9
  rintro Wx11 HB
  replace HB := Lib.hid HB
  refine wp_ret ?_
  try simp only [Exit.then, Exit.inBlock]
  have r0 := Gr.refl Wx11
  exact bodyPost_ret (v := .bool true) (by simp [results, Tryd.results4, go_sem]) rfl ⟨rfl, HB.out⟩

set_option maxRecDepth 100000 in
set_option maxHeartbeats 4000000 in
theorem prod_big1 (vx : Value) (kx : Nat) (fx : Nat → Nat) (vy : Value) (ky : Nat) (fy : Nat → Nat) (a b : Nat)  (w : World) (HWx : Hid (Wa w vx kx fx)) (HFx : Hid (∀ i, i < kx → fx i < 4294967296)) (HVx : Hid (vl fx kx = a)) (HWy : Hid (Wa w vy ky fy)) (HFy : Hid (∀ i, i < ky → fy i < 4294967296)) (HVy : Hid (vl fy ky = b))  (hkx : 16 < kx) (HT : Hid (Tab w)) :
    Calls Tryd.prog 4 #[vx, vy] w fun e w' => e = .returned (.bool true) ∧ Below w.heap.size w w' := by
  obtain ⟨ao_x, c_x, rfl⟩ := HWx.out.slice
  obtain ⟨ao_y, c_y, rfl⟩ := HWy.out.slice
  go_enter Tryd.func4, Tryd.ntmps4
  refine sK fun K hK => ?_
  refine wp_region_lit ?_
  go_wp2
  refine hK.out _ _ ?_; clear hK K
  show Code.wp _ _ _ _ _
  refine forgetW (fun w2 => Below w.heap.size w w2) (Below.refl _ _) ?_
  rintro Wx HB
  replace HB := Lib.hid HB
  refine wp_seq ?_
  have hd1 : 16 < ((kx : Int)) := by omega
  refine sK fun K hK => ?_
  refine wp_region_seqplan 8 [(true, 0), (true, 1), (true, 2), (true, 3), (true, 4), (true, 5), (true, 6), (true, 7)] (by rfl) (by simp) (fun T hT => ?_)
  iterate 4 (refine wpPlan_takeL (v := ?_) rfl (by rfl) (fun w' hw => ?_) ?_; rotate_left; go_simp; with_reducible rfl; simp only [Act.put, rA, rB, rC])
  iterate 3 (refine wpPlan_skipL rfl (by rfl) ?_; simp only [Act.put, rA, rB, rC])
  refine wpPlan_takeL (v := ?_) rfl (by rfl) (fun w' hw => ?_) ?_; rotate_left; go_simp; with_reducible rfl; simp only [Act.put, rA, rB, rC]
  refine wpPlan_nil (hT.out _ _ ?_); clear hT T
  intro vw1 hg
  simp only [puts, Act.put, rA, rB, rC, rD, rE, ↓reduceIte, Nat.reduceEqDiff]
  have HG := Lib.hid (hg)
  clear hg
  have r0 := Gr.refl vw1
  go_wp2
  refine hK.out _ _ ?_; clear hK K
  show Code.wp _ _ _ _ _
  clear r0
  refine forgetW (fun w2 => Below w.heap.size w w2) (HB.out.trans (HG.out.mono HB.out.size)) ?_
  clear HB HG
  rintro Wx1 HB
  replace HB := Lib.hid HB
  clear hd1
  refine wp_cond_true (by rfl) ?_
  refine sK fun K hK => ?_
  refine wp_region_seqplan 2 [(true, 0), (true, 1)] (by rfl) (by simp) (fun T hT => ?_)
  refine wpPlan_callL rfl (by rfl) Tryd.call12 (fun w' hw => works_any _ (Lib.hid (HT.out.gr (Gr.trans HB.out hw)))) (by rfl) ?_
  simp only [Act.put, rA, rB, rC]
  refine wpPlan_takeL (v := ?_) rfl (by rfl) (fun w' hw => ?_) ?_; rotate_left; go_simp; with_reducible rfl; simp only [Act.put, rA, rB, rC]
  refine wpPlan_nil (hT.out _ _ ?_); clear hT T
  intro vw2 hg
  simp only [puts, Act.put, rA, rB, rC, rD, rE, ↓reduceIte, Nat.reduceEqDiff]
  have HG := Lib.hid (hg)
  clear hg
  have r0 := Gr.refl vw2
  go_wp2
  refine hK.out _ _ ?_; clear hK K
  show Code.wp _ _ _ _ _
  clear r0
  refine forgetW (fun w2 => Below w.heap.size w w2) (HB.out.trans (HG.out.mono HB.out.size)) ?_
  clear HB HG
  rintro Wx2 HB
  replace HB := Lib.hid HB
  refine wp_ret ?_
  try simp only [Exit.then, Exit.inBlock]
  have r0 := Gr.refl Wx2
  exact bodyPost_ret (v := .bool true) (by simp [results, Tryd.results4, go_sem]) rfl ⟨rfl, HB.out⟩

set_option maxRecDepth 100000 in
set_option maxHeartbeats 4000000 in
theorem prod_big2 (vx : Value) (kx : Nat) (fx : Nat → Nat) (vy : Value) (ky : Nat) (fy : Nat → Nat) (a b : Nat)  (w : World) (HWx : Hid (Wa w vx kx fx)) (HFx : Hid (∀ i, i < kx → fx i < 4294967296)) (HVx : Hid (vl fx kx = a)) (HWy : Hid (Wa w vy ky fy)) (HFy : Hid (∀ i, i < ky → fy i < 4294967296)) (HVy : Hid (vl fy ky = b)) (hkx : kx ≤ 16) (hky : 16 < ky) (HT : Hid (Tab w)) :
    Calls Tryd.prog 4 #[vx, vy] w fun e w' => e = .returned (.bool true) ∧ Below w.heap.size w w' := by
  obtain ⟨ao_x, c_x, rfl⟩ := HWx.out.slice
  obtain ⟨ao_y, c_y, rfl⟩ := HWy.out.slice
  go_enter Tryd.func4, Tryd.ntmps4
  refine sK fun K hK => ?_
  refine wp_region_lit ?_
  go_wp2
  refine hK.out _ _ ?_; clear hK K
  show Code.wp _ _ _ _ _
  refine forgetW (fun w2 => Below w.heap.size w w2) (Below.refl _ _) ?_
  rintro Wx HB
  replace HB := Lib.hid HB
  refine wp_seq ?_
  have hd1 : ¬ (16 < ((kx : Int))) := by omega
  have hd2 : 16 < ((ky : Int)) := by omega
  refine sK fun K hK => ?_
  refine wp_region_seqplan 8 [(true, 0), (true, 1), (true, 2), (true, 3), (true, 4), (true, 5), (true, 6), (true, 7)] (by rfl) (by simp) (fun T hT => ?_)
  iterate 8 (refine wpPlan_takeL (v := ?_) rfl (by rfl) (fun w' hw => ?_) ?_; rotate_left; go_simp; with_reducible rfl; simp only [Act.put, rA, rB, rC])
  refine wpPlan_nil (hT.out _ _ ?_); clear hT T
  intro vw1 hg
  simp only [puts, Act.put, rA, rB, rC, rD, rE, ↓reduceIte, Nat.reduceEqDiff]
  have HG := Lib.hid (hg)
  clear hg
  have r0 := Gr.refl vw1
  go_wp2
  refine hK.out _ _ ?_; clear hK K
  show Code.wp _ _ _ _ _
  clear r0
  refine forgetW (fun w2 => Below w.heap.size w w2) (HB.out.trans (HG.out.mono HB.out.size)) ?_
  clear HB HG
  rintro Wx1 HB
  replace HB := Lib.hid HB
  clear hd1 hd2
  refine wp_cond_true (by rfl) ?_
  refine sK fun K hK => ?_
  refine wp_region_seqplan 2 [(true, 0), (true, 1)] (by rfl) (by simp) (fun T hT => ?_)
  refine wpPlan_callL rfl (by rfl) Tryd.call12 (fun w' hw => works_any _ (Lib.hid (HT.out.gr (Gr.trans HB.out hw)))) (by rfl) ?_
  simp only [Act.put, rA, rB, rC]
  refine wpPlan_takeL (v := ?_) rfl (by rfl) (fun w' hw => ?_) ?_; rotate_left; go_simp; with_reducible rfl; simp only [Act.put, rA, rB, rC]
  refine wpPlan_nil (hT.out _ _ ?_); clear hT T
  intro vw2 hg
  simp only [puts, Act.put, rA, rB, rC, rD, rE, ↓reduceIte, Nat.reduceEqDiff]
  have HG := Lib.hid (hg)
  clear hg
  have r0 := Gr.refl vw2
  go_wp2
  refine hK.out _ _ ?_; clear hK K
  show Code.wp _ _ _ _ _
  clear r0
  refine forgetW (fun w2 => Below w.heap.size w w2) (HB.out.trans (HG.out.mono HB.out.size)) ?_
  clear HB HG
  rintro Wx2 HB
  replace HB := Lib.hid HB
  refine wp_ret ?_
  try simp only [Exit.then, Exit.inBlock]
  have r0 := Gr.refl Wx2
  exact bodyPost_ret (v := .bool true) (by simp [results, Tryd.results4, go_sem]) rfl ⟨rfl, HB.out⟩

theorem products_law (vx : Value) (kx : Nat) (fx : Nat → Nat) (vy : Value) (ky : Nat) (fy : Nat → Nat)  (w : World) (HWx : Hid (Wa w vx kx fx)) (HFx : Hid (∀ i, i < kx → fx i < 4294967296)) (HWy : Hid (Wa w vy ky fy)) (HFy : Hid (∀ i, i < ky → fy i < 4294967296))  (HT : Hid (Tab w)) :
    Calls Tryd.prog 4 #[vx, vy] w fun e w' => e = .returned (.bool true) ∧ Below w.heap.size w w' := by
  by_cases hkx : kx ≤ 16
  · by_cases hky : ky ≤ 16
    · skip
      obtain ⟨a, ha⟩ : ∃ z, vl fx kx = z := ⟨_, rfl⟩
      obtain ⟨b, hb⟩ : ∃ z, vl fy ky = z := ⟨_, rfl⟩
      rcases Nat.eq_zero_or_pos b with h | h
      · exact prod_zero vx kx fx vy ky fy a w HWx HFx (Lib.hid ha) HWy HFy (Lib.hid (hb.trans h)) hkx hky HT
      · exact prod_pos vx kx fx vy ky fy a b w HWx HFx (Lib.hid ha) HWy HFy (Lib.hid hb) hkx hky h HT
    · exact prod_big2 vx kx fx vy ky fy _ _  w HWx HFx (Lib.hid rfl) HWy HFy (Lib.hid rfl) hkx (by omega) HT
  · exact prod_big1 vx kx fx vy ky fy _ _  w HWx HFx (Lib.hid rfl) HWy HFy (Lib.hid rfl)  (by omega) HT

end Go.Proofs.YteenojfbnbkedaaDoor
