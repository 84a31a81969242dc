
/- NatsSums: the law's walk. -/
import Derived.Test.YteenojfbnbkedaaDoorSh
import Derived.Test.YteenojfbnbkedaaDoorPJ
namespace Go.Proofs.YteenojfbnbkedaaDoor
open Go.RowKit
set_option linter.unusedSimpArgs false
set_option linter.unusedVariables false
attribute [local go_sem ↓] Go.wp_at_zero Go.wp_at_succ
attribute [local go_sem ↓] eq_nat eq_nat_zero
set_option maxRecDepth 100000 in
set_option maxHeartbeats 4000000 in
theorem sums_lt (vx : Value) (kx : Nat) (fx : Nat → Nat) (vy : Value) (ky : Nat) (fy : Nat → Nat) (a b : Nat)  (w : World) (HWx : Hid (Wa w vx kx fx)) (HFx : Hid (∀ i, i < kx → fx i < 4294967296)) (HVx : Hid (vl fx kx = a)) (HWy : Hid (Wa w vy ky fy)) (HFy : Hid (∀ i, i < ky → fy i < 4294967296)) (HVy : Hid (vl fy ky = b)) (hkx : kx ≤ 24) (hky : ky ≤ 24) (hlt : a < b) (HT : Hid (Tab w)) :
    Calls Tryd.prog 3 #[vx, vy] w fun e w' => e = .returned (.bool true) ∧ Below w.heap.size w w' := by
  obtain ⟨ao_x, c_x, rfl⟩ := HWx.out.slice
  obtain ⟨ao_y, c_y, rfl⟩ := HWy.out.slice
  have hb_a : wl a ≤ 24 := by rw [← HVx.out]; have := wl_le.2 (vl_lt HFx.out); omega
  have hb_b : wl b ≤ 24 := by rw [← HVy.out]; have := wl_le.2 (vl_lt HFy.out); omega
  go_enter Tryd.func3, Tryd.ntmps3
  refine sK fun K hK => ?_
  refine wp_region_lit ?_
  go_wp2
  refine hK.out _ _ ?_; clear hK K
  show Code.wp _ _ _ _ _
  refine forgetW (fun w2 => Below w.heap.size w w2) (Below.refl _ _) ?_
  rintro Wx HB
  replace HB := Lib.hid HB
  refine wp_seq ?_
  have hd1 : ¬ (24 < ((kx : Int))) := by omega
  have hd2 : ¬ (24 < ((ky : Int))) := by omega
  refine sK fun K hK => ?_
  refine wp_region_seqplan 8 [(true, 0), (true, 1), (true, 2), (true, 3), (true, 4), (true, 5), (true, 6), (true, 7)] (by rfl) (by simp) (fun T hT => ?_)
  iterate 8 (refine wpPlan_takeL (v := ?_) rfl (by rfl) (fun w' hw => ?_) ?_; rotate_left; go_simp; with_reducible rfl; simp only [Act.put, rA, rB, rC])
  refine wpPlan_nil (hT.out _ _ ?_); clear hT T
  intro vw1 hg
  simp only [puts, Act.put, rA, rB, rC, rD, rE, ↓reduceIte, Nat.reduceEqDiff]
  have HG := Lib.hid (hg)
  clear hg
  have r0 := Gr.refl vw1
  go_wp2
  refine hK.out _ _ ?_; clear hK K
  show Code.wp _ _ _ _ _
  clear r0
  refine forgetW (fun w2 => Below w.heap.size w w2) (HB.out.trans (HG.out.mono HB.out.size)) ?_
  clear HB HG
  rintro Wx1 HB
  replace HB := Lib.hid HB
  clear hd1 hd2
  refine wp_cond_false (by rfl) ?_
  refine wp_skip ?_
  show Code.wp _ _ _ _ _
  refine sK fun K hK => ?_
  refine wp_region_seqplan 4 [(true, 0), (true, 1), (true, 2), (true, 3)] (by rfl) (by simp) (fun T hT => ?_)
  refine wpPlan_takeL (v := ?_) rfl (by rfl) (fun w' hw => ?_) ?_; rotate_left; go_simp; with_reducible rfl; simp only [Act.put, rA, rB, rC]
  refine wpPlan_callL rfl (by rfl) Tryd.call13 (fun w' hw => zmade _ kx fx a w _ HVx.out (by omega) HWx.out (Gr.trans HB.out hw) HFx.out) (by rfl) ?_
  simp only [Act.put, rA, rB, rC]
  refine wpPlan_takeL (v := ?_) rfl (by rfl) (fun w' hw => ?_) ?_; rotate_left; go_simp; with_reducible rfl; simp only [Act.put, rA, rB, rC]
  refine wpPlan_callL rfl (by rfl) Tryd.call13 (fun w' hw => zmade _ ky fy b w _ HVy.out (by omega) HWy.out (Gr.trans HB.out hw) HFy.out) (by rfl) ?_
  simp only [Act.put, rA, rB, rC]
  refine wpPlan_nil (hT.out _ _ ?_); clear hT T
  intro vw2 hg
  simp only [puts, Act.put, rA, rB, rC, rD, rE, ↓reduceIte, Nat.reduceEqDiff]
  have HG := Lib.hid (hg)
  clear hg
  have r0 := Gr.refl vw2
  go_wp2
  refine hK.out _ _ ?_; clear hK K
  show Code.wp _ _ _ _ _
  clear r0
  have hsz : w.heap.size ≤ vw2.heap.size := Nat.le_trans HB.out.size HG.out.size
  refine forgetW (fun w2 => NX w2 (vw2.heap.size) (a) ∧ NX w2 (vw2.heap.size + 1) (b) ∧ Below w.heap.size w w2) ⟨((Bx.at (by simp) : Bx _ (vw2.heap.size) _ _)).alloc _, (Bx.at (by simp) : Bx _ (vw2.heap.size + 1) _ _), ((HB.out.trans (HG.out.mono HB.out.size)).alloc (by first | omega | (simp; omega)) _).alloc (by first | omega | (simp; omega)) _⟩ ?_
  clear HB HG
  rintro Wx3 ⟨bx0, bx1, HB⟩
  replace HB := Lib.hid HB
  have qx0_1 : vw2.heap.size < vw2.heap.size + 1 := by omega
  have yx1 : w.heap.size ≤ vw2.heap.size + 1 := by omega
  generalize hx1 : vw2.heap.size + 1 = gx1 at *
  clear hx1
  have yx0 : w.heap.size ≤ vw2.heap.size := by omega
  generalize hx0 : vw2.heap.size = gx0 at *
  clear hx0
  clear hsz
  have su1 : tw a ≤ 72 := by rw [← HVx.out]; have := tw_wl (vl fx kx); have := wl_le.2 (vl_lt HFx.out); omega
  have su2 : tw b ≤ 72 := by rw [← HVy.out]; have := tw_wl (vl fy ky); have := wl_le.2 (vl_lt HFy.out); omega
  have BX0 := Lib.hid bx0
  have BX1 := Lib.hid bx1
  clear bx0 bx1
  refine sK fun K hK => ?_
  have HS0 := Lib.hid (HB.out.size)
  have MX0 : gx0 < Wx3.heap.size := BX0.out.lt
  have MX1 : gx1 < Wx3.heap.size := BX1.out.lt
  refine wp_region_seqplan 6 [(true, 0), (false, 1), (true, 2), (false, 3), (true, 4), (true, 5)] (by rfl) (by simp) (fun T hT => ?_)
  refine wpPlan_takeL (v := ?_) rfl (by rfl) (fun w' hw => ?_) ?_; rotate_left; go_simp; with_reducible rfl; simp only [Act.put, rA, rB, rC]
  refine wpPlan_callE rfl (by rfl) Tryd.call14 (by rfl) (fun w' hw => (zrofw _ kx fx a w _ HVx.out (by omega) HWx.out (Gr.trans HB.out hw) HFx.out).mono ?_)
  rintro e vv1 ⟨⟨rv1, rfl, bx2⟩, hg0⟩
  obtain ⟨ao1, nn1, cc1, rfl⟩ := Rn.sl bx2
  refine ⟨_, rfl, hg0, ?_⟩
  replace hg0 := Gr.trans hw hg0; clear hw
  have HG0 := Lib.hid hg0; clear hg0
  replace BX0 := bG BX0 HG0
  replace BX1 := bG BX1 HG0
  replace HB := Lib.hid (HB.out.trans (HG0.out.mono HB.out.size))
  have BX2 := Lib.hid bx2; clear bx2
  clear HG0
  simp only [Act.put, rA, rB, rC]
  refine wpPlan_takeL (v := ?_) rfl (by rfl) (fun w' hw => ?_) ?_; rotate_left; go_simp; with_reducible rfl; simp only [Act.put, rA, rB, rC]
  refine wpPlan_callE rfl (by rfl) Tryd.call14 (by rfl) (fun w' hw => (zrofw _ ky fy b w _ HVy.out (by omega) HWy.out (Gr.trans HB.out hw) HFy.out).mono ?_)
  rintro e vv2 ⟨⟨rv2, rfl, bx3⟩, hg0⟩
  obtain ⟨ao2, nn2, cc2, rfl⟩ := Rn.sl bx3
  refine ⟨_, rfl, hg0, ?_⟩
  replace hg0 := Gr.trans hw hg0; clear hw
  have HG0 := Lib.hid hg0; clear hg0
  replace BX0 := bG BX0 HG0
  replace BX1 := bG BX1 HG0
  replace BX2 := rG BX2 HG0
  replace HB := Lib.hid (HB.out.trans (HG0.out.mono HB.out.size))
  have BX3 := Lib.hid bx3; clear bx3
  clear HG0
  simp only [Act.put, rA, rB, rC]
  iterate 2 (refine wpPlan_takeL (v := ?_) rfl (by rfl) (fun w' hw => ?_) ?_; rotate_left; go_simp; with_reducible rfl; simp only [Act.put, rA, rB, rC])
  refine wpPlan_nil (hT.out _ _ ?_); clear hT T
  intro vw3 hg
  simp only [puts, Act.put, rA, rB, rC, rD, rE, ↓reduceIte, Nat.reduceEqDiff]
  have HG := Lib.hid (hg)
  clear hg
  replace BX0 := bG BX0 HG
  replace BX1 := bG BX1 HG
  replace BX2 := rG BX2 HG
  replace BX3 := rG BX3 HG
  have r0 := Gr.refl vw3
  go_wp2
  refine hK.out _ _ ?_; clear hK K
  show Code.wp _ _ _ _ _
  clear r0
  refine forgetW (fun w2 => NX w2 gx0 (a) ∧ NX w2 gx1 (b) ∧ Rn w2 (.slice ao1 nn1 cc1) (a) ∧ Rn w2 (.slice ao2 nn2 cc2) (b) ∧ Below w.heap.size w w2) ⟨BX0.out, BX1.out, BX2.out, BX3.out, HB.out.trans (HG.out.mono HB.out.size)⟩ ?_
  clear HB HG BX0 BX1 BX2 BX3
  rintro Wx4 ⟨bx0, bx1, bx2, bx3, HB⟩
  replace HB := Lib.hid HB
  have BX0 := Lib.hid bx0
  have BX1 := Lib.hid bx1
  have BX2 := Lib.hid bx2
  have BX3 := Lib.hid bx3
  clear bx0 bx1 bx2 bx3
  refine sK fun K hK => ?_
  refine wp_region_seqplan 4 [(true, 0), (true, 1), (true, 2), (true, 3)] (by rfl) (by simp) (fun T hT => ?_)
  iterate 2 (refine wpPlan_takeL (v := ?_) rfl (by rfl) (fun w' hw => ?_) ?_; rotate_left; go_simp; with_reducible rfl; simp only [Act.put, rA, rB, rC])
  refine wpPlan_callL rfl (by rfl) Tryd.call15 (fun w' hw => zrcmp _ _ (a) (b) (-1) _ (cmpI_lt (by have e : (a) < (b) := (by first | rfl | omega | (simp; done) | grind); first | exact e | omega)) (BX2.out.gr hw) (BX3.out.gr hw) (by omega) (by omega)) (by rfl) ?_
  simp only [Act.put, rA, rB, rC]
  refine wpPlan_takeL (v := ?_) rfl (by rfl) (fun w' hw => ?_) ?_; rotate_left; go_simp; with_reducible rfl; simp only [Act.put, rA, rB, rC]
  refine wpPlan_nil (hT.out _ _ ?_); clear hT T
  intro vw4 hg
  simp only [puts, Act.put, rA, rB, rC, rD, rE, ↓reduceIte, Nat.reduceEqDiff]
  have HG := Lib.hid (hg)
  clear hg
  replace BX0 := bG BX0 HG
  replace BX1 := bG BX1 HG
  replace BX2 := rG BX2 HG
  replace BX3 := rG BX3 HG
  have r0 := Gr.refl vw4
  go_wp2
  refine hK.out _ _ ?_; clear hK K
  show Code.wp _ _ _ _ _
  clear r0
  refine forgetW (fun w2 => NX w2 gx0 (a) ∧ NX w2 gx1 (b) ∧ Rn w2 (.slice ao1 nn1 cc1) (a) ∧ Rn w2 (.slice ao2 nn2 cc2) (b) ∧ Below w.heap.size w w2) ⟨BX0.out, BX1.out, BX2.out, BX3.out, HB.out.trans (HG.out.mono HB.out.size)⟩ ?_
  clear HB HG BX0 BX1 BX2 BX3
  rintro Wx5 ⟨bx0, bx1, bx2, bx3, HB⟩
  replace HB := Lib.hid HB
  have lx0 := bx0.cells
  have lx1 := bx1.cells
  have BX0 := Lib.hid bx0
  have BX1 := Lib.hid bx1
  have BX2 := Lib.hid bx2
  have BX3 := Lib.hid bx3
  clear bx0 bx1 bx2 bx3
  refine sK fun K hK => ?_
  refine wp_region_seqplan 6 [(true, 0), (true, 1), (true, 2), (true, 3), (true, 4), (true, 5)] (by rfl) (by simp) (fun T hT => ?_)
  iterate 2 (refine wpPlan_takeL (v := ?_) rfl (by rfl) (fun w' hw => ?_) ?_; rotate_left; go_simp; with_reducible rfl; simp only [Act.put, rA, rB, rC])
  refine wpPlan_callL rfl (by rfl) Tryd.call16 (fun w' hw => nzsubno (a) (b) _ (by first | rfl | omega | (simp; done) | grind) (by omega) (by omega)) (by rfl) ?_
  simp only [Act.put, rA, rB, rC]
  iterate 3 (refine wpPlan_takeL (v := ?_) rfl (by rfl) (fun w' hw => ?_) ?_; rotate_left; go_simp; with_reducible rfl; simp only [Act.put, rA, rB, rC])
  refine wpPlan_nil (hT.out _ _ ?_); clear hT T
  intro vw5 hg
  simp only [puts, Act.put, rA, rB, rC, rD, rE, ↓reduceIte, Nat.reduceEqDiff]
  clear lx0 lx1
  have HG := Lib.hid (hg)
  clear hg
  replace BX0 := bG BX0 HG
  replace BX1 := bG BX1 HG
  replace BX2 := rG BX2 HG
  replace BX3 := rG BX3 HG
  have r0 := Gr.refl vw5
  go_wp2
  refine hK.out _ _ ?_; clear hK K
  show Code.wp _ _ _ _ _
  clear r0
  have hsz : w.heap.size ≤ vw5.heap.size := Nat.le_trans HB.out.size HG.out.size
  have mx0 : gx0 < vw5.heap.size := BX0.out.lt
  have mx1 : gx1 < vw5.heap.size := BX1.out.lt
  refine forgetW (fun w2 => NX w2 gx0 (a) ∧ NX w2 gx1 (b) ∧ Rn w2 (.slice ao1 nn1 cc1) (a) ∧ Rn w2 (.slice ao2 nn2 cc2) (b) ∧ NX w2 (vw5.heap.size) (0) ∧ Below w.heap.size w w2) ⟨(BX0.out).alloc _, (BX1.out).alloc _, (BX2.out).alloc _, (BX3.out).alloc _, (Bx.at (by simp) : Bx _ (vw5.heap.size) _ _), (HB.out.trans (HG.out.mono HB.out.size)).alloc (by first | omega | (simp; omega)) _⟩ ?_
  clear HB HG BX0 BX1 BX2 BX3
  rintro Wx6 ⟨bx0, bx1, bx2, bx3, bx4, HB⟩
  replace HB := Lib.hid HB
  have yx4 : w.heap.size ≤ vw5.heap.size := by omega
  have qx0_4 : gx0 < vw5.heap.size := by omega
  have qx1_4 : gx1 < vw5.heap.size := by omega
  generalize hx4 : vw5.heap.size = gx4 at *
  clear hx4
  clear hsz mx0 mx1
  refine wp_seq ?_
  obtain ⟨u3, HZ3⟩ : ∃ z, Hid ((a) + (b) = z) := ⟨_, Lib.hid rfl⟩
  have su3 : wl (u3) ≤ 25 := by rw [← HZ3.out]; have := wl_add (a) (b); omega
  have HZ4 : Hid ((a) + (b) = u3) := Lib.hid (by first | omega | (try simp only [← HZ3.out]) <;> first | rfl | omega | (simp; done) | grind)
  have su4 : tw (u3) ≤ 73 := by have e := HZ4.out; first | omega | (rw [← e]; have := tw_add (a) (b); omega)
  have hd3 : decide (a = b) = false := decide_eq_false (by first | omega | (try simp only [← HZ3.out]) <;> first | rfl | omega | (simp; done) | grind)
  have lx0 := bx0.cells
  have lx1 := bx1.cells
  have lx4 := bx4.cells
  have BX0 := Lib.hid bx0
  have BX1 := Lib.hid bx1
  have BX2 := Lib.hid bx2
  have BX3 := Lib.hid bx3
  have BX4 := Lib.hid bx4
  clear bx0 bx1 bx2 bx3 bx4
  refine sK fun K hK => ?_
  have HS0 := Lib.hid (HB.out.size)
  have MX0 : gx0 < Wx6.heap.size := BX0.out.lt
  have MX1 : gx1 < Wx6.heap.size := BX1.out.lt
  have MX4 : gx4 < Wx6.heap.size := BX4.out.lt
  refine wp_region_seqplan 44 [(true, 0), (true, 1), (true, 2), (true, 3), (true, 4), (true, 5), (true, 6), (true, 7), (true, 8), (true, 9), (false, 10), (true, 11), (true, 12), (true, 13), (true, 14), (true, 15), (true, 16), (true, 17), (true, 18), (true, 19), (true, 20), (true, 21), (true, 22), (true, 23), (true, 24), (true, 25), (true, 26), (true, 27), (true, 28), (true, 29), (true, 30), (true, 31), (true, 32), (true, 33), (true, 34), (true, 35), (true, 36), (true, 37), (true, 38), (true, 39), (true, 40), (true, 41), (true, 42), (true, 43)] (by rfl) (by simp) (fun T hT => ?_)
  iterate 2 (refine wpPlan_takeL (v := ?_) rfl (by rfl) (fun w' hw => ?_) ?_; rotate_left; go_simp; with_reducible rfl; simp only [Act.put, rA, rB, rC])
  refine wpPlan_callL rfl (by rfl) Tryd.call17 (fun w' hw => same_any (a) (a) _ _ (rfl) (BX2.out.gr hw) (by omega) (by omega) (Lib.hid (HT.out.gr (Gr.trans HB.out hw)))) (by rfl) ?_
  simp only [Act.put, rA, rB, rC]
  iterate 4 (refine wpPlan_takeL (v := ?_) rfl (by rfl) (fun w' hw => ?_) ?_; rotate_left; go_simp; with_reducible rfl; simp only [Act.put, rA, rB, rC])
  refine wpPlan_callL rfl (by rfl) Tryd.call18 (fun w' hw => nzadd (a) (b) (u3) _ HZ3.out (by omega) (by omega)) (by rfl) ?_
  simp only [Act.put, rA, rB, rC]
  iterate 2 (refine wpPlan_takeL (v := ?_) rfl (by rfl) (fun w' hw => ?_) ?_; rotate_left; go_simp; with_reducible rfl; simp only [Act.put, rA, rB, rC])
  refine wpPlan_callE rfl (by rfl) Tryd.call19 (by rfl) (fun w' hw => (zradd _ _ (a) (b) (u3) _ HZ4.out (BX2.out.gr hw) (BX3.out.gr hw) (by omega) (by omega)).mono ?_)
  rintro e vv1 ⟨⟨rv3, rfl, bx5⟩, hg0⟩
  obtain ⟨ao3, nn3, cc3, rfl⟩ := Rn.sl bx5
  refine ⟨_, rfl, hg0, ?_⟩
  replace hg0 := Gr.trans hw hg0; clear hw
  have HG0 := Lib.hid hg0; clear hg0
  replace BX0 := bG BX0 HG0
  replace BX1 := bG BX1 HG0
  replace BX2 := rG BX2 HG0
  replace BX3 := rG BX3 HG0
  replace BX4 := bG BX4 HG0
  replace HB := Lib.hid (HB.out.trans (HG0.out.mono HB.out.size))
  have BX5 := Lib.hid bx5; clear bx5
  clear HG0
  clear lx0; have lx0 := BX0.out.cells
  clear lx1; have lx1 := BX1.out.cells
  clear lx4; have lx4 := BX4.out.cells
  simp only [Act.put, rA, rB, rC]
  refine wpPlan_callL rfl (by rfl) Tryd.call17 (fun w' hw => same_any (u3) (u3) _ _ (rfl) (BX5.out.gr hw) (by omega) (by omega) (Lib.hid (HT.out.gr (Gr.trans HB.out hw)))) (by rfl) ?_
  simp only [Act.put, rA, rB, rC]
  iterate 5 (refine wpPlan_takeL (v := ?_) rfl (by rfl) (fun w' hw => ?_) ?_; rotate_left; go_simp; with_reducible rfl; simp only [Act.put, rA, rB, rC])
  refine wpPlan_callL rfl (by rfl) Tryd.call20 (fun w' hw => nzcmp (a) (b) (-1) _ (cmpI_lt (by have e : (a) < (b) := (by first | omega | (try simp only [← HZ3.out]) <;> first | rfl | omega | (simp; done) | grind); first | exact e | omega)) (by omega) (by omega)) (by rfl) ?_
  simp only [Act.put, rA, rB, rC]
  iterate 26 (refine wpPlan_takeL (v := ?_) rfl (by rfl) (fun w' hw => ?_) ?_; rotate_left; go_simp; with_reducible rfl; simp only [Act.put, rA, rB, rC])
  refine wpPlan_nil (hT.out _ _ ?_); clear hT T
  intro vw6 hg
  simp only [puts, Act.put, rA, rB, rC, rD, rE, ↓reduceIte, Nat.reduceEqDiff]
  clear lx0 lx1 lx4
  have HG := Lib.hid (hg)
  clear hg
  replace BX0 := bG BX0 HG
  replace BX1 := bG BX1 HG
  replace BX2 := rG BX2 HG
  replace BX3 := rG BX3 HG
  replace BX4 := bG BX4 HG
  replace BX5 := rG BX5 HG
  have r0 := Gr.refl vw6
  go_wp2
  refine hK.out _ _ ?_; clear hK K
  show Code.wp _ _ _ _ _
  clear r0
  refine forgetW (fun w2 => Rn w2 (.slice ao1 nn1 cc1) (a) ∧ Rn w2 (.slice ao2 nn2 cc2) (b) ∧ NX w2 gx4 (0) ∧ Below w.heap.size w w2) ⟨BX2.out, BX3.out, BX4.out, HB.out.trans (HG.out.mono HB.out.size)⟩ ?_
  clear HB HG BX0 BX1 BX2 BX3 BX4 BX5
  rintro Wx7 ⟨bx2, bx3, bx4, HB⟩
  replace HB := Lib.hid HB
  clear hd3
  refine wp_cond_false (by rfl) ?_
  refine wp_skip ?_
  show Code.wp _ _ _ _ _
  have lx4 := bx4.cells
  have BX2 := Lib.hid bx2
  have BX3 := Lib.hid bx3
  have BX4 := Lib.hid bx4
  clear bx2 bx3 bx4
  refine sK fun K hK => ?_
  refine wp_region_plan 12 [] [] (fun _ => 0) (fun _ => .cells #[] 0) [(true, 0), (true, 1), (true, 2), (true, 3), (true, 4), (true, 5), (true, 6), (true, 7), (true, 8), (true, 9), (true, 10), (true, 11)] (by kernel_rfl) (by kernel_rfl) (fun i hi => by cases hi) (fun i hi => by cases hi) (fun _ _ _ _ _ h => h) (fun T hT => ?_)
  iterate 3 (refine wpPlan_takeL (v := ?_) rfl (by rfl) (fun w' hw => ?_) ?_; rotate_left; go_simp; with_reducible rfl; simp only [Act.put, rA, rB, rC])
  iterate 5 (refine wpPlan_skipL rfl (by rfl) ?_; simp only [Act.put, rA, rB, rC])
  iterate 2 (refine wpPlan_takeL (v := ?_) rfl (by rfl) (fun w' hw => ?_) ?_; rotate_left; go_simp; with_reducible rfl; simp only [Act.put, rA, rB, rC])
  refine wpPlan_callL rfl (by rfl) Tryd.call12 (fun w' hw => works_any _ (Lib.hid (HT.out.gr (Gr.trans HB.out hw)))) (by rfl) ?_
  simp only [Act.put, rA, rB, rC]
  refine wpPlan_takeL (v := ?_) rfl (by rfl) (fun w' hw => ?_) ?_; rotate_left; go_simp; with_reducible rfl; simp only [Act.put, rA, rB, rC]
  refine wpPlan_nil (hT.out _ _ ?_); clear hT T
  intro G vw7 hg hf
  simp only [puts, Act.put, rA, rB, rC, rD, rE, ↓reduceIte, Nat.reduceEqDiff]
  clear lx4
  have HG := Lib.hid (hg)
  clear hg
  replace BX2 := rG BX2 HG
  replace BX3 := rG BX3 HG
  replace BX4 := bG BX4 HG
  have r0 := Gr.refl vw7
  go_wp2
  refine hK.out _ _ ?_; clear hK K
  show Code.wp _ _ _ _ _
  clear r0
  refine forgetW (fun w2 => Below w.heap.size w w2) (HB.out.trans (HG.out.mono HB.out.size)) ?_
  clear HB HG BX2 BX3 BX4
  rintro Wx9 HB
  replace HB := Lib.hid HB
  refine wp_ret ?_
  try simp only [Exit.then, Exit.inBlock]
  have r0 := Gr.refl Wx9
  exact bodyPost_ret (v := .bool true) (by simp [results, Tryd.results3, go_sem]) rfl ⟨rfl, HB.out⟩

set_option maxRecDepth 100000 in
set_option maxHeartbeats 4000000 in
theorem sums_gt (vx : Value) (kx : Nat) (fx : Nat → Nat) (vy : Value) (ky : Nat) (fy : Nat → Nat) (a b : Nat)  (w : World) (HWx : Hid (Wa w vx kx fx)) (HFx : Hid (∀ i, i < kx → fx i < 4294967296)) (HVx : Hid (vl fx kx = a)) (HWy : Hid (Wa w vy ky fy)) (HFy : Hid (∀ i, i < ky → fy i < 4294967296)) (HVy : Hid (vl fy ky = b)) (hkx : kx ≤ 24) (hky : ky ≤ 24) (hlt : b < a) (HT : Hid (Tab w)) :
    Calls Tryd.prog 3 #[vx, vy] w fun e w' => e = .returned (.bool true) ∧ Below w.heap.size w w' := by
  obtain ⟨ao_x, c_x, rfl⟩ := HWx.out.slice
  obtain ⟨ao_y, c_y, rfl⟩ := HWy.out.slice
  have hb_a : wl a ≤ 24 := by rw [← HVx.out]; have := wl_le.2 (vl_lt HFx.out); omega
  have hb_b : wl b ≤ 24 := by rw [← HVy.out]; have := wl_le.2 (vl_lt HFy.out); omega
  go_enter Tryd.func3, Tryd.ntmps3
  refine sK fun K hK => ?_
  refine wp_region_lit ?_
  go_wp2
  refine hK.out _ _ ?_; clear hK K
  show Code.wp _ _ _ _ _
  refine forgetW (fun w2 => Below w.heap.size w w2) (Below.refl _ _) ?_
  rintro Wx HB
  replace HB := Lib.hid HB
  refine wp_seq ?_
  have hd1 : ¬ (24 < ((kx : Int))) := by omega
  have hd2 : ¬ (24 < ((ky : Int))) := by omega
  refine sK fun K hK => ?_
  refine wp_region_seqplan 8 [(true, 0), (true, 1), (true, 2), (true, 3), (true, 4), (true, 5), (true, 6), (true, 7)] (by rfl) (by simp) (fun T hT => ?_)
  iterate 8 (refine wpPlan_takeL (v := ?_) rfl (by rfl) (fun w' hw => ?_) ?_; rotate_left; go_simp; with_reducible rfl; simp only [Act.put, rA, rB, rC])
  refine wpPlan_nil (hT.out _ _ ?_); clear hT T
  intro vw1 hg
  simp only [puts, Act.put, rA, rB, rC, rD, rE, ↓reduceIte, Nat.reduceEqDiff]
  have HG := Lib.hid (hg)
  clear hg
  have r0 := Gr.refl vw1
  go_wp2
  refine hK.out _ _ ?_; clear hK K
  show Code.wp _ _ _ _ _
  clear r0
  refine forgetW (fun w2 => Below w.heap.size w w2) (HB.out.trans (HG.out.mono HB.out.size)) ?_
  clear HB HG
  rintro Wx1 HB
  replace HB := Lib.hid HB
  clear hd1 hd2
  refine wp_cond_false (by rfl) ?_
  refine wp_skip ?_
  show Code.wp _ _ _ _ _
  refine sK fun K hK => ?_
  refine wp_region_seqplan 4 [(true, 0), (true, 1), (true, 2), (true, 3)] (by rfl) (by simp) (fun T hT => ?_)
  refine wpPlan_takeL (v := ?_) rfl (by rfl) (fun w' hw => ?_) ?_; rotate_left; go_simp; with_reducible rfl; simp only [Act.put, rA, rB, rC]
  refine wpPlan_callL rfl (by rfl) Tryd.call13 (fun w' hw => zmade _ kx fx a w _ HVx.out (by omega) HWx.out (Gr.trans HB.out hw) HFx.out) (by rfl) ?_
  simp only [Act.put, rA, rB, rC]
  refine wpPlan_takeL (v := ?_) rfl (by rfl) (fun w' hw => ?_) ?_; rotate_left; go_simp; with_reducible rfl; simp only [Act.put, rA, rB, rC]
  refine wpPlan_callL rfl (by rfl) Tryd.call13 (fun w' hw => zmade _ ky fy b w _ HVy.out (by omega) HWy.out (Gr.trans HB.out hw) HFy.out) (by rfl) ?_
  simp only [Act.put, rA, rB, rC]
  refine wpPlan_nil (hT.out _ _ ?_); clear hT T
  intro vw2 hg
  simp only [puts, Act.put, rA, rB, rC, rD, rE, ↓reduceIte, Nat.reduceEqDiff]
  have HG := Lib.hid (hg)
  clear hg
  have r0 := Gr.refl vw2
  go_wp2
  refine hK.out _ _ ?_; clear hK K
  show Code.wp _ _ _ _ _
  clear r0
  have hsz : w.heap.size ≤ vw2.heap.size := Nat.le_trans HB.out.size HG.out.size
  refine forgetW (fun w2 => NX w2 (vw2.heap.size) (a) ∧ NX w2 (vw2.heap.size + 1) (b) ∧ Below w.heap.size w w2) ⟨((Bx.at (by simp) : Bx _ (vw2.heap.size) _ _)).alloc _, (Bx.at (by simp) : Bx _ (vw2.heap.size + 1) _ _), ((HB.out.trans (HG.out.mono HB.out.size)).alloc (by first | omega | (simp; omega)) _).alloc (by first | omega | (simp; omega)) _⟩ ?_
  clear HB HG
  rintro Wx3 ⟨bx0, bx1, HB⟩
  replace HB := Lib.hid HB
  have qx0_1 : vw2.heap.size < vw2.heap.size + 1 := by omega
  have yx1 : w.heap.size ≤ vw2.heap.size + 1 := by omega
  generalize hx1 : vw2.heap.size + 1 = gx1 at *
  clear hx1
  have yx0 : w.heap.size ≤ vw2.heap.size := by omega
  generalize hx0 : vw2.heap.size = gx0 at *
  clear hx0
  clear hsz
  have su1 : tw a ≤ 72 := by rw [← HVx.out]; have := tw_wl (vl fx kx); have := wl_le.2 (vl_lt HFx.out); omega
  have su2 : tw b ≤ 72 := by rw [← HVy.out]; have := tw_wl (vl fy ky); have := wl_le.2 (vl_lt HFy.out); omega
  have BX0 := Lib.hid bx0
  have BX1 := Lib.hid bx1
  clear bx0 bx1
  refine sK fun K hK => ?_
  have HS0 := Lib.hid (HB.out.size)
  have MX0 : gx0 < Wx3.heap.size := BX0.out.lt
  have MX1 : gx1 < Wx3.heap.size := BX1.out.lt
  refine wp_region_seqplan 6 [(true, 0), (false, 1), (true, 2), (false, 3), (true, 4), (true, 5)] (by rfl) (by simp) (fun T hT => ?_)
  refine wpPlan_takeL (v := ?_) rfl (by rfl) (fun w' hw => ?_) ?_; rotate_left; go_simp; with_reducible rfl; simp only [Act.put, rA, rB, rC]
  refine wpPlan_callE rfl (by rfl) Tryd.call14 (by rfl) (fun w' hw => (zrofw _ kx fx a w _ HVx.out (by omega) HWx.out (Gr.trans HB.out hw) HFx.out).mono ?_)
  rintro e vv1 ⟨⟨rv1, rfl, bx2⟩, hg0⟩
  obtain ⟨ao1, nn1, cc1, rfl⟩ := Rn.sl bx2
  refine ⟨_, rfl, hg0, ?_⟩
  replace hg0 := Gr.trans hw hg0; clear hw
  have HG0 := Lib.hid hg0; clear hg0
  replace BX0 := bG BX0 HG0
  replace BX1 := bG BX1 HG0
  replace HB := Lib.hid (HB.out.trans (HG0.out.mono HB.out.size))
  have BX2 := Lib.hid bx2; clear bx2
  clear HG0
  simp only [Act.put, rA, rB, rC]
  refine wpPlan_takeL (v := ?_) rfl (by rfl) (fun w' hw => ?_) ?_; rotate_left; go_simp; with_reducible rfl; simp only [Act.put, rA, rB, rC]
  refine wpPlan_callE rfl (by rfl) Tryd.call14 (by rfl) (fun w' hw => (zrofw _ ky fy b w _ HVy.out (by omega) HWy.out (Gr.trans HB.out hw) HFy.out).mono ?_)
  rintro e vv2 ⟨⟨rv2, rfl, bx3⟩, hg0⟩
  obtain ⟨ao2, nn2, cc2, rfl⟩ := Rn.sl bx3
  refine ⟨_, rfl, hg0, ?_⟩
  replace hg0 := Gr.trans hw hg0; clear hw
  have HG0 := Lib.hid hg0; clear hg0
  replace BX0 := bG BX0 HG0
  replace BX1 := bG BX1 HG0
  replace BX2 := rG BX2 HG0
  replace HB := Lib.hid (HB.out.trans (HG0.out.mono HB.out.size))
  have BX3 := Lib.hid bx3; clear bx3
  clear HG0
  simp only [Act.put, rA, rB, rC]
  iterate 2 (refine wpPlan_takeL (v := ?_) rfl (by rfl) (fun w' hw => ?_) ?_; rotate_left; go_simp; with_reducible rfl; simp only [Act.put, rA, rB, rC])
  refine wpPlan_nil (hT.out _ _ ?_); clear hT T
  intro vw3 hg
  simp only [puts, Act.put, rA, rB, rC, rD, rE, ↓reduceIte, Nat.reduceEqDiff]
  have HG := Lib.hid (hg)
  clear hg
  replace BX0 := bG BX0 HG
  replace BX1 := bG BX1 HG
  replace BX2 := rG BX2 HG
  replace BX3 := rG BX3 HG
  have r0 := Gr.refl vw3
  go_wp2
  refine hK.out _ _ ?_; clear hK K
  show Code.wp _ _ _ _ _
  clear r0
  refine forgetW (fun w2 => NX w2 gx0 (a) ∧ NX w2 gx1 (b) ∧ Rn w2 (.slice ao1 nn1 cc1) (a) ∧ Rn w2 (.slice ao2 nn2 cc2) (b) ∧ Below w.heap.size w w2) ⟨BX0.out, BX1.out, BX2.out, BX3.out, HB.out.trans (HG.out.mono HB.out.size)⟩ ?_
  clear HB HG BX0 BX1 BX2 BX3
  rintro Wx4 ⟨bx0, bx1, bx2, bx3, HB⟩
  replace HB := Lib.hid HB
  have BX0 := Lib.hid bx0
  have BX1 := Lib.hid bx1
  have BX2 := Lib.hid bx2
  have BX3 := Lib.hid bx3
  clear bx0 bx1 bx2 bx3
  refine sK fun K hK => ?_
  refine wp_region_seqplan 4 [(true, 0), (true, 1), (true, 2), (true, 3)] (by rfl) (by simp) (fun T hT => ?_)
  iterate 2 (refine wpPlan_takeL (v := ?_) rfl (by rfl) (fun w' hw => ?_) ?_; rotate_left; go_simp; with_reducible rfl; simp only [Act.put, rA, rB, rC])
  refine wpPlan_callL rfl (by rfl) Tryd.call15 (fun w' hw => zrcmp _ _ (a) (b) (1) _ (cmpI_gt (by have e : (a) > (b) := (by first | rfl | omega | (simp; done) | grind); first | exact e | omega)) (BX2.out.gr hw) (BX3.out.gr hw) (by omega) (by omega)) (by rfl) ?_
  simp only [Act.put, rA, rB, rC]
  refine wpPlan_takeL (v := ?_) rfl (by rfl) (fun w' hw => ?_) ?_; rotate_left; go_simp; with_reducible rfl; simp only [Act.put, rA, rB, rC]
  refine wpPlan_nil (hT.out _ _ ?_); clear hT T
  intro vw4 hg
  simp only [puts, Act.put, rA, rB, rC, rD, rE, ↓reduceIte, Nat.reduceEqDiff]
  have HG := Lib.hid (hg)
  clear hg
  replace BX0 := bG BX0 HG
  replace BX1 := bG BX1 HG
  replace BX2 := rG BX2 HG
  replace BX3 := rG BX3 HG
  have r0 := Gr.refl vw4
  go_wp2
  refine hK.out _ _ ?_; clear hK K
  show Code.wp _ _ _ _ _
  clear r0
  refine forgetW (fun w2 => NX w2 gx0 (a) ∧ NX w2 gx1 (b) ∧ Rn w2 (.slice ao1 nn1 cc1) (a) ∧ Rn w2 (.slice ao2 nn2 cc2) (b) ∧ Below w.heap.size w w2) ⟨BX0.out, BX1.out, BX2.out, BX3.out, HB.out.trans (HG.out.mono HB.out.size)⟩ ?_
  clear HB HG BX0 BX1 BX2 BX3
  rintro Wx5 ⟨bx0, bx1, bx2, bx3, HB⟩
  replace HB := Lib.hid HB
  obtain ⟨u3, HZ3⟩ : ∃ z, Hid ((a) - (b) = z) := ⟨_, Lib.hid rfl⟩
  have su3 : wl (u3) ≤ 24 := by rw [← HZ3.out]; have := wl_sub (a) (b); omega
  have lx0 := bx0.cells
  have lx1 := bx1.cells
  have BX0 := Lib.hid bx0
  have BX1 := Lib.hid bx1
  have BX2 := Lib.hid bx2
  have BX3 := Lib.hid bx3
  clear bx0 bx1 bx2 bx3
  refine sK fun K hK => ?_
  refine wp_region_seqplan 6 [(true, 0), (true, 1), (true, 2), (true, 3), (true, 4), (true, 5)] (by rfl) (by simp) (fun T hT => ?_)
  iterate 2 (refine wpPlan_takeL (v := ?_) rfl (by rfl) (fun w' hw => ?_) ?_; rotate_left; go_simp; with_reducible rfl; simp only [Act.put, rA, rB, rC])
  refine wpPlan_callL rfl (by rfl) Tryd.call16 (fun w' hw => nzsub (a) (b) (u3) _ HZ3.out (by first | omega | (try simp only [← HZ3.out]) <;> first | rfl | omega | (simp; done) | grind) (by omega) (by omega)) (by rfl) ?_
  simp only [Act.put, rA, rB, rC]
  iterate 3 (refine wpPlan_takeL (v := ?_) rfl (by rfl) (fun w' hw => ?_) ?_; rotate_left; go_simp; with_reducible rfl; simp only [Act.put, rA, rB, rC])
  refine wpPlan_nil (hT.out _ _ ?_); clear hT T
  intro vw5 hg
  simp only [puts, Act.put, rA, rB, rC, rD, rE, ↓reduceIte, Nat.reduceEqDiff]
  clear lx0 lx1
  have HG := Lib.hid (hg)
  clear hg
  replace BX0 := bG BX0 HG
  replace BX1 := bG BX1 HG
  replace BX2 := rG BX2 HG
  replace BX3 := rG BX3 HG
  have r0 := Gr.refl vw5
  go_wp2
  refine hK.out _ _ ?_; clear hK K
  show Code.wp _ _ _ _ _
  clear r0
  have hsz : w.heap.size ≤ vw5.heap.size := Nat.le_trans HB.out.size HG.out.size
  have mx0 : gx0 < vw5.heap.size := BX0.out.lt
  have mx1 : gx1 < vw5.heap.size := BX1.out.lt
  refine forgetW (fun w2 => NX w2 gx0 (a) ∧ NX w2 gx1 (b) ∧ Rn w2 (.slice ao1 nn1 cc1) (a) ∧ Rn w2 (.slice ao2 nn2 cc2) (b) ∧ NX w2 (vw5.heap.size) (u3) ∧ Below w.heap.size w w2) ⟨(BX0.out).alloc _, (BX1.out).alloc _, (BX2.out).alloc _, (BX3.out).alloc _, (Bx.at (by simp) : Bx _ (vw5.heap.size) _ _), (HB.out.trans (HG.out.mono HB.out.size)).alloc (by first | omega | (simp; omega)) _⟩ ?_
  clear HB HG BX0 BX1 BX2 BX3
  rintro Wx6 ⟨bx0, bx1, bx2, bx3, bx4, HB⟩
  replace HB := Lib.hid HB
  have yx4 : w.heap.size ≤ vw5.heap.size := by omega
  have qx0_4 : gx0 < vw5.heap.size := by omega
  have qx1_4 : gx1 < vw5.heap.size := by omega
  generalize hx4 : vw5.heap.size = gx4 at *
  clear hx4
  clear hsz mx0 mx1
  refine wp_seq ?_
  obtain ⟨u4, HZ4⟩ : ∃ z, Hid ((a) + (b) = z) := ⟨_, Lib.hid rfl⟩
  have su4 : wl (u4) ≤ 25 := by rw [← HZ4.out]; have := wl_add (a) (b); omega
  have HZ5 : Hid ((a) + (b) = u4) := Lib.hid (by first | omega | (try simp only [← HZ4.out, ← HZ3.out]) <;> first | rfl | omega | (simp; done) | grind)
  have su5 : tw (u4) ≤ 73 := by have e := HZ5.out; first | omega | (rw [← e]; have := tw_add (a) (b); omega)
  have hd3 : decide (a = b) = false := decide_eq_false (by first | omega | (try simp only [← HZ4.out, ← HZ3.out]) <;> first | rfl | omega | (simp; done) | grind)
  have lx0 := bx0.cells
  have lx1 := bx1.cells
  have lx4 := bx4.cells
  have BX0 := Lib.hid bx0
  have BX1 := Lib.hid bx1
  have BX2 := Lib.hid bx2
  have BX3 := Lib.hid bx3
  have BX4 := Lib.hid bx4
  clear bx0 bx1 bx2 bx3 bx4
  refine sK fun K hK => ?_
  have HS0 := Lib.hid (HB.out.size)
  have MX0 : gx0 < Wx6.heap.size := BX0.out.lt
  have MX1 : gx1 < Wx6.heap.size := BX1.out.lt
  have MX4 : gx4 < Wx6.heap.size := BX4.out.lt
  refine wp_region_seqplan 44 [(true, 0), (true, 1), (true, 2), (true, 3), (true, 4), (true, 5), (true, 6), (true, 7), (true, 8), (true, 9), (false, 10), (true, 11), (true, 12), (true, 13), (true, 14), (true, 15), (true, 16), (true, 17), (true, 18), (true, 19), (true, 20), (true, 21), (true, 22), (true, 23), (true, 24), (true, 25), (true, 26), (true, 27), (true, 28), (true, 29), (true, 30), (true, 31), (true, 32), (true, 33), (true, 34), (true, 35), (true, 36), (true, 37), (true, 38), (true, 39), (true, 40), (true, 41), (true, 42), (true, 43)] (by rfl) (by simp) (fun T hT => ?_)
  iterate 2 (refine wpPlan_takeL (v := ?_) rfl (by rfl) (fun w' hw => ?_) ?_; rotate_left; go_simp; with_reducible rfl; simp only [Act.put, rA, rB, rC])
  refine wpPlan_callL rfl (by rfl) Tryd.call17 (fun w' hw => same_any (a) (a) _ _ (rfl) (BX2.out.gr hw) (by omega) (by omega) (Lib.hid (HT.out.gr (Gr.trans HB.out hw)))) (by rfl) ?_
  simp only [Act.put, rA, rB, rC]
  iterate 4 (refine wpPlan_takeL (v := ?_) rfl (by rfl) (fun w' hw => ?_) ?_; rotate_left; go_simp; with_reducible rfl; simp only [Act.put, rA, rB, rC])
  refine wpPlan_callL rfl (by rfl) Tryd.call18 (fun w' hw => nzadd (a) (b) (u4) _ HZ4.out (by omega) (by omega)) (by rfl) ?_
  simp only [Act.put, rA, rB, rC]
  iterate 2 (refine wpPlan_takeL (v := ?_) rfl (by rfl) (fun w' hw => ?_) ?_; rotate_left; go_simp; with_reducible rfl; simp only [Act.put, rA, rB, rC])
  refine wpPlan_callE rfl (by rfl) Tryd.call19 (by rfl) (fun w' hw => (zradd _ _ (a) (b) (u4) _ HZ5.out (BX2.out.gr hw) (BX3.out.gr hw) (by omega) (by omega)).mono ?_)
  rintro e vv1 ⟨⟨rv3, rfl, bx5⟩, hg0⟩
  obtain ⟨ao3, nn3, cc3, rfl⟩ := Rn.sl bx5
  refine ⟨_, rfl, hg0, ?_⟩
  replace hg0 := Gr.trans hw hg0; clear hw
  have HG0 := Lib.hid hg0; clear hg0
  replace BX0 := bG BX0 HG0
  replace BX1 := bG BX1 HG0
  replace BX2 := rG BX2 HG0
  replace BX3 := rG BX3 HG0
  replace BX4 := bG BX4 HG0
  replace HB := Lib.hid (HB.out.trans (HG0.out.mono HB.out.size))
  have BX5 := Lib.hid bx5; clear bx5
  clear HG0
  clear lx0; have lx0 := BX0.out.cells
  clear lx1; have lx1 := BX1.out.cells
  clear lx4; have lx4 := BX4.out.cells
  simp only [Act.put, rA, rB, rC]
  refine wpPlan_callL rfl (by rfl) Tryd.call17 (fun w' hw => same_any (u4) (u4) _ _ (rfl) (BX5.out.gr hw) (by omega) (by omega) (Lib.hid (HT.out.gr (Gr.trans HB.out hw)))) (by rfl) ?_
  simp only [Act.put, rA, rB, rC]
  iterate 5 (refine wpPlan_takeL (v := ?_) rfl (by rfl) (fun w' hw => ?_) ?_; rotate_left; go_simp; with_reducible rfl; simp only [Act.put, rA, rB, rC])
  refine wpPlan_callL rfl (by rfl) Tryd.call20 (fun w' hw => nzcmp (a) (b) (1) _ (cmpI_gt (by have e : (a) > (b) := (by first | omega | (try simp only [← HZ4.out, ← HZ3.out]) <;> first | rfl | omega | (simp; done) | grind); first | exact e | omega)) (by omega) (by omega)) (by rfl) ?_
  simp only [Act.put, rA, rB, rC]
  iterate 21 (refine wpPlan_takeL (v := ?_) rfl (by rfl) (fun w' hw => ?_) ?_; rotate_left; go_simp; with_reducible rfl; simp only [Act.put, rA, rB, rC])
  iterate 3 (refine wpPlan_skipL rfl (by rfl) ?_; simp only [Act.put, rA, rB, rC])
  iterate 2 (refine wpPlan_takeL (v := ?_) rfl (by rfl) (fun w' hw => ?_) ?_; rotate_left; go_simp; with_reducible rfl; simp only [Act.put, rA, rB, rC])
  refine wpPlan_nil (hT.out _ _ ?_); clear hT T
  intro vw6 hg
  simp only [puts, Act.put, rA, rB, rC, rD, rE, ↓reduceIte, Nat.reduceEqDiff]
  clear lx0 lx1 lx4
  have HG := Lib.hid (hg)
  clear hg
  replace BX0 := bG BX0 HG
  replace BX1 := bG BX1 HG
  replace BX2 := rG BX2 HG
  replace BX3 := rG BX3 HG
  replace BX4 := bG BX4 HG
  replace BX5 := rG BX5 HG
  have r0 := Gr.refl vw6
  go_wp2
  refine hK.out _ _ ?_; clear hK K
  show Code.wp _ _ _ _ _
  clear r0
  refine forgetW (fun w2 => Rn w2 (.slice ao1 nn1 cc1) (a) ∧ Rn w2 (.slice ao2 nn2 cc2) (b) ∧ NX w2 gx4 (u3) ∧ Below w.heap.size w w2) ⟨BX2.out, BX3.out, BX4.out, HB.out.trans (HG.out.mono HB.out.size)⟩ ?_
  clear HB HG BX0 BX1 BX2 BX3 BX4 BX5
  rintro Wx7 ⟨bx2, bx3, bx4, HB⟩
  replace HB := Lib.hid HB
  clear hd3
  refine wp_cond_false (by rfl) ?_
  refine wp_skip ?_
  show Code.wp _ _ _ _ _
  have HZ6 : Hid ((a) - (b) = u3) := Lib.hid (by first | omega | (try simp only [← HZ4.out, ← HZ3.out]) <;> first | rfl | omega | (simp; done) | grind)
  have su6 : tw (u3) ≤ 72 := by have e := HZ6.out; first | omega | (rw [← e]; have := tw_sub (a) (b); omega)
  have lx4 := bx4.cells
  have BX2 := Lib.hid bx2
  have BX3 := Lib.hid bx3
  have BX4 := Lib.hid bx4
  clear bx2 bx3 bx4
  refine sK fun K hK => ?_
  have HS0 := Lib.hid (HB.out.size)
  have MX4 : gx4 < Wx7.heap.size := BX4.out.lt
  refine wp_region_plan 12 [] [] (fun _ => 0) (fun _ => .cells #[] 0) [(true, 0), (true, 1), (true, 2), (true, 3), (true, 4), (true, 5), (false, 6), (true, 7), (true, 8), (true, 9), (true, 10), (true, 11)] (by kernel_rfl) (by kernel_rfl) (fun i hi => by cases hi) (fun i hi => by cases hi) (fun _ _ _ _ _ h => h) (fun T hT => ?_)
  iterate 6 (refine wpPlan_takeL (v := ?_) rfl (by rfl) (fun w' hw => ?_) ?_; rotate_left; go_simp; with_reducible rfl; simp only [Act.put, rA, rB, rC])
  refine wpPlan_callE rfl (by rfl) Tryd.call21 (by rfl) (fun w' hw => (zrsub _ _ (a) (b) (u3) _ HZ6.out (BX2.out.gr hw) (BX3.out.gr hw) (by first | omega | (try simp only [← HZ4.out, ← HZ3.out]) <;> first | rfl | omega | (simp; done) | grind) (by omega) (by omega)).mono ?_)
  rintro e vv1 ⟨⟨rv4, rfl, bx6⟩, hg0⟩
  obtain ⟨ao4, nn4, cc4, rfl⟩ := Rn.sl bx6
  refine ⟨_, rfl, hg0, ?_⟩
  replace hg0 := Gr.trans hw hg0; clear hw
  have HG0 := Lib.hid hg0; clear hg0
  replace BX2 := rG BX2 HG0
  replace BX3 := rG BX3 HG0
  replace BX4 := bG BX4 HG0
  replace HB := Lib.hid (HB.out.trans (HG0.out.mono HB.out.size))
  have BX6 := Lib.hid bx6; clear bx6
  clear HG0
  clear lx4; have lx4 := BX4.out.cells
  simp only [Act.put, rA, rB, rC]
  refine wpPlan_callL rfl (by rfl) Tryd.call17 (fun w' hw => same_any (u3) (u3) _ _ (rfl) (BX6.out.gr hw) (by omega) (by omega) (Lib.hid (HT.out.gr (Gr.trans HB.out hw)))) (by rfl) ?_
  simp only [Act.put, rA, rB, rC]
  iterate 2 (refine wpPlan_takeL (v := ?_) rfl (by rfl) (fun w' hw => ?_) ?_; rotate_left; go_simp; with_reducible rfl; simp only [Act.put, rA, rB, rC])
  refine wpPlan_callL rfl (by rfl) Tryd.call12 (fun w' hw => works_any _ (Lib.hid (HT.out.gr (Gr.trans HB.out hw)))) (by rfl) ?_
  simp only [Act.put, rA, rB, rC]
  refine wpPlan_takeL (v := ?_) rfl (by rfl) (fun w' hw => ?_) ?_; rotate_left; go_simp; with_reducible rfl; simp only [Act.put, rA, rB, rC]
  refine wpPlan_nil (hT.out _ _ ?_); clear hT T
  intro G vw7 hg hf
  simp only [puts, Act.put, rA, rB, rC, rD, rE, ↓reduceIte, Nat.reduceEqDiff]
  clear lx4
  have HG := Lib.hid (hg)
  clear hg
  replace BX2 := rG BX2 HG
  replace BX3 := rG BX3 HG
  replace BX4 := bG BX4 HG
  replace BX6 := rG BX6 HG
  have r0 := Gr.refl vw7
  go_wp2
  refine hK.out _ _ ?_; clear hK K
  show Code.wp _ _ _ _ _
  clear r0
  refine forgetW (fun w2 => Below w.heap.size w w2) (HB.out.trans (HG.out.mono HB.out.size)) ?_
  clear HB HG BX2 BX3 BX4 BX6
  rintro Wx9 HB
  replace HB := Lib.hid HB
  refine wp_ret ?_
  try simp only [Exit.then, Exit.inBlock]
  have r0 := Gr.refl Wx9
  exact bodyPost_ret (v := .bool true) (by simp [results, Tryd.results3, go_sem]) rfl ⟨rfl, HB.out⟩

set_option maxRecDepth 100000 in
set_option maxHeartbeats 4000000 in
theorem sums_eq (vx : Value) (kx : Nat) (fx : Nat → Nat) (vy : Value) (ky : Nat) (fy : Nat → Nat) (a : Nat)  (w : World) (HWx : Hid (Wa w vx kx fx)) (HFx : Hid (∀ i, i < kx → fx i < 4294967296)) (HVx : Hid (vl fx kx = a)) (HWy : Hid (Wa w vy ky fy)) (HFy : Hid (∀ i, i < ky → fy i < 4294967296)) (HVy : Hid (vl fy ky = a)) (hkx : kx ≤ 24) (hky : ky ≤ 24) (HT : Hid (Tab w)) :
    Calls Tryd.prog 3 #[vx, vy] w fun e w' => e = .returned (.bool true) ∧ Below w.heap.size w w' := by
  obtain ⟨ao_x, c_x, rfl⟩ := HWx.out.slice
  obtain ⟨ao_y, c_y, rfl⟩ := HWy.out.slice
  have hb_a : wl a ≤ 24 := by rw [← HVx.out]; have := wl_le.2 (vl_lt HFx.out); omega
  have hb_a : wl a ≤ 24 := by rw [← HVy.out]; have := wl_le.2 (vl_lt HFy.out); omega
  go_enter Tryd.func3, Tryd.ntmps3
  refine sK fun K hK => ?_
  refine wp_region_lit ?_
  go_wp2
  refine hK.out _ _ ?_; clear hK K
  show Code.wp _ _ _ _ _
  refine forgetW (fun w2 => Below w.heap.size w w2) (Below.refl _ _) ?_
  rintro Wx HB
  replace HB := Lib.hid HB
  refine wp_seq ?_
  have hd1 : ¬ (24 < ((kx : Int))) := by omega
  have hd2 : ¬ (24 < ((ky : Int))) := by omega
  refine sK fun K hK => ?_
  refine wp_region_seqplan 8 [(true, 0), (true, 1), (true, 2), (true, 3), (true, 4), (true, 5), (true, 6), (true, 7)] (by rfl) (by simp) (fun T hT => ?_)
  iterate 8 (refine wpPlan_takeL (v := ?_) rfl (by rfl) (fun w' hw => ?_) ?_; rotate_left; go_simp; with_reducible rfl; simp only [Act.put, rA, rB, rC])
  refine wpPlan_nil (hT.out _ _ ?_); clear hT T
  intro vw1 hg
  simp only [puts, Act.put, rA, rB, rC, rD, rE, ↓reduceIte, Nat.reduceEqDiff]
  have HG := Lib.hid (hg)
  clear hg
  have r0 := Gr.refl vw1
  go_wp2
  refine hK.out _ _ ?_; clear hK K
  show Code.wp _ _ _ _ _
  clear r0
  refine forgetW (fun w2 => Below w.heap.size w w2) (HB.out.trans (HG.out.mono HB.out.size)) ?_
  clear HB HG
  rintro Wx1 HB
  replace HB := Lib.hid HB
  clear hd1 hd2
  refine wp_cond_false (by rfl) ?_
  refine wp_skip ?_
  show Code.wp _ _ _ _ _
  refine sK fun K hK => ?_
  refine wp_region_seqplan 4 [(true, 0), (true, 1), (true, 2), (true, 3)] (by rfl) (by simp) (fun T hT => ?_)
  refine wpPlan_takeL (v := ?_) rfl (by rfl) (fun w' hw => ?_) ?_; rotate_left; go_simp; with_reducible rfl; simp only [Act.put, rA, rB, rC]
  refine wpPlan_callL rfl (by rfl) Tryd.call13 (fun w' hw => zmade _ kx fx a w _ HVx.out (by omega) HWx.out (Gr.trans HB.out hw) HFx.out) (by rfl) ?_
  simp only [Act.put, rA, rB, rC]
  refine wpPlan_takeL (v := ?_) rfl (by rfl) (fun w' hw => ?_) ?_; rotate_left; go_simp; with_reducible rfl; simp only [Act.put, rA, rB, rC]
  refine wpPlan_callL rfl (by rfl) Tryd.call13 (fun w' hw => zmade _ ky fy a w _ HVy.out (by omega) HWy.out (Gr.trans HB.out hw) HFy.out) (by rfl) ?_
  simp only [Act.put, rA, rB, rC]
  refine wpPlan_nil (hT.out _ _ ?_); clear hT T
  intro vw2 hg
  simp only [puts, Act.put, rA, rB, rC, rD, rE, ↓reduceIte, Nat.reduceEqDiff]
  have HG := Lib.hid (hg)
  clear hg
  have r0 := Gr.refl vw2
  go_wp2
  refine hK.out _ _ ?_; clear hK K
  show Code.wp _ _ _ _ _
  clear r0
  have hsz : w.heap.size ≤ vw2.heap.size := Nat.le_trans HB.out.size HG.out.size
  refine forgetW (fun w2 => NX w2 (vw2.heap.size) (a) ∧ NX w2 (vw2.heap.size + 1) (a) ∧ Below w.heap.size w w2) ⟨((Bx.at (by simp) : Bx _ (vw2.heap.size) _ _)).alloc _, (Bx.at (by simp) : Bx _ (vw2.heap.size + 1) _ _), ((HB.out.trans (HG.out.mono HB.out.size)).alloc (by first | omega | (simp; omega)) _).alloc (by first | omega | (simp; omega)) _⟩ ?_
  clear HB HG
  rintro Wx3 ⟨bx0, bx1, HB⟩
  replace HB := Lib.hid HB
  have qx0_1 : vw2.heap.size < vw2.heap.size + 1 := by omega
  have yx1 : w.heap.size ≤ vw2.heap.size + 1 := by omega
  generalize hx1 : vw2.heap.size + 1 = gx1 at *
  clear hx1
  have yx0 : w.heap.size ≤ vw2.heap.size := by omega
  generalize hx0 : vw2.heap.size = gx0 at *
  clear hx0
  clear hsz
  have su1 : tw a ≤ 72 := by rw [← HVx.out]; have := tw_wl (vl fx kx); have := wl_le.2 (vl_lt HFx.out); omega
  have su2 : tw a ≤ 72 := by rw [← HVy.out]; have := tw_wl (vl fy ky); have := wl_le.2 (vl_lt HFy.out); omega
  have BX0 := Lib.hid bx0
  have BX1 := Lib.hid bx1
  clear bx0 bx1
  refine sK fun K hK => ?_
  have HS0 := Lib.hid (HB.out.size)
  have MX0 : gx0 < Wx3.heap.size := BX0.out.lt
  have MX1 : gx1 < Wx3.heap.size := BX1.out.lt
  refine wp_region_seqplan 6 [(true, 0), (false, 1), (true, 2), (false, 3), (true, 4), (true, 5)] (by rfl) (by simp) (fun T hT => ?_)
  refine wpPlan_takeL (v := ?_) rfl (by rfl) (fun w' hw => ?_) ?_; rotate_left; go_simp; with_reducible rfl; simp only [Act.put, rA, rB, rC]
  refine wpPlan_callE rfl (by rfl) Tryd.call14 (by rfl) (fun w' hw => (zrofw _ kx fx a w _ HVx.out (by omega) HWx.out (Gr.trans HB.out hw) HFx.out).mono ?_)
  rintro e vv1 ⟨⟨rv1, rfl, bx2⟩, hg0⟩
  obtain ⟨ao1, nn1, cc1, rfl⟩ := Rn.sl bx2
  refine ⟨_, rfl, hg0, ?_⟩
  replace hg0 := Gr.trans hw hg0; clear hw
  have HG0 := Lib.hid hg0; clear hg0
  replace BX0 := bG BX0 HG0
  replace BX1 := bG BX1 HG0
  replace HB := Lib.hid (HB.out.trans (HG0.out.mono HB.out.size))
  have BX2 := Lib.hid bx2; clear bx2
  clear HG0
  simp only [Act.put, rA, rB, rC]
  refine wpPlan_takeL (v := ?_) rfl (by rfl) (fun w' hw => ?_) ?_; rotate_left; go_simp; with_reducible rfl; simp only [Act.put, rA, rB, rC]
  refine wpPlan_callE rfl (by rfl) Tryd.call14 (by rfl) (fun w' hw => (zrofw _ ky fy a w _ HVy.out (by omega) HWy.out (Gr.trans HB.out hw) HFy.out).mono ?_)
  rintro e vv2 ⟨⟨rv2, rfl, bx3⟩, hg0⟩
  obtain ⟨ao2, nn2, cc2, rfl⟩ := Rn.sl bx3
  refine ⟨_, rfl, hg0, ?_⟩
  replace hg0 := Gr.trans hw hg0; clear hw
  have HG0 := Lib.hid hg0; clear hg0
  replace BX0 := bG BX0 HG0
  replace BX1 := bG BX1 HG0
  replace BX2 := rG BX2 HG0
  replace HB := Lib.hid (HB.out.trans (HG0.out.mono HB.out.size))
  have BX3 := Lib.hid bx3; clear bx3
  clear HG0
  simp only [Act.put, rA, rB, rC]
  iterate 2 (refine wpPlan_takeL (v := ?_) rfl (by rfl) (fun w' hw => ?_) ?_; rotate_left; go_simp; with_reducible rfl; simp only [Act.put, rA, rB, rC])
  refine wpPlan_nil (hT.out _ _ ?_); clear hT T
  intro vw3 hg
  simp only [puts, Act.put, rA, rB, rC, rD, rE, ↓reduceIte, Nat.reduceEqDiff]
  have HG := Lib.hid (hg)
  clear hg
  replace BX0 := bG BX0 HG
  replace BX1 := bG BX1 HG
  replace BX2 := rG BX2 HG
  replace BX3 := rG BX3 HG
  have r0 := Gr.refl vw3
  go_wp2
  refine hK.out _ _ ?_; clear hK K
  show Code.wp _ _ _ _ _
  clear r0
  refine forgetW (fun w2 => NX w2 gx0 (a) ∧ NX w2 gx1 (a) ∧ Rn w2 (.slice ao1 nn1 cc1) (a) ∧ Rn w2 (.slice ao2 nn2 cc2) (a) ∧ Below w.heap.size w w2) ⟨BX0.out, BX1.out, BX2.out, BX3.out, HB.out.trans (HG.out.mono HB.out.size)⟩ ?_
  clear HB HG BX0 BX1 BX2 BX3
  rintro Wx4 ⟨bx0, bx1, bx2, bx3, HB⟩
  replace HB := Lib.hid HB
  have BX0 := Lib.hid bx0
  have BX1 := Lib.hid bx1
  have BX2 := Lib.hid bx2
  have BX3 := Lib.hid bx3
  clear bx0 bx1 bx2 bx3
  refine sK fun K hK => ?_
  refine wp_region_seqplan 4 [(true, 0), (true, 1), (true, 2), (true, 3)] (by rfl) (by simp) (fun T hT => ?_)
  iterate 2 (refine wpPlan_takeL (v := ?_) rfl (by rfl) (fun w' hw => ?_) ?_; rotate_left; go_simp; with_reducible rfl; simp only [Act.put, rA, rB, rC])
  refine wpPlan_callL rfl (by rfl) Tryd.call15 (fun w' hw => zrcmp _ _ (a) (a) (0) _ (cmpI_eq (by have e : (a) = (a) := (by first | rfl | omega | (simp; done) | grind); first | exact e | omega)) (BX2.out.gr hw) (BX3.out.gr hw) (by omega) (by omega)) (by rfl) ?_
  simp only [Act.put, rA, rB, rC]
  refine wpPlan_takeL (v := ?_) rfl (by rfl) (fun w' hw => ?_) ?_; rotate_left; go_simp; with_reducible rfl; simp only [Act.put, rA, rB, rC]
  refine wpPlan_nil (hT.out _ _ ?_); clear hT T
  intro vw4 hg
  simp only [puts, Act.put, rA, rB, rC, rD, rE, ↓reduceIte, Nat.reduceEqDiff]
  have HG := Lib.hid (hg)
  clear hg
  replace BX0 := bG BX0 HG
  replace BX1 := bG BX1 HG
  replace BX2 := rG BX2 HG
  replace BX3 := rG BX3 HG
  have r0 := Gr.refl vw4
  go_wp2
  refine hK.out _ _ ?_; clear hK K
  show Code.wp _ _ _ _ _
  clear r0
  refine forgetW (fun w2 => NX w2 gx0 (a) ∧ NX w2 gx1 (a) ∧ Rn w2 (.slice ao1 nn1 cc1) (a) ∧ Rn w2 (.slice ao2 nn2 cc2) (a) ∧ Below w.heap.size w w2) ⟨BX0.out, BX1.out, BX2.out, BX3.out, HB.out.trans (HG.out.mono HB.out.size)⟩ ?_
  clear HB HG BX0 BX1 BX2 BX3
  rintro Wx5 ⟨bx0, bx1, bx2, bx3, HB⟩
  replace HB := Lib.hid HB
  have HZ3 : Hid ((a) - (a) = 0) := Lib.hid (by first | rfl | omega | (simp; done) | grind)
  have su3 : wl (0) ≤ 24 := by have e := HZ3.out; first | omega | (rw [← e]; have := wl_sub (a) (a); omega) | exact wl_le.2 (by decide +kernel)
  have lx0 := bx0.cells
  have lx1 := bx1.cells
  have BX0 := Lib.hid bx0
  have BX1 := Lib.hid bx1
  have BX2 := Lib.hid bx2
  have BX3 := Lib.hid bx3
  clear bx0 bx1 bx2 bx3
  refine sK fun K hK => ?_
  refine wp_region_seqplan 6 [(true, 0), (true, 1), (true, 2), (true, 3), (true, 4), (true, 5)] (by rfl) (by simp) (fun T hT => ?_)
  iterate 2 (refine wpPlan_takeL (v := ?_) rfl (by rfl) (fun w' hw => ?_) ?_; rotate_left; go_simp; with_reducible rfl; simp only [Act.put, rA, rB, rC])
  refine wpPlan_callL rfl (by rfl) Tryd.call16 (fun w' hw => nzsub (a) (a) (0) _ HZ3.out (by first | rfl | omega | (simp; done) | grind) (by omega) (by omega)) (by rfl) ?_
  simp only [Act.put, rA, rB, rC]
  iterate 3 (refine wpPlan_takeL (v := ?_) rfl (by rfl) (fun w' hw => ?_) ?_; rotate_left; go_simp; with_reducible rfl; simp only [Act.put, rA, rB, rC])
  refine wpPlan_nil (hT.out _ _ ?_); clear hT T
  intro vw5 hg
  simp only [puts, Act.put, rA, rB, rC, rD, rE, ↓reduceIte, Nat.reduceEqDiff]
  clear lx0 lx1
  have HG := Lib.hid (hg)
  clear hg
  replace BX0 := bG BX0 HG
  replace BX1 := bG BX1 HG
  replace BX2 := rG BX2 HG
  replace BX3 := rG BX3 HG
  have r0 := Gr.refl vw5
  go_wp2
  refine hK.out _ _ ?_; clear hK K
  show Code.wp _ _ _ _ _
  clear r0
  have hsz : w.heap.size ≤ vw5.heap.size := Nat.le_trans HB.out.size HG.out.size
  have mx0 : gx0 < vw5.heap.size := BX0.out.lt
  have mx1 : gx1 < vw5.heap.size := BX1.out.lt
  refine forgetW (fun w2 => NX w2 gx0 (a) ∧ NX w2 gx1 (a) ∧ Rn w2 (.slice ao1 nn1 cc1) (a) ∧ Rn w2 (.slice ao2 nn2 cc2) (a) ∧ NX w2 (vw5.heap.size) (0) ∧ Below w.heap.size w w2) ⟨(BX0.out).alloc _, (BX1.out).alloc _, (BX2.out).alloc _, (BX3.out).alloc _, (Bx.at (by simp) : Bx _ (vw5.heap.size) _ _), (HB.out.trans (HG.out.mono HB.out.size)).alloc (by first | omega | (simp; omega)) _⟩ ?_
  clear HB HG BX0 BX1 BX2 BX3
  rintro Wx6 ⟨bx0, bx1, bx2, bx3, bx4, HB⟩
  replace HB := Lib.hid HB
  have yx4 : w.heap.size ≤ vw5.heap.size := by omega
  have qx0_4 : gx0 < vw5.heap.size := by omega
  have qx1_4 : gx1 < vw5.heap.size := by omega
  generalize hx4 : vw5.heap.size = gx4 at *
  clear hx4
  clear hsz mx0 mx1
  refine wp_seq ?_
  obtain ⟨u4, HZ4⟩ : ∃ z, Hid ((a) + (a) = z) := ⟨_, Lib.hid rfl⟩
  have su4 : wl (u4) ≤ 25 := by rw [← HZ4.out]; have := wl_add (a) (a); omega
  have HZ5 : Hid ((a) + (a) = u4) := Lib.hid (by first | omega | (try simp only [← HZ4.out]) <;> first | rfl | omega | (simp; done) | grind)
  have su5 : tw (u4) ≤ 73 := by have e := HZ5.out; first | omega | (rw [← e]; have := tw_add (a) (a); omega)
  have lx0 := bx0.cells
  have lx1 := bx1.cells
  have lx4 := bx4.cells
  have BX0 := Lib.hid bx0
  have BX1 := Lib.hid bx1
  have BX2 := Lib.hid bx2
  have BX3 := Lib.hid bx3
  have BX4 := Lib.hid bx4
  clear bx0 bx1 bx2 bx3 bx4
  refine sK fun K hK => ?_
  have HS0 := Lib.hid (HB.out.size)
  have MX0 : gx0 < Wx6.heap.size := BX0.out.lt
  have MX1 : gx1 < Wx6.heap.size := BX1.out.lt
  have MX4 : gx4 < Wx6.heap.size := BX4.out.lt
  refine wp_region_seqplan 44 [(true, 0), (true, 1), (true, 2), (true, 3), (true, 4), (true, 5), (true, 6), (true, 7), (true, 8), (true, 9), (false, 10), (true, 11), (true, 12), (true, 13), (true, 14), (true, 15), (true, 16), (true, 17), (true, 18), (true, 19), (true, 20), (true, 21), (true, 22), (true, 23), (true, 24), (true, 25), (true, 26), (true, 27), (true, 28), (true, 29), (true, 30), (true, 31), (true, 32), (true, 33), (true, 34), (true, 35), (true, 36), (true, 37), (true, 38), (true, 39), (true, 40), (true, 41), (true, 42), (true, 43)] (by rfl) (by simp) (fun T hT => ?_)
  iterate 2 (refine wpPlan_takeL (v := ?_) rfl (by rfl) (fun w' hw => ?_) ?_; rotate_left; go_simp; with_reducible rfl; simp only [Act.put, rA, rB, rC])
  refine wpPlan_callL rfl (by rfl) Tryd.call17 (fun w' hw => same_any (a) (a) _ _ (rfl) (BX2.out.gr hw) (by omega) (by omega) (Lib.hid (HT.out.gr (Gr.trans HB.out hw)))) (by rfl) ?_
  simp only [Act.put, rA, rB, rC]
  iterate 4 (refine wpPlan_takeL (v := ?_) rfl (by rfl) (fun w' hw => ?_) ?_; rotate_left; go_simp; with_reducible rfl; simp only [Act.put, rA, rB, rC])
  refine wpPlan_callL rfl (by rfl) Tryd.call18 (fun w' hw => nzadd (a) (a) (u4) _ HZ4.out (by omega) (by omega)) (by rfl) ?_
  simp only [Act.put, rA, rB, rC]
  iterate 2 (refine wpPlan_takeL (v := ?_) rfl (by rfl) (fun w' hw => ?_) ?_; rotate_left; go_simp; with_reducible rfl; simp only [Act.put, rA, rB, rC])
  refine wpPlan_callE rfl (by rfl) Tryd.call19 (by rfl) (fun w' hw => (zradd _ _ (a) (a) (u4) _ HZ5.out (BX2.out.gr hw) (BX3.out.gr hw) (by omega) (by omega)).mono ?_)
  rintro e vv1 ⟨⟨rv3, rfl, bx5⟩, hg0⟩
  obtain ⟨ao3, nn3, cc3, rfl⟩ := Rn.sl bx5
  refine ⟨_, rfl, hg0, ?_⟩
  replace hg0 := Gr.trans hw hg0; clear hw
  have HG0 := Lib.hid hg0; clear hg0
  replace BX0 := bG BX0 HG0
  replace BX1 := bG BX1 HG0
  replace BX2 := rG BX2 HG0
  replace BX3 := rG BX3 HG0
  replace BX4 := bG BX4 HG0
  replace HB := Lib.hid (HB.out.trans (HG0.out.mono HB.out.size))
  have BX5 := Lib.hid bx5; clear bx5
  clear HG0
  clear lx0; have lx0 := BX0.out.cells
  clear lx1; have lx1 := BX1.out.cells
  clear lx4; have lx4 := BX4.out.cells
  simp only [Act.put, rA, rB, rC]
  refine wpPlan_callL rfl (by rfl) Tryd.call17 (fun w' hw => same_any (u4) (u4) _ _ (rfl) (BX5.out.gr hw) (by omega) (by omega) (Lib.hid (HT.out.gr (Gr.trans HB.out hw)))) (by rfl) ?_
  simp only [Act.put, rA, rB, rC]
  iterate 5 (refine wpPlan_takeL (v := ?_) rfl (by rfl) (fun w' hw => ?_) ?_; rotate_left; go_simp; with_reducible rfl; simp only [Act.put, rA, rB, rC])
  refine wpPlan_callL rfl (by rfl) Tryd.call20 (fun w' hw => nzcmp (a) (a) (0) _ (cmpI_eq (by have e : (a) = (a) := (by first | omega | (try simp only [← HZ4.out]) <;> first | rfl | omega | (simp; done) | grind); first | exact e | omega)) (by omega) (by omega)) (by rfl) ?_
  simp only [Act.put, rA, rB, rC]
  iterate 21 (refine wpPlan_takeL (v := ?_) rfl (by rfl) (fun w' hw => ?_) ?_; rotate_left; go_simp; with_reducible rfl; simp only [Act.put, rA, rB, rC])
  iterate 3 (refine wpPlan_skipL rfl (by rfl) ?_; simp only [Act.put, rA, rB, rC])
  iterate 2 (refine wpPlan_takeL (v := ?_) rfl (by rfl) (fun w' hw => ?_) ?_; rotate_left; go_simp; with_reducible rfl; simp only [Act.put, rA, rB, rC])
  refine wpPlan_nil (hT.out _ _ ?_); clear hT T
  intro vw6 hg
  simp only [puts, Act.put, rA, rB, rC, rD, rE, ↓reduceIte, Nat.reduceEqDiff]
  clear lx0 lx1 lx4
  have HG := Lib.hid (hg)
  clear hg
  replace BX0 := bG BX0 HG
  replace BX1 := bG BX1 HG
  replace BX2 := rG BX2 HG
  replace BX3 := rG BX3 HG
  replace BX4 := bG BX4 HG
  replace BX5 := rG BX5 HG
  have r0 := Gr.refl vw6
  go_wp2
  refine hK.out _ _ ?_; clear hK K
  show Code.wp _ _ _ _ _
  clear r0
  refine forgetW (fun w2 => Rn w2 (.slice ao1 nn1 cc1) (a) ∧ Rn w2 (.slice ao2 nn2 cc2) (a) ∧ NX w2 gx4 (0) ∧ Below w.heap.size w w2) ⟨BX2.out, BX3.out, BX4.out, HB.out.trans (HG.out.mono HB.out.size)⟩ ?_
  clear HB HG BX0 BX1 BX2 BX3 BX4 BX5
  rintro Wx7 ⟨bx2, bx3, bx4, HB⟩
  replace HB := Lib.hid HB
  refine wp_cond_false (by rfl) ?_
  refine wp_skip ?_
  show Code.wp _ _ _ _ _
  have HZ6 : Hid ((a) - (a) = 0) := Lib.hid (by first | omega | (try simp only [← HZ4.out]) <;> first | rfl | omega | (simp; done) | grind)
  have su6 : tw (0) ≤ 72 := by have e := HZ6.out; first | omega | (rw [← e]; have := tw_sub (a) (a); omega) | exact tw_le.2 (by decide +kernel)
  have lx4 := bx4.cells
  have BX2 := Lib.hid bx2
  have BX3 := Lib.hid bx3
  have BX4 := Lib.hid bx4
  clear bx2 bx3 bx4
  refine sK fun K hK => ?_
  have HS0 := Lib.hid (HB.out.size)
  have MX4 : gx4 < Wx7.heap.size := BX4.out.lt
  refine wp_region_plan 12 [] [] (fun _ => 0) (fun _ => .cells #[] 0) [(true, 0), (true, 1), (true, 2), (true, 3), (true, 4), (true, 5), (false, 6), (true, 7), (true, 8), (true, 9), (true, 10), (true, 11)] (by kernel_rfl) (by kernel_rfl) (fun i hi => by cases hi) (fun i hi => by cases hi) (fun _ _ _ _ _ h => h) (fun T hT => ?_)
  iterate 6 (refine wpPlan_takeL (v := ?_) rfl (by rfl) (fun w' hw => ?_) ?_; rotate_left; go_simp; with_reducible rfl; simp only [Act.put, rA, rB, rC])
  refine wpPlan_callE rfl (by rfl) Tryd.call21 (by rfl) (fun w' hw => (zrsub _ _ (a) (a) (0) _ HZ6.out (BX2.out.gr hw) (BX3.out.gr hw) (by first | omega | (try simp only [← HZ4.out]) <;> first | rfl | omega | (simp; done) | grind) (by omega) (by omega)).mono ?_)
  rintro e vv1 ⟨⟨rv4, rfl, bx6⟩, hg0⟩
  obtain ⟨ao4, nn4, cc4, rfl⟩ := Rn.sl bx6
  refine ⟨_, rfl, hg0, ?_⟩
  replace hg0 := Gr.trans hw hg0; clear hw
  have HG0 := Lib.hid hg0; clear hg0
  replace BX2 := rG BX2 HG0
  replace BX3 := rG BX3 HG0
  replace BX4 := bG BX4 HG0
  replace HB := Lib.hid (HB.out.trans (HG0.out.mono HB.out.size))
  have BX6 := Lib.hid bx6; clear bx6
  clear HG0
  clear lx4; have lx4 := BX4.out.cells
  simp only [Act.put, rA, rB, rC]
  refine wpPlan_callL rfl (by rfl) Tryd.call17 (fun w' hw => same_any (0) (0) _ _ (rfl) (BX6.out.gr hw) (by omega) (by omega) (Lib.hid (HT.out.gr (Gr.trans HB.out hw)))) (by rfl) ?_
  simp only [Act.put, rA, rB, rC]
  iterate 2 (refine wpPlan_takeL (v := ?_) rfl (by rfl) (fun w' hw => ?_) ?_; rotate_left; go_simp; with_reducible rfl; simp only [Act.put, rA, rB, rC])
  refine wpPlan_callL rfl (by rfl) Tryd.call12 (fun w' hw => works_any _ (Lib.hid (HT.out.gr (Gr.trans HB.out hw)))) (by rfl) ?_
  simp only [Act.put, rA, rB, rC]
  refine wpPlan_takeL (v := ?_) rfl (by rfl) (fun w' hw => ?_) ?_; rotate_left; go_simp; with_reducible rfl; simp only [Act.put, rA, rB, rC]
  refine wpPlan_nil (hT.out _ _ ?_); clear hT T
  intro G vw7 hg hf
  simp only [puts, Act.put, rA, rB, rC, rD, rE, ↓reduceIte, Nat.reduceEqDiff]
  clear lx4
  have HG := Lib.hid (hg)
  clear hg
  replace BX2 := rG BX2 HG
  replace BX3 := rG BX3 HG
  replace BX4 := bG BX4 HG
  replace BX6 := rG BX6 HG
  have r0 := Gr.refl vw7
  go_wp2
  refine hK.out _ _ ?_; clear hK K
  show Code.wp _ _ _ _ _
  clear r0
  refine forgetW (fun w2 => Below w.heap.size w w2) (HB.out.trans (HG.out.mono HB.out.size)) ?_
  clear HB HG BX2 BX3 BX4 BX6
  rintro Wx9 HB
  replace HB := Lib.hid HB
  refine wp_ret ?_
  try simp only [Exit.then, Exit.inBlock]
  have r0 := Gr.refl Wx9
  exact bodyPost_ret (v := .bool true) (by simp [results, Tryd.results3, go_sem]) rfl ⟨rfl, HB.out⟩

set_option maxRecDepth 100000 in
set_option maxHeartbeats 4000000 in
theorem sums_big1 (vx : Value) (kx : Nat) (fx : Nat → Nat) (vy : Value) (ky : Nat) (fy : Nat → Nat) (a b : Nat)  (w : World) (HWx : Hid (Wa w vx kx fx)) (HFx : Hid (∀ i, i < kx → fx i < 4294967296)) (HVx : Hid (vl fx kx = a)) (HWy : Hid (Wa w vy ky fy)) (HFy : Hid (∀ i, i < ky → fy i < 4294967296)) (HVy : Hid (vl fy ky = b)) (hkx : 24 < kx) (HT : Hid (Tab w)) :
    Calls Tryd.prog 3 #[vx, vy] w fun e w' => e = .returned (.bool true) ∧ Below w.heap.size w w' := by
  obtain ⟨ao_x, c_x, rfl⟩ := HWx.out.slice
  obtain ⟨ao_y, c_y, rfl⟩ := HWy.out.slice
  go_enter Tryd.func3, Tryd.ntmps3
  refine sK fun K hK => ?_
  refine wp_region_lit ?_
  go_wp2
  refine hK.out _ _ ?_; clear hK K
  show Code.wp _ _ _ _ _
  refine forgetW (fun w2 => Below w.heap.size w w2) (Below.refl _ _) ?_
  rintro Wx HB
  replace HB := Lib.hid HB
  refine wp_seq ?_
  have hd1 : 24 < ((kx : Int)) := by omega
  refine sK fun K hK => ?_
  refine wp_region_seqplan 8 [(true, 0), (true, 1), (true, 2), (true, 3), (true, 4), (true, 5), (true, 6), (true, 7)] (by rfl) (by simp) (fun T hT => ?_)
  iterate 4 (refine wpPlan_takeL (v := ?_) rfl (by rfl) (fun w' hw => ?_) ?_; rotate_left; go_simp; with_reducible rfl; simp only [Act.put, rA, rB, rC])
  iterate 3 (refine wpPlan_skipL rfl (by rfl) ?_; simp only [Act.put, rA, rB, rC])
  refine wpPlan_takeL (v := ?_) rfl (by rfl) (fun w' hw => ?_) ?_; rotate_left; go_simp; with_reducible rfl; simp only [Act.put, rA, rB, rC]
  refine wpPlan_nil (hT.out _ _ ?_); clear hT T
  intro vw1 hg
  simp only [puts, Act.put, rA, rB, rC, rD, rE, ↓reduceIte, Nat.reduceEqDiff]
  have HG := Lib.hid (hg)
  clear hg
  have r0 := Gr.refl vw1
  go_wp2
  refine hK.out _ _ ?_; clear hK K
  show Code.wp _ _ _ _ _
  clear r0
  refine forgetW (fun w2 => Below w.heap.size w w2) (HB.out.trans (HG.out.mono HB.out.size)) ?_
  clear HB HG
  rintro Wx1 HB
  replace HB := Lib.hid HB
  clear hd1
  refine wp_cond_true (by rfl) ?_
  refine sK fun K hK => ?_
  refine wp_region_seqplan 2 [(true, 0), (true, 1)] (by rfl) (by simp) (fun T hT => ?_)
  refine wpPlan_callL rfl (by rfl) Tryd.call12 (fun w' hw => works_any _ (Lib.hid (HT.out.gr (Gr.trans HB.out hw)))) (by rfl) ?_
  simp only [Act.put, rA, rB, rC]
  refine wpPlan_takeL (v := ?_) rfl (by rfl) (fun w' hw => ?_) ?_; rotate_left; go_simp; with_reducible rfl; simp only [Act.put, rA, rB, rC]
  refine wpPlan_nil (hT.out _ _ ?_); clear hT T
  intro vw2 hg
  simp only [puts, Act.put, rA, rB, rC, rD, rE, ↓reduceIte, Nat.reduceEqDiff]
  have HG := Lib.hid (hg)
  clear hg
  have r0 := Gr.refl vw2
  go_wp2
  refine hK.out _ _ ?_; clear hK K
  show Code.wp _ _ _ _ _
  clear r0
  refine forgetW (fun w2 => Below w.heap.size w w2) (HB.out.trans (HG.out.mono HB.out.size)) ?_
  clear HB HG
  rintro Wx2 HB
  replace HB := Lib.hid HB
  refine wp_ret ?_
  try simp only [Exit.then, Exit.inBlock]
  have r0 := Gr.refl Wx2
  exact bodyPost_ret (v := .bool true) (by simp [results, Tryd.results3, go_sem]) rfl ⟨rfl, HB.out⟩

set_option maxRecDepth 100000 in
set_option maxHeartbeats 4000000 in
theorem sums_big2 (vx : Value) (kx : Nat) (fx : Nat → Nat) (vy : Value) (ky : Nat) (fy : Nat → Nat) (a b : Nat)  (w : World) (HWx : Hid (Wa w vx kx fx)) (HFx : Hid (∀ i, i < kx → fx i < 4294967296)) (HVx : Hid (vl fx kx = a)) (HWy : Hid (Wa w vy ky fy)) (HFy : Hid (∀ i, i < ky → fy i < 4294967296)) (HVy : Hid (vl fy ky = b)) (hkx : kx ≤ 24) (hky : 24 < ky) (HT : Hid (Tab w)) :
    Calls Tryd.prog 3 #[vx, vy] w fun e w' => e = .returned (.bool true) ∧ Below w.heap.size w w' := by
  obtain ⟨ao_x, c_x, rfl⟩ := HWx.out.slice
  obtain ⟨ao_y, c_y, rfl⟩ := HWy.out.slice
  go_enter Tryd.func3, Tryd.ntmps3
  refine sK fun K hK => ?_
  refine wp_region_lit ?_
  go_wp2
  refine hK.out _ _ ?_; clear hK K
  show Code.wp _ _ _ _ _
  refine forgetW (fun w2 => Below w.heap.size w w2) (Below.refl _ _) ?_
  rintro Wx HB
  replace HB := Lib.hid HB
  refine wp_seq ?_
  have hd1 : ¬ (24 < ((kx : Int))) := by omega
  have hd2 : 24 < ((ky : Int)) := by omega
  refine sK fun K hK => ?_
  refine wp_region_seqplan 8 [(true, 0), (true, 1), (true, 2), (true, 3), (true, 4), (true, 5), (true, 6), (true, 7)] (by rfl) (by simp) (fun T hT => ?_)
  iterate 8 (refine wpPlan_takeL (v := ?_) rfl (by rfl) (fun w' hw => ?_) ?_; rotate_left; go_simp; with_reducible rfl; simp only [Act.put, rA, rB, rC])
  refine wpPlan_nil (hT.out _ _ ?_); clear hT T
  intro vw1 hg
  simp only [puts, Act.put, rA, rB, rC, rD, rE, ↓reduceIte, Nat.reduceEqDiff]
  have HG := Lib.hid (hg)
  clear hg
  have r0 := Gr.refl vw1
  go_wp2
  refine hK.out _ _ ?_; clear hK K
  show Code.wp _ _ _ _ _
  clear r0
  refine forgetW (fun w2 => Below w.heap.size w w2) (HB.out.trans (HG.out.mono HB.out.size)) ?_
  clear HB HG
  rintro Wx1 HB
  replace HB := Lib.hid HB
  clear hd1 hd2
  refine wp_cond_true (by rfl) ?_
  refine sK fun K hK => ?_
  refine wp_region_seqplan 2 [(true, 0), (true, 1)] (by rfl) (by simp) (fun T hT => ?_)
  refine wpPlan_callL rfl (by rfl) Tryd.call12 (fun w' hw => works_any _ (Lib.hid (HT.out.gr (Gr.trans HB.out hw)))) (by rfl) ?_
  simp only [Act.put, rA, rB, rC]
  refine wpPlan_takeL (v := ?_) rfl (by rfl) (fun w' hw => ?_) ?_; rotate_left; go_simp; with_reducible rfl; simp only [Act.put, rA, rB, rC]
  refine wpPlan_nil (hT.out _ _ ?_); clear hT T
  intro vw2 hg
  simp only [puts, Act.put, rA, rB, rC, rD, rE, ↓reduceIte, Nat.reduceEqDiff]
  have HG := Lib.hid (hg)
  clear hg
  have r0 := Gr.refl vw2
  go_wp2
  refine hK.out _ _ ?_; clear hK K
  show Code.wp _ _ _ _ _
  clear r0
  refine forgetW (fun w2 => Below w.heap.size w w2) (HB.out.trans (HG.out.mono HB.out.size)) ?_
  clear HB HG
  rintro Wx2 HB
  replace HB := Lib.hid HB
  refine wp_ret ?_
  try simp only [Exit.then, Exit.inBlock]
  have r0 := Gr.refl Wx2
  exact bodyPost_ret (v := .bool true) (by simp [results, Tryd.results3, go_sem]) rfl ⟨rfl, HB.out⟩

theorem sums_law (vx : Value) (kx : Nat) (fx : Nat → Nat) (vy : Value) (ky : Nat) (fy : Nat → Nat)  (w : World) (HWx : Hid (Wa w vx kx fx)) (HFx : Hid (∀ i, i < kx → fx i < 4294967296)) (HWy : Hid (Wa w vy ky fy)) (HFy : Hid (∀ i, i < ky → fy i < 4294967296))  (HT : Hid (Tab w)) :
    Calls Tryd.prog 3 #[vx, vy] w fun e w' => e = .returned (.bool true) ∧ Below w.heap.size w w' := by
  by_cases hx : kx ≤ 24
  · by_cases hy : ky ≤ 24
    · obtain ⟨a, ha⟩ : ∃ a, vl fx kx = a := ⟨_, rfl⟩
      obtain ⟨b, hb⟩ : ∃ b, vl fy ky = b := ⟨_, rfl⟩
      rcases Nat.lt_trichotomy a b with h | h | h
      · exact sums_lt vx kx fx vy ky fy a b w HWx HFx (Lib.hid ha) HWy HFy (Lib.hid hb) hx hy h HT
      · subst h
        exact sums_eq vx kx fx vy ky fy a w HWx HFx (Lib.hid ha) HWy HFy (Lib.hid hb) hx hy HT
      · exact sums_gt vx kx fx vy ky fy a b w HWx HFx (Lib.hid ha) HWy HFy (Lib.hid hb) hx hy h HT
    · exact sums_big2 vx kx fx vy ky fy _ _ w HWx HFx (Lib.hid rfl) HWy HFy (Lib.hid rfl) hx (by omega) HT
  · exact sums_big1 vx kx fx vy ky fy _ _ w HWx HFx (Lib.hid rfl) HWy HFy (Lib.hid rfl) (by omega) HT

end Go.Proofs.YteenojfbnbkedaaDoor
