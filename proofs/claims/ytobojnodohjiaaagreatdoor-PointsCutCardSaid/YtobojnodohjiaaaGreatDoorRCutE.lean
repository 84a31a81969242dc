
/- gussetref23.Cut: no end on the other segment. -/
import Derived.Test.YtobojnodohjiaaaGreatDoorCutQ
import Derived.Test.YtobojnodohjiaaaGreatDoorRefX
import Derived.Test.YtobojnodohjiaaaGreatDoorRefV2
set_option linter.unusedVariables false
set_option linter.unusedSimpArgs false
namespace Go.Proofs.YtobojnodohjiaaaGreatDoor
open Go.RowKit
attribute [local go_sem ↓] Go.wp_at_zero Go.wp_at_succ
attribute [local go_sem ↓] eq_nat eq_nat_zero eq_int
theorem cut_out {a b c d : Pq} {m n : Int} {p q x y : Rat} (h : cutR a b c d = (m, (p, q))) (g : cutR a b c d = (n, (x, y))) : m = n ∧ p = x ∧ q = y := by
  rw [h] at g
  injection g with g1 g
  injection g with g2 g3
  exact ⟨g1, g2, g3⟩
theorem cut_e0 {a b c d : Pq} (h : ends a b c d = []) (hk : crs a b c d = 0) : cutR a b c d = (0, (0, 0)) := by
  unfold cutR; rw [h]; simp only; rw [if_pos hk]
theorem cut_e1 {a b c d p : Pq} (h : ends a b c d = []) (hk : ¬ crs a b c d = 0) (hp : cutP a b c d = p) (ho : (onQ a b p && onQ c d p) = true) : cutR a b c d = (1, p) := by
  unfold cutR; rw [h]; simp only; rw [if_neg hk, hp, if_pos ho]
theorem cut_e2 {a b c d p : Pq} (h : ends a b c d = []) (hk : ¬ crs a b c d = 0) (hp : cutP a b c d = p) (ho : (onQ a b p && onQ c d p) = false) : cutR a b c d = (0, (0, 0)) := by
  unfold cutR; rw [h]; simp only; rw [if_neg hk, hp, if_neg (by rw [ho]; decide)]
theorem sgQ_ne0 {k : Rat} (h : ¬ k = 0) : ¬ sgQ k = 0 := fun e => by
  unfold sgQ at e
  split at e
  · exact h (by assumption)
  · split at e <;> simp at e
set_option maxRecDepth 50000 in
set_option maxHeartbeats 16000000 in
theorem rpcut_line (a1 a2 b1 b2 c1 c2 d1 d2 z1 z2 : Rat) (m : Int) (va11 va12 va21 va22 vb11 vb12 vb21 vb22 vc11 vc12 vc21 vc22 vd11 vd12 vd21 vd22 : Value) (w : World) (HR0 : Hid (onR c1 c2 d1 d2 a1 a2 = false)) (HR1 : Hid (onR c1 c2 d1 d2 b1 b2 = false)) (HR2 : Hid (onR a1 a2 b1 b2 c1 c2 = false)) (HR3 : Hid (onR a1 a2 b1 b2 d1 d2 = false)) (HNE : Hid (ends (a1, a2) (b1, b2) (c1, c2) (d1, d2) = [])) (HC : Hid (cutR (a1, a2) (b1, b2) (c1, c2) (d1, d2) = (m, (z1, z2)))) (hs_a1 : rz a1 ≤ 100) (hs_a2 : rz a2 ≤ 100) (hs_b1 : rz b1 ≤ 100) (hs_b2 : rz b2 ≤ 100) (hs_c1 : rz c1 ≤ 100) (hs_c2 : rz c2 ≤ 100) (hs_d1 : rz d1 ≤ 100) (hs_d2 : rz d2 ≤ 100) (bx21 : Rn w va11 (Int.natAbs ((a1).num))) (bx22 : Rn w va12 ((a1).den - 1)) (bx23 : Rn w va21 (Int.natAbs ((a2).num))) (bx24 : Rn w va22 ((a2).den - 1)) (bx25 : Rn w vb11 (Int.natAbs ((b1).num))) (bx26 : Rn w vb12 ((b1).den - 1)) (bx27 : Rn w vb21 (Int.natAbs ((b2).num))) (bx28 : Rn w vb22 ((b2).den - 1)) (bx29 : Rn w vc11 (Int.natAbs ((c1).num))) (bx30 : Rn w vc12 ((c1).den - 1)) (bx31 : Rn w vc21 (Int.natAbs ((c2).num))) (bx32 : Rn w vc22 ((c2).den - 1)) (bx33 : Rn w vd11 (Int.natAbs ((d1).num))) (bx34 : Rn w vd12 ((d1).den - 1)) (bx35 : Rn w vd21 (Int.natAbs ((d2).num))) (bx36 : Rn w vd22 ((d2).den - 1)) :
    Calls Tryz.prog 18 #[(Value.agg #[.bool (decide ((a1).num < 0)), va11, va12, .bool (decide ((a2).num < 0)), va21, va22]), (Value.agg #[.bool (decide ((b1).num < 0)), vb11, vb12, .bool (decide ((b2).num < 0)), vb21, vb22]), (Value.agg #[.bool (decide ((c1).num < 0)), vc11, vc12, .bool (decide ((c2).num < 0)), vc21, vc22]), (Value.agg #[.bool (decide ((d1).num < 0)), vd11, vd12, .bool (decide ((d2).num < 0)), vd21, vd22])] w fun e w' => (∃ r1 r2 r3 r4 : Value, e = .returned (.tuple #[.int .i64 m, .agg #[.bool (decide ((z1).num < 0)), r1, r2, .bool (decide ((z2).num < 0)), r3, r4]]) ∧ Rn w' r1 (Int.natAbs ((z1).num)) ∧ Rn w' r2 ((z1).den - 1) ∧ Rn w' r3 (Int.natAbs ((z2).num)) ∧ Rn w' r4 ((z2).den - 1)) ∧ Below w.heap.size w w' := by
  obtain ⟨u1, HU1⟩ : ∃ x, Hid (b1 - a1 = x) := ⟨_, Lib.hid rfl⟩
  obtain ⟨u2, HU2⟩ : ∃ x, Hid (b2 - a2 = x) := ⟨_, Lib.hid rfl⟩
  obtain ⟨v1, HV1⟩ : ∃ x, Hid (d1 - c1 = x) := ⟨_, Lib.hid rfl⟩
  obtain ⟨v2, HV2⟩ : ∃ x, Hid (d2 - c2 = x) := ⟨_, Lib.hid rfl⟩
  obtain ⟨k, HK⟩ : ∃ x, Hid (u1 * v2 - u2 * v1 = x) := ⟨_, Lib.hid rfl⟩
  have HKC : Hid (crs (a1, a2) (b1, b2) (c1, c2) (d1, d2) = k) := Lib.hid (by rw [← HK.out, ← HU1.out, ← HU2.out, ← HV1.out, ← HV2.out]; rfl)
  obtain ⟨ao_va11, n_va11, c_va11, rfl⟩ := Rn.sl bx21
  obtain ⟨ao_va12, n_va12, c_va12, rfl⟩ := Rn.sl bx22
  obtain ⟨ao_va21, n_va21, c_va21, rfl⟩ := Rn.sl bx23
  obtain ⟨ao_va22, n_va22, c_va22, rfl⟩ := Rn.sl bx24
  obtain ⟨ao_vb11, n_vb11, c_vb11, rfl⟩ := Rn.sl bx25
  obtain ⟨ao_vb12, n_vb12, c_vb12, rfl⟩ := Rn.sl bx26
  obtain ⟨ao_vb21, n_vb21, c_vb21, rfl⟩ := Rn.sl bx27
  obtain ⟨ao_vb22, n_vb22, c_vb22, rfl⟩ := Rn.sl bx28
  obtain ⟨ao_vc11, n_vc11, c_vc11, rfl⟩ := Rn.sl bx29
  obtain ⟨ao_vc12, n_vc12, c_vc12, rfl⟩ := Rn.sl bx30
  obtain ⟨ao_vc21, n_vc21, c_vc21, rfl⟩ := Rn.sl bx31
  obtain ⟨ao_vc22, n_vc22, c_vc22, rfl⟩ := Rn.sl bx32
  obtain ⟨ao_vd11, n_vd11, c_vd11, rfl⟩ := Rn.sl bx33
  obtain ⟨ao_vd12, n_vd12, c_vd12, rfl⟩ := Rn.sl bx34
  obtain ⟨ao_vd21, n_vd21, c_vd21, rfl⟩ := Rn.sl bx35
  obtain ⟨ao_vd22, n_vd22, c_vd22, rfl⟩ := Rn.sl bx36
  go_enter Tryz.func18, Tryz.ntmps18
  have HF := Lib.hid (hp0 w)
  replace HF := Lib.hid ((((((((((((((((HF.out.ar bx21).ar bx22).ar bx23).ar bx24).ar bx25).ar bx26).ar bx27).ar bx28).ar bx29).ar bx30).ar bx31).ar bx32).ar bx33).ar bx34).ar bx35).ar bx36)
  simp only [lF, lG] at HF
  clear bx21 bx22 bx23 bx24 bx25 bx26 bx27 bx28 bx29 bx30 bx31 bx32 bx33 bx34 bx35 bx36
  refine kS fun K hK => ?_
  refine wp_region_lit ?_
  go_wp2
  refine kO hK ?_; clear hK K
  refine fH ((((((HF.out).aL (w.heap.size)).aL (w.heap.size + 1)).aL (w.heap.size + 1 + 1)).aL (w.heap.size + 1 + 1 + 1)).aL (w.heap.size + 1 + 1 + 1 + 1)) fun Wx0 HG => ?_
  clear HF; have HF := HG; clear HG
  generalize w.heap.size + 1 + 1 + 1 + 1 = gx41 at *
  generalize w.heap.size + 1 + 1 + 1 = gx40 at *
  generalize w.heap.size + 1 + 1 = gx39 at *
  generalize w.heap.size + 1 = gx38 at *
  refine kS fun K hK => ?_
  go_wp2_with fail
  refine kO hK ?_; clear hK K
  refine fH (HF.out.gr (Gr.alloc _ _)) fun Wx1 HG => ?_
  clear HF; have HF := HG; clear HG
  show Code.wp _ _ _ _ _
  refine wp_seq ?_
  have lx37 := HF.out.c 16 rfl
  have lx39 := HF.out.c 18 rfl
  have lx40 := HF.out.c 19 rfl
  refine kS fun K hK => ?_
  refine sq 4 [(true, 0), (true, 1), (true, 2), (true, 3)] fun T hT => ?_
  iterate 3 refine tk ?_
  refine ck Tryz.call83 (fun w' hw => rpon (c1) (c2) (d1) (d2) (a1) (a2) false _ _ _ _ _ _ _ _ _ _ _ _ _ (HR0.out) (by omega) (by omega) (by omega) (by omega) (by omega) (by omega) (HF.out.r 8 rfl hw) (HF.out.r 9 rfl hw) (HF.out.r 10 rfl hw) (HF.out.r 11 rfl hw) (HF.out.r 12 rfl hw) (HF.out.r 13 rfl hw) (HF.out.r 14 rfl hw) (HF.out.r 15 rfl hw) (HF.out.r 0 rfl hw) (HF.out.r 1 rfl hw) (HF.out.r 2 rfl hw) (HF.out.r 3 rfl hw)) ?_
  refine nlS hT HF fun vw1 HG => ?_
  clear hT T HF lx37 lx39 lx40
  go_wp2
  refine kO hK ?_; clear hK K
  have HF := HG; clear HG
  refine wp_cond_false (by rfl) ?_
  refine wp_skip ?_
  show Code.wp _ _ _ _ _
  refine wp_seq ?_
  have lx38 := HF.out.c 17 rfl
  have lx39 := HF.out.c 18 rfl
  have lx40 := HF.out.c 19 rfl
  refine kS fun K hK => ?_
  refine sq 4 [(true, 0), (true, 1), (true, 2), (true, 3)] fun T hT => ?_
  iterate 3 refine tk ?_
  refine ck Tryz.call83 (fun w' hw => rpon (c1) (c2) (d1) (d2) (b1) (b2) false _ _ _ _ _ _ _ _ _ _ _ _ _ (HR1.out) (by omega) (by omega) (by omega) (by omega) (by omega) (by omega) (HF.out.r 8 rfl hw) (HF.out.r 9 rfl hw) (HF.out.r 10 rfl hw) (HF.out.r 11 rfl hw) (HF.out.r 12 rfl hw) (HF.out.r 13 rfl hw) (HF.out.r 14 rfl hw) (HF.out.r 15 rfl hw) (HF.out.r 4 rfl hw) (HF.out.r 5 rfl hw) (HF.out.r 6 rfl hw) (HF.out.r 7 rfl hw)) ?_
  refine nlS hT HF fun vw2 HG => ?_
  clear hT T HF lx38 lx39 lx40
  go_wp2
  refine kO hK ?_; clear hK K
  have HF := HG; clear HG
  refine wp_cond_false (by rfl) ?_
  refine wp_skip ?_
  show Code.wp _ _ _ _ _
  refine wp_seq ?_
  have lx37 := HF.out.c 16 rfl
  have lx38 := HF.out.c 17 rfl
  have lx39 := HF.out.c 18 rfl
  refine kS fun K hK => ?_
  refine sq 4 [(true, 0), (true, 1), (true, 2), (true, 3)] fun T hT => ?_
  iterate 3 refine tk ?_
  refine ck Tryz.call83 (fun w' hw => rpon (a1) (a2) (b1) (b2) (c1) (c2) false _ _ _ _ _ _ _ _ _ _ _ _ _ (HR2.out) (by omega) (by omega) (by omega) (by omega) (by omega) (by omega) (HF.out.r 0 rfl hw) (HF.out.r 1 rfl hw) (HF.out.r 2 rfl hw) (HF.out.r 3 rfl hw) (HF.out.r 4 rfl hw) (HF.out.r 5 rfl hw) (HF.out.r 6 rfl hw) (HF.out.r 7 rfl hw) (HF.out.r 8 rfl hw) (HF.out.r 9 rfl hw) (HF.out.r 10 rfl hw) (HF.out.r 11 rfl hw)) ?_
  refine nlS hT HF fun vw3 HG => ?_
  clear hT T HF lx37 lx38 lx39
  go_wp2
  refine kO hK ?_; clear hK K
  have HF := HG; clear HG
  refine wp_cond_false (by rfl) ?_
  refine wp_skip ?_
  show Code.wp _ _ _ _ _
  refine wp_seq ?_
  have lx37 := HF.out.c 16 rfl
  have lx38 := HF.out.c 17 rfl
  have lx40 := HF.out.c 19 rfl
  refine kS fun K hK => ?_
  refine sq 4 [(true, 0), (true, 1), (true, 2), (true, 3)] fun T hT => ?_
  iterate 3 refine tk ?_
  refine ck Tryz.call83 (fun w' hw => rpon (a1) (a2) (b1) (b2) (d1) (d2) false _ _ _ _ _ _ _ _ _ _ _ _ _ (HR3.out) (by omega) (by omega) (by omega) (by omega) (by omega) (by omega) (HF.out.r 0 rfl hw) (HF.out.r 1 rfl hw) (HF.out.r 2 rfl hw) (HF.out.r 3 rfl hw) (HF.out.r 4 rfl hw) (HF.out.r 5 rfl hw) (HF.out.r 6 rfl hw) (HF.out.r 7 rfl hw) (HF.out.r 12 rfl hw) (HF.out.r 13 rfl hw) (HF.out.r 14 rfl hw) (HF.out.r 15 rfl hw)) ?_
  refine nlS hT HF fun vw4 HG => ?_
  clear hT T HF lx37 lx38 lx40
  go_wp2
  refine kO hK ?_; clear hK K
  have HF := HG; clear HG
  refine wp_cond_false (by rfl) ?_
  refine wp_skip ?_
  show Code.wp _ _ _ _ _
  refine wp_seq ?_
  refine kS fun K hK => ?_
  go_wp2
  refine kO hK ?_; clear hK K
  refine wp_cond_false (by rfl) ?_
  refine wp_skip ?_
  show Code.wp _ _ _ _ _
  have HZ1 : Hid ((b1) - (a1) = u1) := Lib.hid (HU1.out)
  have su1 : rz (u1) ≤ 201 := by have e := HZ1.out; first | omega | (rw [← e]; have := rz_sub (b1) (a1); omega)
  have HZ2 : Hid ((b2) - (a2) = u2) := Lib.hid (HU2.out)
  have su2 : rz (u2) ≤ 201 := by have e := HZ2.out; first | omega | (rw [← e]; have := rz_sub (b2) (a2); omega)
  have lx37 := HF.out.c 16 rfl
  have lx38 := HF.out.c 17 rfl
  refine kS fun K hK => ?_
  have HG0 : Hid (Gr vw4 vw4) := Lib.hid (Gr.refl _)
  refine sq 3 [(true, 0), (true, 1), (false, 2)] fun T hT => ?_
  iterate 2 refine tk ?_
  refine wpPlan_callE rfl (by rfl) Tryz.call86 (by rfl) (fun w' hw => (rpsub (b1) (b2) (a1) (a2) (u1) (u2) _ _ _ _ _ _ _ _ _ HZ1.out HZ2.out (by omega) (by omega) (by omega) (by omega) (HF.out.r 4 rfl (HG0.out.trans hw)) (HF.out.r 5 rfl (HG0.out.trans hw)) (HF.out.r 6 rfl (HG0.out.trans hw)) (HF.out.r 7 rfl (HG0.out.trans hw)) (HF.out.r 0 rfl (HG0.out.trans hw)) (HF.out.r 1 rfl (HG0.out.trans hw)) (HF.out.r 2 rfl (HG0.out.trans hw)) (HF.out.r 3 rfl (HG0.out.trans hw))).mono ?_)
  rintro e vv43 ⟨⟨rv1, rv2, rv3, rv4, rfl, bx43, bx44, bx45, bx46⟩, hg0⟩
  obtain ⟨ao1, nn1, cc1, rfl⟩ := Rn.sl bx43
  obtain ⟨ao2, nn2, cc2, rfl⟩ := Rn.sl bx44
  obtain ⟨ao3, nn3, cc3, rfl⟩ := Rn.sl bx45
  obtain ⟨ao4, nn4, cc4, rfl⟩ := Rn.sl bx46
  refine ⟨_, rfl, hg0, ?_⟩
  replace hg0 := Gr.trans hw hg0; clear hw
  replace HG0 := Lib.hid (HG0.out.trans hg0)
  have HGS := Lib.hid hg0; clear hg0
  clear HGS
  have RN43 := Lib.hid bx43; clear bx43
  have RN44 := Lib.hid bx44; clear bx44
  have RN45 := Lib.hid bx45; clear bx45
  have RN46 := Lib.hid bx46; clear bx46
  clear lx37; have lx37 := fun w' (h : Gr _ w') => HF.out.c 16 rfl w' (HG0.out.trans h)
  clear lx38; have lx38 := fun w' (h : Gr _ w') => HF.out.c 17 rfl w' (HG0.out.trans h)
  simp only [Act.put, lA, lB, lC]
  refine wpPlan_nil (hT.out _ _ ?_)
  intro vw5 hg
  simp only [puts, Act.put, lA, lB, lC, lD, lE, ↓reduceIte, Nat.reduceEqDiff]
  have HG := Lib.hid (((((HF.out.gr (HG0.out.trans hg)).ar (RN43.out.gr hg)).ar (RN44.out.gr hg)).ar (RN45.out.gr hg)).ar (RN46.out.gr hg))
  simp only [zq1_, zq2_, zq3_, zq4_, lF, lG] at HG
  clear hT T HF hg HG0 RN43 RN44 RN45 RN46 lx37 lx38
  go_wp2
  refine kO hK ?_; clear hK K
  refine fH ((HG.out).aL (vw5.heap.size)) fun Wx23 HF => ?_
  clear HG
  generalize vw5.heap.size = gx47 at *
  have HZ3 : Hid ((d1) - (c1) = v1) := Lib.hid (HV1.out)
  have su3 : rz (v1) ≤ 201 := by have e := HZ3.out; first | omega | (rw [← e]; have := rz_sub (d1) (c1); omega)
  have HZ4 : Hid ((d2) - (c2) = v2) := Lib.hid (HV2.out)
  have su4 : rz (v2) ≤ 201 := by have e := HZ4.out; first | omega | (rw [← e]; have := rz_sub (d2) (c2); omega)
  have lx39 := HF.out.c 18 rfl
  have lx40 := HF.out.c 19 rfl
  refine kS fun K hK => ?_
  have HG0 : Hid (Gr Wx23 Wx23) := Lib.hid (Gr.refl _)
  refine sq 3 [(true, 0), (true, 1), (false, 2)] fun T hT => ?_
  iterate 2 refine tk ?_
  refine wpPlan_callE rfl (by rfl) Tryz.call86 (by rfl) (fun w' hw => (rpsub (d1) (d2) (c1) (c2) (v1) (v2) _ _ _ _ _ _ _ _ _ HZ3.out HZ4.out (by omega) (by omega) (by omega) (by omega) (HF.out.r 12 rfl (HG0.out.trans hw)) (HF.out.r 13 rfl (HG0.out.trans hw)) (HF.out.r 14 rfl (HG0.out.trans hw)) (HF.out.r 15 rfl (HG0.out.trans hw)) (HF.out.r 8 rfl (HG0.out.trans hw)) (HF.out.r 9 rfl (HG0.out.trans hw)) (HF.out.r 10 rfl (HG0.out.trans hw)) (HF.out.r 11 rfl (HG0.out.trans hw))).mono ?_)
  rintro e vv48 ⟨⟨rv5, rv6, rv7, rv8, rfl, bx48, bx49, bx50, bx51⟩, hg0⟩
  obtain ⟨ao5, nn5, cc5, rfl⟩ := Rn.sl bx48
  obtain ⟨ao6, nn6, cc6, rfl⟩ := Rn.sl bx49
  obtain ⟨ao7, nn7, cc7, rfl⟩ := Rn.sl bx50
  obtain ⟨ao8, nn8, cc8, rfl⟩ := Rn.sl bx51
  refine ⟨_, rfl, hg0, ?_⟩
  replace hg0 := Gr.trans hw hg0; clear hw
  replace HG0 := Lib.hid (HG0.out.trans hg0)
  have HGS := Lib.hid hg0; clear hg0
  clear HGS
  have RN48 := Lib.hid bx48; clear bx48
  have RN49 := Lib.hid bx49; clear bx49
  have RN50 := Lib.hid bx50; clear bx50
  have RN51 := Lib.hid bx51; clear bx51
  clear lx39; have lx39 := fun w' (h : Gr _ w') => HF.out.c 18 rfl w' (HG0.out.trans h)
  clear lx40; have lx40 := fun w' (h : Gr _ w') => HF.out.c 19 rfl w' (HG0.out.trans h)
  simp only [Act.put, lA, lB, lC]
  refine wpPlan_nil (hT.out _ _ ?_)
  intro vw6 hg
  simp only [puts, Act.put, lA, lB, lC, lD, lE, ↓reduceIte, Nat.reduceEqDiff]
  have HG := Lib.hid (((((HF.out.gr (HG0.out.trans hg)).ar (RN48.out.gr hg)).ar (RN49.out.gr hg)).ar (RN50.out.gr hg)).ar (RN51.out.gr hg))
  simp only [zq1_, zq2_, zq3_, zq4_, lF, lG] at HG
  clear hT T HF hg HG0 RN48 RN49 RN50 RN51 lx39 lx40
  go_wp2
  refine kO hK ?_; clear hK K
  refine fH ((HG.out).aL (vw6.heap.size)) fun Wx24 HF => ?_
  clear HG
  generalize vw6.heap.size = gx52 at *
  have HZ5 : Hid ((u1) * (v2) - (u2) * (v1) = k) := Lib.hid (HK.out)
  have su5 : rz (k) ≤ 805 := by have e := HZ5.out; first | omega | (rw [← e]; have := rz_cross (u1) (u2) (v1) (v2); omega)
  have lx47 := HF.out.c 25 rfl
  have lx52 := HF.out.c 30 rfl
  refine kS fun K hK => ?_
  have HG0 : Hid (Gr Wx24 Wx24) := Lib.hid (Gr.refl _)
  refine sq 3 [(true, 0), (true, 1), (false, 2)] fun T hT => ?_
  iterate 2 refine tk ?_
  refine wpPlan_callE rfl (by rfl) Tryz.call87 (by rfl) (fun w' hw => (rpcross (u1) (u2) (v1) (v2) (k) _ _ _ _ _ _ _ _ _ HZ5.out (by omega) (by omega) (by omega) (by omega) (HF.out.r 21 rfl (HG0.out.trans hw)) (HF.out.r 22 rfl (HG0.out.trans hw)) (HF.out.r 23 rfl (HG0.out.trans hw)) (HF.out.r 24 rfl (HG0.out.trans hw)) (HF.out.r 26 rfl (HG0.out.trans hw)) (HF.out.r 27 rfl (HG0.out.trans hw)) (HF.out.r 28 rfl (HG0.out.trans hw)) (HF.out.r 29 rfl (HG0.out.trans hw))).mono ?_)
  rintro e vv53 ⟨⟨rv9, rv10, rfl, bx53, bx54⟩, hg0⟩
  obtain ⟨ao9, nn9, cc9, rfl⟩ := Rn.sl bx53
  obtain ⟨ao10, nn10, cc10, rfl⟩ := Rn.sl bx54
  refine ⟨_, rfl, hg0, ?_⟩
  replace hg0 := Gr.trans hw hg0; clear hw
  replace HG0 := Lib.hid (HG0.out.trans hg0)
  have HGS := Lib.hid hg0; clear hg0
  clear HGS
  have RN53 := Lib.hid bx53; clear bx53
  have RN54 := Lib.hid bx54; clear bx54
  clear lx47; have lx47 := fun w' (h : Gr _ w') => HF.out.c 25 rfl w' (HG0.out.trans h)
  clear lx52; have lx52 := fun w' (h : Gr _ w') => HF.out.c 30 rfl w' (HG0.out.trans h)
  simp only [Act.put, lA, lB, lC]
  refine wpPlan_nil (hT.out _ _ ?_)
  intro vw7 hg
  simp only [puts, Act.put, lA, lB, lC, lD, lE, ↓reduceIte, Nat.reduceEqDiff]
  have HG := Lib.hid (((HF.out.gr (HG0.out.trans hg)).ar (RN53.out.gr hg)).ar (RN54.out.gr hg))
  simp only [zq1_, zq2_, zq3_, zq4_, lF, lG] at HG
  clear hT T HF hg HG0 RN53 RN54 lx47 lx52
  go_wp2
  refine kO hK ?_; clear hK K
  refine fH ((HG.out).aL (vw7.heap.size)) fun Wx25 HF => ?_
  clear HG
  generalize vw7.heap.size = gx55 at *
  refine wp_seq ?_
  by_cases hk0 : k = 0
  · have HK0 := Lib.hid hk0
    obtain ⟨rfl, rfl, rfl⟩ := cut_out (cut_e0 HNE.out (HKC.out.trans hk0)) HC.out
    clear hk0
    have lx55 := HF.out.c 33 rfl
    refine kS fun K hK => ?_
    refine sq 3 [(true, 0), (true, 1), (true, 2)] fun T hT => ?_
    refine tk ?_
    refine ck Tryz.call88 (fun w' hw => qsign_any (k) (0) _ _ _ (by rw [HK0.out]; rfl) (HF.out.r 31 rfl hw) (HF.out.r 32 rfl hw)) ?_
    refine tk ?_
    refine nlS hT HF fun vw8 HG => ?_
    clear hT T HF lx55
    go_wp2
    refine kO hK ?_; clear hK K
    have HF := HG; clear HG
    refine wp_cond_true (by rfl) ?_
    refine kS fun K hK => ?_
    refine sq 2 [(true, 0), (true, 1)] fun T hT => ?_
    iterate 2 refine tk ?_
    refine nlS hT HF fun vw9 HG => ?_
    clear hT T HF
    have lx41 := HG.out.c 20 rfl; have fx41 := HG.out.f 20 rfl
    have r0 := Gr.refl vw9
    go_wp2
    refine kO hK ?_; clear hK K
    clear r0 lx41 fx41
    refine fH ((((HG.out).put2 20 0 rfl).put2 20 2 rfl).put2 20 4 rfl) fun Wx27 HF => ?_
    clear HG
    refine wp_ret ?_
    try simp only [Exit.then, Exit.inBlock]
    have lx41 := HF.out.c 20 rfl
    have r0 := Gr.refl Wx27
    exact bodyPost_ret (v := .tuple #[.int .i64 0, (.agg #[.bool false, .slice none 0 0, .slice none 0 0, .bool false, .slice none 0 0, .slice none 0 0])]) (by simp [results, Tryz.results18, go_sem, lx41 _ r0]) rfl ⟨⟨.slice none 0 0, .slice none 0 0, .slice none 0 0, .slice none 0 0, rfl, (by rw [show Int.natAbs (((0 : Rat)).num) = 0 from rfl]; exact Rn.zero _), (by rw [show ((0 : Rat)).den - 1 = 0 from rfl]; exact Rn.zero _), (by rw [show Int.natAbs (((0 : Rat)).num) = 0 from rfl]; exact Rn.zero _), (by rw [show ((0 : Rat)).den - 1 = 0 from rfl]; exact Rn.zero _)⟩, HF.out.1⟩
  · have HK0 := Lib.hid hk0
    obtain ⟨s, HS⟩ : ∃ x, Hid (sgQ k = x) := ⟨_, Lib.hid rfl⟩
    have hs0 : ¬ s = 0 := by rw [← HS.out]; exact sgQ_ne0 hk0
    obtain ⟨x1, HX1⟩ : ∃ x, Hid (c1 - a1 = x) := ⟨_, Lib.hid rfl⟩
    obtain ⟨x2, HX2⟩ : ∃ x, Hid (c2 - a2 = x) := ⟨_, Lib.hid rfl⟩
    obtain ⟨y, HY⟩ : ∃ x, Hid (x1 * v2 - x2 * v1 = x) := ⟨_, Lib.hid rfl⟩
    obtain ⟨t, HTT⟩ : ∃ x, Hid (y / k = x) := ⟨_, Lib.hid rfl⟩
    obtain ⟨e1, HE1⟩ : ∃ x, Hid (u1 * t = x) := ⟨_, Lib.hid rfl⟩
    obtain ⟨e2, HE2⟩ : ∃ x, Hid (u2 * t = x) := ⟨_, Lib.hid rfl⟩
    obtain ⟨y1, HY1⟩ : ∃ x, Hid (a1 + e1 = x) := ⟨_, Lib.hid rfl⟩
    obtain ⟨y2, HY2⟩ : ∃ x, Hid (a2 + e2 = x) := ⟨_, Lib.hid rfl⟩
    have HCP : Hid (cutP (a1, a2) (b1, b2) (c1, c2) (d1, d2) = (y1, y2)) := Lib.hid (by rw [← HY1.out, ← HY2.out, ← HE1.out, ← HE2.out, ← HTT.out, ← HY.out, ← HX1.out, ← HX2.out, ← HU1.out, ← HU2.out, ← HV1.out, ← HV2.out, ← HKC.out]; rfl)
    clear hk0
    have hsb : (s == 0) = false := by simpa using hs0
    have lx55 := HF.out.c 33 rfl
    refine kS fun K hK => ?_
    refine sq 3 [(true, 0), (true, 1), (true, 2)] fun T hT => ?_
    refine tk ?_
    refine ck Tryz.call88 (fun w' hw => qsign_any (k) (s) _ _ _ (HS.out) (HF.out.r 31 rfl hw) (HF.out.r 32 rfl hw)) ?_
    refine tk ?_
    refine nlS hT HF fun vw8 HG => ?_
    clear hT T HF lx55
    go_wp2
    refine kO hK ?_; clear hK K
    have HF := HG; clear HG
    clear hsb
    refine wp_cond_false (by rfl) ?_
    refine wp_skip ?_
    show Code.wp _ _ _ _ _
    have HZ6 : Hid ((c1) - (a1) = x1) := Lib.hid (HX1.out)
    have su6 : rz (x1) ≤ 201 := by have e := HZ6.out; first | omega | (rw [← e]; have := rz_sub (c1) (a1); omega)
    have HZ7 : Hid ((c2) - (a2) = x2) := Lib.hid (HX2.out)
    have su7 : rz (x2) ≤ 201 := by have e := HZ7.out; first | omega | (rw [← e]; have := rz_sub (c2) (a2); omega)
    have HZ8 : Hid ((x1) * (v2) - (x2) * (v1) = y) := Lib.hid (HY.out)
    have su8 : rz (y) ≤ 805 := by have e := HZ8.out; first | omega | (rw [← e]; have := rz_cross (x1) (x2) (v1) (v2); omega)
    have HZ9 : Hid ((y) / (k) = t) := Lib.hid (HTT.out)
    have su9 : rz (t) ≤ 1610 := by have e := HZ9.out; first | omega | (rw [← e]; have := rz_div (y) (k); omega)
    have lx37 := HF.out.c 16 rfl
    have lx39 := HF.out.c 18 rfl
    have lx52 := HF.out.c 30 rfl
    have lx55 := HF.out.c 33 rfl
    refine kS fun K hK => ?_
    have HG0 : Hid (Gr vw8 vw8) := Lib.hid (Gr.refl _)
    refine wp_region_plan 8 [7] [] (fun _ => 17) (fun _ => .cells #[.bool false, .slice none 0 0, .slice none 0 0] 47) [(true, 0), (true, 1), (true, 3), (true, 5), (false, 2), (false, 4), (false, 6)] (by kernel_rfl) (by kernel_rfl) (by intro i hi; simp only [List.mem_cons, List.not_mem_nil, or_false] at hi; rcases hi with rfl <;> exact ⟨_, rfl, rfl, rfl, by simp, fun ρ w => by kernel_rfl⟩) (fun i hi => by cases hi) (fun _ _ _ _ _ h => h) (fun T hT => ?_)
    iterate 4 refine tk ?_
    refine wpPlan_callE rfl (by rfl) Tryz.call86 (by rfl) (fun w' hw => (rpsub (c1) (c2) (a1) (a2) (x1) (x2) _ _ _ _ _ _ _ _ _ HZ6.out HZ7.out (by omega) (by omega) (by omega) (by omega) (HF.out.r 8 rfl (HG0.out.trans hw)) (HF.out.r 9 rfl (HG0.out.trans hw)) (HF.out.r 10 rfl (HG0.out.trans hw)) (HF.out.r 11 rfl (HG0.out.trans hw)) (HF.out.r 0 rfl (HG0.out.trans hw)) (HF.out.r 1 rfl (HG0.out.trans hw)) (HF.out.r 2 rfl (HG0.out.trans hw)) (HF.out.r 3 rfl (HG0.out.trans hw))).mono ?_)
    rintro e vv56 ⟨⟨rv11, rv12, rv13, rv14, rfl, bx56, bx57, bx58, bx59⟩, hg0⟩
    obtain ⟨ao11, nn11, cc11, rfl⟩ := Rn.sl bx56
    obtain ⟨ao12, nn12, cc12, rfl⟩ := Rn.sl bx57
    obtain ⟨ao13, nn13, cc13, rfl⟩ := Rn.sl bx58
    obtain ⟨ao14, nn14, cc14, rfl⟩ := Rn.sl bx59
    refine ⟨_, rfl, hg0, ?_⟩
    replace hg0 := Gr.trans hw hg0; clear hw
    replace HG0 := Lib.hid (HG0.out.trans hg0)
    have HGS := Lib.hid hg0; clear hg0
    clear HGS
    have RN56 := Lib.hid bx56; clear bx56
    have RN57 := Lib.hid bx57; clear bx57
    have RN58 := Lib.hid bx58; clear bx58
    have RN59 := Lib.hid bx59; clear bx59
    clear lx37; have lx37 := fun w' (h : Gr _ w') => HF.out.c 16 rfl w' (HG0.out.trans h)
    clear lx39; have lx39 := fun w' (h : Gr _ w') => HF.out.c 18 rfl w' (HG0.out.trans h)
    clear lx52; have lx52 := fun w' (h : Gr _ w') => HF.out.c 30 rfl w' (HG0.out.trans h)
    clear lx55; have lx55 := fun w' (h : Gr _ w') => HF.out.c 33 rfl w' (HG0.out.trans h)
    simp only [Act.put, lA, lB, lC]
    refine wpPlan_callE rfl (by rfl) Tryz.call87 (by rfl) (fun w' hw => (rpcross (x1) (x2) (v1) (v2) (y) _ _ _ _ _ _ _ _ _ HZ8.out (by omega) (by omega) (by omega) (by omega) (RN56.out.gr hw) (RN57.out.gr hw) (RN58.out.gr hw) (RN59.out.gr hw) (HF.out.r 26 rfl (HG0.out.trans hw)) (HF.out.r 27 rfl (HG0.out.trans hw)) (HF.out.r 28 rfl (HG0.out.trans hw)) (HF.out.r 29 rfl (HG0.out.trans hw))).mono ?_)
    rintro e vv60 ⟨⟨rv15, rv16, rfl, bx60, bx61⟩, hg0⟩
    obtain ⟨ao15, nn15, cc15, rfl⟩ := Rn.sl bx60
    obtain ⟨ao16, nn16, cc16, rfl⟩ := Rn.sl bx61
    refine ⟨_, rfl, hg0, ?_⟩
    replace hg0 := Gr.trans hw hg0; clear hw
    replace HG0 := Lib.hid (HG0.out.trans hg0)
    have HGS := Lib.hid hg0; clear hg0
    replace RN56 := Lib.hid (RN56.out.gr HGS.out)
    replace RN57 := Lib.hid (RN57.out.gr HGS.out)
    replace RN58 := Lib.hid (RN58.out.gr HGS.out)
    replace RN59 := Lib.hid (RN59.out.gr HGS.out)
    clear HGS
    have RN60 := Lib.hid bx60; clear bx60
    have RN61 := Lib.hid bx61; clear bx61
    clear lx37; have lx37 := fun w' (h : Gr _ w') => HF.out.c 16 rfl w' (HG0.out.trans h)
    clear lx39; have lx39 := fun w' (h : Gr _ w') => HF.out.c 18 rfl w' (HG0.out.trans h)
    clear lx52; have lx52 := fun w' (h : Gr _ w') => HF.out.c 30 rfl w' (HG0.out.trans h)
    clear lx55; have lx55 := fun w' (h : Gr _ w') => HF.out.c 33 rfl w' (HG0.out.trans h)
    simp only [Act.put, lA, lB, lC]
    refine wpPlan_callE rfl (by rfl) Tryz.call89 (by rfl) (fun w' hw => (qdiv_any (y) (k) (t) _ _ _ _ _ HZ9.out (by omega) (by omega) (RN60.out.gr hw) (RN61.out.gr hw) (HF.out.r 31 rfl (HG0.out.trans hw)) (HF.out.r 32 rfl (HG0.out.trans hw))).mono ?_)
    rintro e vv62 ⟨⟨rv17, rv18, rfl, bx62, bx63⟩, hg0⟩
    obtain ⟨ao17, nn17, cc17, rfl⟩ := Rn.sl bx62
    obtain ⟨ao18, nn18, cc18, rfl⟩ := Rn.sl bx63
    refine ⟨_, rfl, hg0, ?_⟩
    replace hg0 := Gr.trans hw hg0; clear hw
    replace HG0 := Lib.hid (HG0.out.trans hg0)
    have HGS := Lib.hid hg0; clear hg0
    replace RN56 := Lib.hid (RN56.out.gr HGS.out)
    replace RN57 := Lib.hid (RN57.out.gr HGS.out)
    replace RN58 := Lib.hid (RN58.out.gr HGS.out)
    replace RN59 := Lib.hid (RN59.out.gr HGS.out)
    replace RN60 := Lib.hid (RN60.out.gr HGS.out)
    replace RN61 := Lib.hid (RN61.out.gr HGS.out)
    clear HGS
    have RN62 := Lib.hid bx62; clear bx62
    have RN63 := Lib.hid bx63; clear bx63
    clear lx37; have lx37 := fun w' (h : Gr _ w') => HF.out.c 16 rfl w' (HG0.out.trans h)
    clear lx39; have lx39 := fun w' (h : Gr _ w') => HF.out.c 18 rfl w' (HG0.out.trans h)
    clear lx52; have lx52 := fun w' (h : Gr _ w') => HF.out.c 30 rfl w' (HG0.out.trans h)
    clear lx55; have lx55 := fun w' (h : Gr _ w') => HF.out.c 33 rfl w' (HG0.out.trans h)
    simp only [Act.put, lA, lB, lC]
    refine wpPlan_nil (hT.out _ _ ?_)
    intro G vw9 hg hf
    simp only [puts, Act.put, lA, lB, lC, lD, lE, ↓reduceIte, Nat.reduceEqDiff]
    have HG := Lib.hid (((((((((HF.out.fr (HG0.out.trans hg) hf (zs := [(#[.bool false, .slice none 0 0, .slice none 0 0], 47)]) rfl (by decide) (by decide)).ar (RN56.out.gr hg)).ar (RN57.out.gr hg)).ar (RN58.out.gr hg)).ar (RN59.out.gr hg)).ar (RN60.out.gr hg)).ar (RN61.out.gr hg)).ar (RN62.out.gr hg)).ar (RN63.out.gr hg))
    simp only [zq1_, zq2_, zq3_, zq4_, lF, lG] at HG
    clear hT T HF hg hf HG0 RN56 RN57 RN58 RN59 RN60 RN61 RN62 RN63 lx37 lx39 lx52 lx55
    generalize G 7 = gx64 at *
    have lx64 := HG.out.c 34 rfl; have fx64 := HG.out.f 34 rfl
    have r0 := Gr.refl vw9
    go_wp2
    refine kO hK ?_; clear hK K
    clear r0 lx64 fx64
    refine fH (((((((((((((((((HG.out).put2 34 0 rfl).put 34 2 _ rfl).er 40).er 39).er 38).er 37).er 36).er 35).er 33).er 32).er 31).er 30).er 29).er 28).er 27).er 26) fun Wx28 HF => ?_
    clear HG
    have HZ10 : Hid ((u1) * (t) = e1) := Lib.hid (HE1.out)
    have su10 : rz (e1) ≤ 1811 := by have e := HZ10.out; first | omega | (rw [← e]; have := rz_mul (u1) (t); omega)
    have HZ11 : Hid ((u2) * (t) = e2) := Lib.hid (HE2.out)
    have su11 : rz (e2) ≤ 1811 := by have e := HZ11.out; first | omega | (rw [← e]; have := rz_mul (u2) (t); omega)
    have HZ12 : Hid ((a1) + (e1) = y1) := Lib.hid (HY1.out)
    have su12 : rz (y1) ≤ 1912 := by have e := HZ12.out; first | omega | (rw [← e]; have := rz_add (a1) (e1); omega)
    have HZ13 : Hid ((a2) + (e2) = y2) := Lib.hid (HY2.out)
    have su13 : rz (y2) ≤ 1912 := by have e := HZ13.out; first | omega | (rw [← e]; have := rz_add (a2) (e2); omega)
    have lx37 := HF.out.c 16 rfl
    have lx47 := HF.out.c 25 rfl
    have lx64 := HF.out.c 26 rfl
    refine kS fun K hK => ?_
    have HG0 : Hid (Gr Wx28 Wx28) := Lib.hid (Gr.refl _)
    refine wp_region_plan 6 [5] [] (fun _ => 18) (fun _ => .cells #[.bool false, .slice none 0 0, .slice none 0 0, .bool false, .slice none 0 0, .slice none 0 0] 49) [(true, 0), (true, 1), (true, 2), (false, 3), (false, 4)] (by kernel_rfl) (by kernel_rfl) (by intro i hi; simp only [List.mem_cons, List.not_mem_nil, or_false] at hi; rcases hi with rfl <;> exact ⟨_, rfl, rfl, rfl, by simp, fun ρ w => by kernel_rfl⟩) (fun i hi => by cases hi) (fun _ _ _ _ _ h => h) (fun T hT => ?_)
    iterate 3 refine tk ?_
    refine wpPlan_callE rfl (by rfl) Tryz.call91 (by rfl) (fun w' hw => (rpscale (u1) (u2) (t) (e1) (e2) _ _ _ _ _ _ _ HZ10.out HZ11.out (by omega) (by omega) (by omega) (HF.out.r 21 rfl (HG0.out.trans hw)) (HF.out.r 22 rfl (HG0.out.trans hw)) (HF.out.r 23 rfl (HG0.out.trans hw)) (HF.out.r 24 rfl (HG0.out.trans hw)) (HF.out.r 27 rfl (HG0.out.trans hw)) (HF.out.r 28 rfl (HG0.out.trans hw))).mono ?_)
    rintro e vv65 ⟨⟨rv19, rv20, rv21, rv22, rfl, bx65, bx66, bx67, bx68⟩, hg0⟩
    obtain ⟨ao19, nn19, cc19, rfl⟩ := Rn.sl bx65
    obtain ⟨ao20, nn20, cc20, rfl⟩ := Rn.sl bx66
    obtain ⟨ao21, nn21, cc21, rfl⟩ := Rn.sl bx67
    obtain ⟨ao22, nn22, cc22, rfl⟩ := Rn.sl bx68
    refine ⟨_, rfl, hg0, ?_⟩
    replace hg0 := Gr.trans hw hg0; clear hw
    replace HG0 := Lib.hid (HG0.out.trans hg0)
    have HGS := Lib.hid hg0; clear hg0
    clear HGS
    have RN65 := Lib.hid bx65; clear bx65
    have RN66 := Lib.hid bx66; clear bx66
    have RN67 := Lib.hid bx67; clear bx67
    have RN68 := Lib.hid bx68; clear bx68
    clear lx37; have lx37 := fun w' (h : Gr _ w') => HF.out.c 16 rfl w' (HG0.out.trans h)
    clear lx47; have lx47 := fun w' (h : Gr _ w') => HF.out.c 25 rfl w' (HG0.out.trans h)
    clear lx64; have lx64 := fun w' (h : Gr _ w') => HF.out.c 26 rfl w' (HG0.out.trans h)
    simp only [Act.put, lA, lB, lC]
    refine wpPlan_callE rfl (by rfl) Tryz.call90 (by rfl) (fun w' hw => (rpadd (a1) (a2) (e1) (e2) (y1) (y2) _ _ _ _ _ _ _ _ _ HZ12.out HZ13.out (by omega) (by omega) (by omega) (by omega) (HF.out.r 0 rfl (HG0.out.trans hw)) (HF.out.r 1 rfl (HG0.out.trans hw)) (HF.out.r 2 rfl (HG0.out.trans hw)) (HF.out.r 3 rfl (HG0.out.trans hw)) (RN65.out.gr hw) (RN66.out.gr hw) (RN67.out.gr hw) (RN68.out.gr hw)).mono ?_)
    rintro e vv69 ⟨⟨rv23, rv24, rv25, rv26, rfl, bx69, bx70, bx71, bx72⟩, hg0⟩
    obtain ⟨ao23, nn23, cc23, rfl⟩ := Rn.sl bx69
    obtain ⟨ao24, nn24, cc24, rfl⟩ := Rn.sl bx70
    obtain ⟨ao25, nn25, cc25, rfl⟩ := Rn.sl bx71
    obtain ⟨ao26, nn26, cc26, rfl⟩ := Rn.sl bx72
    refine ⟨_, rfl, hg0, ?_⟩
    replace hg0 := Gr.trans hw hg0; clear hw
    replace HG0 := Lib.hid (HG0.out.trans hg0)
    have HGS := Lib.hid hg0; clear hg0
    replace RN65 := Lib.hid (RN65.out.gr HGS.out)
    replace RN66 := Lib.hid (RN66.out.gr HGS.out)
    replace RN67 := Lib.hid (RN67.out.gr HGS.out)
    replace RN68 := Lib.hid (RN68.out.gr HGS.out)
    clear HGS
    have RN69 := Lib.hid bx69; clear bx69
    have RN70 := Lib.hid bx70; clear bx70
    have RN71 := Lib.hid bx71; clear bx71
    have RN72 := Lib.hid bx72; clear bx72
    clear lx37; have lx37 := fun w' (h : Gr _ w') => HF.out.c 16 rfl w' (HG0.out.trans h)
    clear lx47; have lx47 := fun w' (h : Gr _ w') => HF.out.c 25 rfl w' (HG0.out.trans h)
    clear lx64; have lx64 := fun w' (h : Gr _ w') => HF.out.c 26 rfl w' (HG0.out.trans h)
    simp only [Act.put, lA, lB, lC]
    refine wpPlan_nil (hT.out _ _ ?_)
    intro G vw10 hg hf
    simp only [puts, Act.put, lA, lB, lC, lD, lE, ↓reduceIte, Nat.reduceEqDiff]
    have HG := Lib.hid (((((((((HF.out.fr (HG0.out.trans hg) hf (zs := [(#[.bool false, .slice none 0 0, .slice none 0 0, .bool false, .slice none 0 0, .slice none 0 0], 49)]) rfl (by decide) (by decide)).ar (RN65.out.gr hg)).ar (RN66.out.gr hg)).ar (RN67.out.gr hg)).ar (RN68.out.gr hg)).ar (RN69.out.gr hg)).ar (RN70.out.gr hg)).ar (RN71.out.gr hg)).ar (RN72.out.gr hg))
    simp only [zq1_, zq2_, zq3_, zq4_, lF, lG] at HG
    clear hT T HF hg hf HG0 RN65 RN66 RN67 RN68 RN69 RN70 RN71 RN72 lx37 lx47 lx64
    generalize G 5 = gx73 at *
    have lx73 := HG.out.c 29 rfl; have fx73 := HG.out.f 29 rfl
    have r0 := Gr.refl vw10
    go_wp2
    refine kO hK ?_; clear hK K
    clear r0 lx73 fx73
    refine fH ((((((((((((((((HG.out).put2 29 0 rfl).put2 29 2 rfl).put2 29 4 rfl).er 33).er 32).er 31).er 30).er 28).er 27).er 26).er 25).er 24).er 23).er 22).er 21) fun Wx29 HF => ?_
    clear HG
    refine wp_seq ?_
    cases ho1 : onR a1 a2 b1 b2 y1 y2
    · have HO1 := Lib.hid ho1
      obtain ⟨rfl, rfl, rfl⟩ := cut_out (cut_e2 HNE.out (fun e => HK0.out (HKC.out.symm.trans e)) HCP.out (by show (onR a1 a2 b1 b2 y1 y2 && _) = false; rw [ho1]; rfl)) HC.out
      clear ho1
      have lx37 := HF.out.c 16 rfl
      have lx38 := HF.out.c 17 rfl
      have lx39 := HF.out.c 18 rfl
      have lx40 := HF.out.c 19 rfl
      have lx73 := HF.out.c 21 rfl
      refine kS fun K hK => ?_
      refine sq 10 [(true, 0), (true, 1), (true, 2), (true, 3), (true, 4), (true, 5), (true, 6), (true, 7), (true, 8), (true, 9)] fun T hT => ?_
      iterate 3 refine tk ?_
      refine ck Tryz.call83 (fun w' hw => rpon (a1) (a2) (b1) (b2) (y1) (y2) false _ _ _ _ _ _ _ _ _ _ _ _ _ (HO1.out) (by omega) (by omega) (by omega) (by omega) (by omega) (by omega) (HF.out.r 0 rfl hw) (HF.out.r 1 rfl hw) (HF.out.r 2 rfl hw) (HF.out.r 3 rfl hw) (HF.out.r 4 rfl hw) (HF.out.r 5 rfl hw) (HF.out.r 6 rfl hw) (HF.out.r 7 rfl hw) (HF.out.r 22 rfl hw) (HF.out.r 23 rfl hw) (HF.out.r 24 rfl hw) (HF.out.r 25 rfl hw)) ?_
      refine tk ?_
      iterate 4 refine sk ?_
      refine tk ?_
      refine nlS hT HF fun vw11 HG => ?_
      clear hT T HF lx37 lx38 lx39 lx40 lx73
      go_wp2
      refine kO hK ?_; clear hK K
      refine fH (((((((((((((((((((((HG.out).er 19).er 18).er 17).er 16).er 15).er 14).er 13).er 12).er 11).er 10).er 9).er 8).er 7).er 6).er 5).er 4).er 3).er 2).er 1).er 0) fun Wx30 HF => ?_
      clear HG
      refine wp_cond_false (by rfl) ?_
      refine wp_skip ?_
      show Code.wp _ _ _ _ _
      refine kS fun K hK => ?_
      refine sq 2 [(true, 0), (true, 1)] fun T hT => ?_
      iterate 2 refine tk ?_
      refine nlS hT HF fun vw12 HG => ?_
      clear hT T HF
      have lx41 := HG.out.c 0 rfl; have fx41 := HG.out.f 0 rfl
      have r0 := Gr.refl vw12
      go_wp2
      refine kO hK ?_; clear hK K
      clear r0 lx41 fx41
      refine fH (((((((((HG.out).put2 0 0 rfl).put2 0 2 rfl).put2 0 4 rfl).er 5).er 4).er 3).er 2).er 1) fun Wx32 HF => ?_
      clear HG
      refine wp_ret ?_
      try simp only [Exit.then, Exit.inBlock]
      have lx41 := HF.out.c 0 rfl
      have r0 := Gr.refl Wx32
      exact bodyPost_ret (v := .tuple #[.int .i64 0, (.agg #[.bool false, .slice none 0 0, .slice none 0 0, .bool false, .slice none 0 0, .slice none 0 0])]) (by simp [results, Tryz.results18, go_sem, lx41 _ r0]) rfl ⟨⟨.slice none 0 0, .slice none 0 0, .slice none 0 0, .slice none 0 0, rfl, (by rw [show Int.natAbs (((0 : Rat)).num) = 0 from rfl]; exact Rn.zero _), (by rw [show ((0 : Rat)).den - 1 = 0 from rfl]; exact Rn.zero _), (by rw [show Int.natAbs (((0 : Rat)).num) = 0 from rfl]; exact Rn.zero _), (by rw [show ((0 : Rat)).den - 1 = 0 from rfl]; exact Rn.zero _)⟩, HF.out.1⟩
    · have HO1 := Lib.hid ho1
      cases ho2 : onR c1 c2 d1 d2 y1 y2
      · have HO2 := Lib.hid ho2
        obtain ⟨rfl, rfl, rfl⟩ := cut_out (cut_e2 HNE.out (fun e => HK0.out (HKC.out.symm.trans e)) HCP.out (by show (_ && onR c1 c2 d1 d2 y1 y2) = false; rw [ho2, Bool.and_false])) HC.out
        clear ho1 ho2
        have lx37 := HF.out.c 16 rfl
        have lx38 := HF.out.c 17 rfl
        have lx39 := HF.out.c 18 rfl
        have lx40 := HF.out.c 19 rfl
        have lx73 := HF.out.c 21 rfl
        refine kS fun K hK => ?_
        refine sq 10 [(true, 0), (true, 1), (true, 2), (true, 3), (true, 4), (true, 5), (true, 6), (true, 7), (true, 8), (true, 9)] fun T hT => ?_
        iterate 3 refine tk ?_
        refine ck Tryz.call83 (fun w' hw => rpon (a1) (a2) (b1) (b2) (y1) (y2) true _ _ _ _ _ _ _ _ _ _ _ _ _ (HO1.out) (by omega) (by omega) (by omega) (by omega) (by omega) (by omega) (HF.out.r 0 rfl hw) (HF.out.r 1 rfl hw) (HF.out.r 2 rfl hw) (HF.out.r 3 rfl hw) (HF.out.r 4 rfl hw) (HF.out.r 5 rfl hw) (HF.out.r 6 rfl hw) (HF.out.r 7 rfl hw) (HF.out.r 22 rfl hw) (HF.out.r 23 rfl hw) (HF.out.r 24 rfl hw) (HF.out.r 25 rfl hw)) ?_
        iterate 4 refine tk ?_
        refine ck Tryz.call83 (fun w' hw => rpon (c1) (c2) (d1) (d2) (y1) (y2) false _ _ _ _ _ _ _ _ _ _ _ _ _ (HO2.out) (by omega) (by omega) (by omega) (by omega) (by omega) (by omega) (HF.out.r 8 rfl hw) (HF.out.r 9 rfl hw) (HF.out.r 10 rfl hw) (HF.out.r 11 rfl hw) (HF.out.r 12 rfl hw) (HF.out.r 13 rfl hw) (HF.out.r 14 rfl hw) (HF.out.r 15 rfl hw) (HF.out.r 22 rfl hw) (HF.out.r 23 rfl hw) (HF.out.r 24 rfl hw) (HF.out.r 25 rfl hw)) ?_
        refine tk ?_
        refine nlS hT HF fun vw11 HG => ?_
        clear hT T HF lx37 lx38 lx39 lx40 lx73
        go_wp2
        refine kO hK ?_; clear hK K
        refine fH (((((((((((((((((((((HG.out).er 19).er 18).er 17).er 16).er 15).er 14).er 13).er 12).er 11).er 10).er 9).er 8).er 7).er 6).er 5).er 4).er 3).er 2).er 1).er 0) fun Wx30 HF => ?_
        clear HG
        refine wp_cond_false (by rfl) ?_
        refine wp_skip ?_
        show Code.wp _ _ _ _ _
        refine kS fun K hK => ?_
        refine sq 2 [(true, 0), (true, 1)] fun T hT => ?_
        iterate 2 refine tk ?_
        refine nlS hT HF fun vw12 HG => ?_
        clear hT T HF
        have lx41 := HG.out.c 0 rfl; have fx41 := HG.out.f 0 rfl
        have r0 := Gr.refl vw12
        go_wp2
        refine kO hK ?_; clear hK K
        clear r0 lx41 fx41
        refine fH (((((((((HG.out).put2 0 0 rfl).put2 0 2 rfl).put2 0 4 rfl).er 5).er 4).er 3).er 2).er 1) fun Wx32 HF => ?_
        clear HG
        refine wp_ret ?_
        try simp only [Exit.then, Exit.inBlock]
        have lx41 := HF.out.c 0 rfl
        have r0 := Gr.refl Wx32
        exact bodyPost_ret (v := .tuple #[.int .i64 0, (.agg #[.bool false, .slice none 0 0, .slice none 0 0, .bool false, .slice none 0 0, .slice none 0 0])]) (by simp [results, Tryz.results18, go_sem, lx41 _ r0]) rfl ⟨⟨.slice none 0 0, .slice none 0 0, .slice none 0 0, .slice none 0 0, rfl, (by rw [show Int.natAbs (((0 : Rat)).num) = 0 from rfl]; exact Rn.zero _), (by rw [show ((0 : Rat)).den - 1 = 0 from rfl]; exact Rn.zero _), (by rw [show Int.natAbs (((0 : Rat)).num) = 0 from rfl]; exact Rn.zero _), (by rw [show ((0 : Rat)).den - 1 = 0 from rfl]; exact Rn.zero _)⟩, HF.out.1⟩
      · have HO2 := Lib.hid ho2
        obtain ⟨rfl, rfl, rfl⟩ := cut_out (cut_e1 HNE.out (fun e => HK0.out (HKC.out.symm.trans e)) HCP.out (by show (onR a1 a2 b1 b2 y1 y2 && onR c1 c2 d1 d2 y1 y2) = true; rw [ho1, ho2]; rfl)) HC.out
        clear ho1 ho2
        have lx37 := HF.out.c 16 rfl
        have lx38 := HF.out.c 17 rfl
        have lx39 := HF.out.c 18 rfl
        have lx40 := HF.out.c 19 rfl
        have lx73 := HF.out.c 21 rfl
        refine kS fun K hK => ?_
        refine sq 10 [(true, 0), (true, 1), (true, 2), (true, 3), (true, 4), (true, 5), (true, 6), (true, 7), (true, 8), (true, 9)] fun T hT => ?_
        iterate 3 refine tk ?_
        refine ck Tryz.call83 (fun w' hw => rpon (a1) (a2) (b1) (b2) (y1) (y2) true _ _ _ _ _ _ _ _ _ _ _ _ _ (HO1.out) (by omega) (by omega) (by omega) (by omega) (by omega) (by omega) (HF.out.r 0 rfl hw) (HF.out.r 1 rfl hw) (HF.out.r 2 rfl hw) (HF.out.r 3 rfl hw) (HF.out.r 4 rfl hw) (HF.out.r 5 rfl hw) (HF.out.r 6 rfl hw) (HF.out.r 7 rfl hw) (HF.out.r 22 rfl hw) (HF.out.r 23 rfl hw) (HF.out.r 24 rfl hw) (HF.out.r 25 rfl hw)) ?_
        iterate 4 refine tk ?_
        refine ck Tryz.call83 (fun w' hw => rpon (c1) (c2) (d1) (d2) (y1) (y2) true _ _ _ _ _ _ _ _ _ _ _ _ _ (HO2.out) (by omega) (by omega) (by omega) (by omega) (by omega) (by omega) (HF.out.r 8 rfl hw) (HF.out.r 9 rfl hw) (HF.out.r 10 rfl hw) (HF.out.r 11 rfl hw) (HF.out.r 12 rfl hw) (HF.out.r 13 rfl hw) (HF.out.r 14 rfl hw) (HF.out.r 15 rfl hw) (HF.out.r 22 rfl hw) (HF.out.r 23 rfl hw) (HF.out.r 24 rfl hw) (HF.out.r 25 rfl hw)) ?_
        refine tk ?_
        refine nlS hT HF fun vw11 HG => ?_
        clear hT T HF lx37 lx38 lx39 lx40 lx73
        go_wp2
        refine kO hK ?_; clear hK K
        refine fH (((((((((((((((((((((HG.out).er 19).er 18).er 17).er 16).er 15).er 14).er 13).er 12).er 11).er 10).er 9).er 8).er 7).er 6).er 5).er 4).er 3).er 2).er 1).er 0) fun Wx30 HF => ?_
        clear HG
        refine wp_cond_true (by rfl) ?_
        have lx73 := HF.out.c 1 rfl
        refine kS fun K hK => ?_
        refine pd 2 [(true, 0), (true, 1)] fun T hT => ?_
        iterate 2 refine tk ?_
        refine nlD hT HF fun vw12 HG => ?_
        clear hT T HF lx73
        have lx41 := HG.out.c 0 rfl; have fx41 := HG.out.f 0 rfl
        have r0 := Gr.refl vw12
        go_wp2
        refine kO hK ?_; clear hK K
        clear r0 lx41 fx41
        refine fH (((((HG.out).put2 0 0 rfl).put2 0 2 rfl).put2 0 4 rfl).er 1) fun Wx31 HF => ?_
        clear HG
        refine wp_ret ?_
        try simp only [Exit.then, Exit.inBlock]
        have lx41 := HF.out.c 0 rfl
        have r0 := Gr.refl Wx31
        exact bodyPost_ret (v := .tuple #[.int .i64 1, (.agg #[.bool (decide ((y1).num < 0)), (.slice ao23 nn23 cc23), (.slice ao24 nn24 cc24), .bool (decide ((y2).num < 0)), (.slice ao25 nn25 cc25), (.slice ao26 nn26 cc26)])]) (by simp [results, Tryz.results18, go_sem, lx41 _ r0]) rfl ⟨⟨(.slice ao23 nn23 cc23), (.slice ao24 nn24 cc24), (.slice ao25 nn25 cc25), (.slice ao26 nn26 cc26), rfl, (HF.out.rn 1 rfl), (HF.out.rn 2 rfl), (HF.out.rn 3 rfl), (HF.out.rn 4 rfl)⟩, HF.out.1⟩
end Go.Proofs.YtobojnodohjiaaaGreatDoor
