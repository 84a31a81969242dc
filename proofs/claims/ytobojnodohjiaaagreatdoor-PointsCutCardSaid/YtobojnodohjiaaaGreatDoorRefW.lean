
/- gussetref23: Add, Sub, Cross, Dot, Square. -/
import Derived.Test.YtobojnodohjiaaaGreatDoorPT
import Derived.Test.YtobojnodohjiaaaGreatDoorHp
set_option linter.unusedVariables false
set_option linter.unusedSimpArgs false
namespace Go.Proofs.YtobojnodohjiaaaGreatDoor
open Go.RowKit
attribute [local go_sem ↓] Go.wp_at_zero Go.wp_at_succ
theorem rz_cross (a b c d : Rat) : rz (a * d - b * c) ≤ rz a + rz b + rz c + rz d + 1 := by
  have h1 := rz_mul a d; have h2 := rz_mul b c; have h3 := rz_sub (a * d) (b * c); omega
theorem rz_dot (a b c d : Rat) : rz (a * c + b * d) ≤ rz a + rz b + rz c + rz d + 1 := by
  have h1 := rz_mul a c; have h2 := rz_mul b d; have h3 := rz_add (a * c) (b * d); omega
set_option maxRecDepth 20000 in
set_option maxHeartbeats 2000000 in
theorem rpadd (a1 a2 b1 b2 z1 z2 : Rat) (va11 va12 va21 va22 vb11 vb12 vb21 vb22 : Value) (w : World) (hz1 : a1 + b1 = z1) (hz2 : a2 + b2 = z2) (hs_a1 : rz a1 ≤ 40000000) (hs_a2 : rz a2 ≤ 40000000) (hs_b1 : rz b1 ≤ 40000000) (hs_b2 : rz b2 ≤ 40000000) (bx21 : Rn w va11 (Int.natAbs ((a1).num))) (bx22 : Rn w va12 ((a1).den - 1)) (bx23 : Rn w va21 (Int.natAbs ((a2).num))) (bx24 : Rn w va22 ((a2).den - 1)) (bx25 : Rn w vb11 (Int.natAbs ((b1).num))) (bx26 : Rn w vb12 ((b1).den - 1)) (bx27 : Rn w vb21 (Int.natAbs ((b2).num))) (bx28 : Rn w vb22 ((b2).den - 1)) :
    Calls Tryz.prog 90 #[(Value.agg #[.bool (decide ((a1).num < 0)), va11, va12, .bool (decide ((a2).num < 0)), va21, va22]), (Value.agg #[.bool (decide ((b1).num < 0)), vb11, vb12, .bool (decide ((b2).num < 0)), vb21, vb22])] w fun e w' => (∃ r1 r2 r3 r4 : Value, e = .returned (.agg #[.bool (decide ((z1).num < 0)), r1, r2, .bool (decide ((z2).num < 0)), r3, r4]) ∧ Rn w' r1 (Int.natAbs ((z1).num)) ∧ Rn w' r2 ((z1).den - 1) ∧ Rn w' r3 (Int.natAbs ((z2).num)) ∧ Rn w' r4 ((z2).den - 1)) ∧ Below w.heap.size w w' := by
  replace hz1 := Lib.hid hz1
  replace hz2 := Lib.hid hz2
  obtain ⟨ao_va11, n_va11, c_va11, rfl⟩ := Rn.sl bx21
  obtain ⟨ao_va12, n_va12, c_va12, rfl⟩ := Rn.sl bx22
  obtain ⟨ao_va21, n_va21, c_va21, rfl⟩ := Rn.sl bx23
  obtain ⟨ao_va22, n_va22, c_va22, rfl⟩ := Rn.sl bx24
  obtain ⟨ao_vb11, n_vb11, c_vb11, rfl⟩ := Rn.sl bx25
  obtain ⟨ao_vb12, n_vb12, c_vb12, rfl⟩ := Rn.sl bx26
  obtain ⟨ao_vb21, n_vb21, c_vb21, rfl⟩ := Rn.sl bx27
  obtain ⟨ao_vb22, n_vb22, c_vb22, rfl⟩ := Rn.sl bx28
  go_enter Tryz.func90, Tryz.ntmps90
  have HF := Lib.hid (hp0 w)
  replace HF := Lib.hid ((((((((HF.out.ar bx21).ar bx22).ar bx23).ar bx24).ar bx25).ar bx26).ar bx27).ar bx28)
  simp only [lF, lG] at HF
  clear bx21 bx22 bx23 bx24 bx25 bx26 bx27 bx28
  refine kS fun K hK => ?_
  refine wp_region_lit ?_
  go_wp2
  refine kO hK ?_; clear hK K
  refine fH ((((HF.out).aL (w.heap.size)).aL (w.heap.size + 1)).aL (w.heap.size + 1 + 1)) fun Wx0 HG => ?_
  clear HF; have HF := HG; clear HG
  generalize w.heap.size + 1 + 1 = gx31 at *
  generalize w.heap.size + 1 = gx30 at *
  have HZ1 : Hid ((a1) + (b1) = z1) := Lib.hid (hz1.out)
  have HZ2 : Hid ((a2) + (b2) = z2) := Lib.hid (hz2.out)
  have lx29 := HF.out.c 8 rfl
  have lx30 := HF.out.c 9 rfl
  refine kS fun K hK => ?_
  have HG0 : Hid (Gr Wx0 Wx0) := Lib.hid (Gr.refl _)
  refine pd 11 [(true, 0), (true, 1), (true, 2), (true, 3), (true, 5), (true, 6), (true, 7), (true, 8), (false, 4), (false, 9), (true, 10)] fun T hT => ?_
  iterate 8 refine tk ?_
  refine wpPlan_callE rfl (by rfl) Tryz.call131 (by rfl) (fun w' hw => (qadd_any (a1) (b1) (z1) _ _ _ _ _ HZ1.out (by omega) (by omega) (HF.out.r 0 rfl (HG0.out.trans hw)) (HF.out.r 1 rfl (HG0.out.trans hw)) (HF.out.r 4 rfl (HG0.out.trans hw)) (HF.out.r 5 rfl (HG0.out.trans hw))).mono ?_)
  rintro e vv33 ⟨⟨rv1, rv2, rfl, bx33, bx34⟩, hg0⟩
  obtain ⟨ao1, nn1, cc1, rfl⟩ := Rn.sl bx33
  obtain ⟨ao2, nn2, cc2, rfl⟩ := Rn.sl bx34
  refine ⟨_, rfl, hg0, ?_⟩
  replace hg0 := Gr.trans hw hg0; clear hw
  replace HG0 := Lib.hid (HG0.out.trans hg0)
  have HGS := Lib.hid hg0; clear hg0
  clear HGS
  have RN33 := Lib.hid bx33; clear bx33
  have RN34 := Lib.hid bx34; clear bx34
  clear lx29; have lx29 := fun w' (h : Gr _ w') => HF.out.c 8 rfl w' (HG0.out.trans h)
  clear lx30; have lx30 := fun w' (h : Gr _ w') => HF.out.c 9 rfl w' (HG0.out.trans h)
  simp only [Act.put, lA, lB, lC]
  refine wpPlan_callE rfl (by rfl) Tryz.call131 (by rfl) (fun w' hw => (qadd_any (a2) (b2) (z2) _ _ _ _ _ HZ2.out (by omega) (by omega) (HF.out.r 2 rfl (HG0.out.trans hw)) (HF.out.r 3 rfl (HG0.out.trans hw)) (HF.out.r 6 rfl (HG0.out.trans hw)) (HF.out.r 7 rfl (HG0.out.trans hw))).mono ?_)
  rintro e vv35 ⟨⟨rv3, rv4, rfl, bx35, bx36⟩, hg0⟩
  obtain ⟨ao3, nn3, cc3, rfl⟩ := Rn.sl bx35
  obtain ⟨ao4, nn4, cc4, rfl⟩ := Rn.sl bx36
  refine ⟨_, rfl, hg0, ?_⟩
  replace hg0 := Gr.trans hw hg0; clear hw
  replace HG0 := Lib.hid (HG0.out.trans hg0)
  have HGS := Lib.hid hg0; clear hg0
  replace RN33 := Lib.hid (RN33.out.gr HGS.out)
  replace RN34 := Lib.hid (RN34.out.gr HGS.out)
  clear HGS
  have RN35 := Lib.hid bx35; clear bx35
  have RN36 := Lib.hid bx36; clear bx36
  clear lx29; have lx29 := fun w' (h : Gr _ w') => HF.out.c 8 rfl w' (HG0.out.trans h)
  clear lx30; have lx30 := fun w' (h : Gr _ w') => HF.out.c 9 rfl w' (HG0.out.trans h)
  simp only [Act.put, lA, lB, lC]
  refine tk ?_
  refine wpPlan_nil (hT.out _ _ ?_)
  intro G vw1 hg hf
  simp only [puts, Act.put, lA, lB, lC, lD, lE, ↓reduceIte, Nat.reduceEqDiff]
  have HG := Lib.hid (((((HF.out.gr (HG0.out.trans hg)).ar (RN33.out.gr hg)).ar (RN34.out.gr hg)).ar (RN35.out.gr hg)).ar (RN36.out.gr hg))
  simp only [zq1_, zq2_, zq3_, zq4_, lF, lG] at HG
  clear hT T HF hg hf HG0 RN33 RN34 RN35 RN36 lx29 lx30
  have lx31 := HG.out.c 10 rfl; have fx31 := HG.out.f 10 rfl
  have r0 := Gr.refl vw1
  go_wp2
  refine kO hK ?_; clear hK K
  clear r0 lx31 fx31
  refine fH ((((((((((((((HG.out).put2 10 0 rfl).put2 10 2 rfl).put2 10 4 rfl).er 9).er 8).er 7).er 6).er 5).er 4).er 3).er 2).er 1).er 0) fun Wx1 HF => ?_
  clear HG
  refine wp_ret ?_
  try simp only [Exit.then, Exit.inBlock]
  have lx31 := HF.out.c 0 rfl
  have r0 := Gr.refl Wx1
  exact bodyPost_ret (v := .agg #[.bool (decide ((z1).num < 0)), (.slice ao1 nn1 cc1), (.slice ao2 nn2 cc2), .bool (decide ((z2).num < 0)), (.slice ao3 nn3 cc3), (.slice ao4 nn4 cc4)]) (by simp [results, Tryz.results90, go_sem, lx31 _ r0]) rfl ⟨⟨(.slice ao1 nn1 cc1), (.slice ao2 nn2 cc2), (.slice ao3 nn3 cc3), (.slice ao4 nn4 cc4), rfl, (HF.out.rn 1 rfl), (HF.out.rn 2 rfl), (HF.out.rn 3 rfl), (HF.out.rn 4 rfl)⟩, HF.out.1⟩
set_option maxRecDepth 20000 in
set_option maxHeartbeats 2000000 in
theorem rpsub (a1 a2 b1 b2 z1 z2 : Rat) (va11 va12 va21 va22 vb11 vb12 vb21 vb22 : Value) (w : World) (hz1 : a1 - b1 = z1) (hz2 : a2 - b2 = z2) (hs_a1 : rz a1 ≤ 40000000) (hs_a2 : rz a2 ≤ 40000000) (hs_b1 : rz b1 ≤ 40000000) (hs_b2 : rz b2 ≤ 40000000) (bx21 : Rn w va11 (Int.natAbs ((a1).num))) (bx22 : Rn w va12 ((a1).den - 1)) (bx23 : Rn w va21 (Int.natAbs ((a2).num))) (bx24 : Rn w va22 ((a2).den - 1)) (bx25 : Rn w vb11 (Int.natAbs ((b1).num))) (bx26 : Rn w vb12 ((b1).den - 1)) (bx27 : Rn w vb21 (Int.natAbs ((b2).num))) (bx28 : Rn w vb22 ((b2).den - 1)) :
    Calls Tryz.prog 86 #[(Value.agg #[.bool (decide ((a1).num < 0)), va11, va12, .bool (decide ((a2).num < 0)), va21, va22]), (Value.agg #[.bool (decide ((b1).num < 0)), vb11, vb12, .bool (decide ((b2).num < 0)), vb21, vb22])] w fun e w' => (∃ r1 r2 r3 r4 : Value, e = .returned (.agg #[.bool (decide ((z1).num < 0)), r1, r2, .bool (decide ((z2).num < 0)), r3, r4]) ∧ Rn w' r1 (Int.natAbs ((z1).num)) ∧ Rn w' r2 ((z1).den - 1) ∧ Rn w' r3 (Int.natAbs ((z2).num)) ∧ Rn w' r4 ((z2).den - 1)) ∧ Below w.heap.size w w' := by
  replace hz1 := Lib.hid hz1
  replace hz2 := Lib.hid hz2
  obtain ⟨ao_va11, n_va11, c_va11, rfl⟩ := Rn.sl bx21
  obtain ⟨ao_va12, n_va12, c_va12, rfl⟩ := Rn.sl bx22
  obtain ⟨ao_va21, n_va21, c_va21, rfl⟩ := Rn.sl bx23
  obtain ⟨ao_va22, n_va22, c_va22, rfl⟩ := Rn.sl bx24
  obtain ⟨ao_vb11, n_vb11, c_vb11, rfl⟩ := Rn.sl bx25
  obtain ⟨ao_vb12, n_vb12, c_vb12, rfl⟩ := Rn.sl bx26
  obtain ⟨ao_vb21, n_vb21, c_vb21, rfl⟩ := Rn.sl bx27
  obtain ⟨ao_vb22, n_vb22, c_vb22, rfl⟩ := Rn.sl bx28
  go_enter Tryz.func86, Tryz.ntmps86
  have HF := Lib.hid (hp0 w)
  replace HF := Lib.hid ((((((((HF.out.ar bx21).ar bx22).ar bx23).ar bx24).ar bx25).ar bx26).ar bx27).ar bx28)
  simp only [lF, lG] at HF
  clear bx21 bx22 bx23 bx24 bx25 bx26 bx27 bx28
  refine kS fun K hK => ?_
  refine wp_region_lit ?_
  go_wp2
  refine kO hK ?_; clear hK K
  refine fH ((((HF.out).aL (w.heap.size)).aL (w.heap.size + 1)).aL (w.heap.size + 1 + 1)) fun Wx0 HG => ?_
  clear HF; have HF := HG; clear HG
  generalize w.heap.size + 1 + 1 = gx31 at *
  generalize w.heap.size + 1 = gx30 at *
  have HZ1 : Hid ((a1) - (b1) = z1) := Lib.hid (hz1.out)
  have HZ2 : Hid ((a2) - (b2) = z2) := Lib.hid (hz2.out)
  have lx29 := HF.out.c 8 rfl
  have lx30 := HF.out.c 9 rfl
  refine kS fun K hK => ?_
  have HG0 : Hid (Gr Wx0 Wx0) := Lib.hid (Gr.refl _)
  refine pd 11 [(true, 0), (true, 1), (true, 2), (true, 3), (true, 5), (true, 6), (true, 7), (true, 8), (false, 4), (false, 9), (true, 10)] fun T hT => ?_
  iterate 8 refine tk ?_
  refine wpPlan_callE rfl (by rfl) Tryz.call133 (by rfl) (fun w' hw => (qsub_any (a1) (b1) (z1) _ _ _ _ _ HZ1.out (by omega) (by omega) (HF.out.r 0 rfl (HG0.out.trans hw)) (HF.out.r 1 rfl (HG0.out.trans hw)) (HF.out.r 4 rfl (HG0.out.trans hw)) (HF.out.r 5 rfl (HG0.out.trans hw))).mono ?_)
  rintro e vv33 ⟨⟨rv1, rv2, rfl, bx33, bx34⟩, hg0⟩
  obtain ⟨ao1, nn1, cc1, rfl⟩ := Rn.sl bx33
  obtain ⟨ao2, nn2, cc2, rfl⟩ := Rn.sl bx34
  refine ⟨_, rfl, hg0, ?_⟩
  replace hg0 := Gr.trans hw hg0; clear hw
  replace HG0 := Lib.hid (HG0.out.trans hg0)
  have HGS := Lib.hid hg0; clear hg0
  clear HGS
  have RN33 := Lib.hid bx33; clear bx33
  have RN34 := Lib.hid bx34; clear bx34
  clear lx29; have lx29 := fun w' (h : Gr _ w') => HF.out.c 8 rfl w' (HG0.out.trans h)
  clear lx30; have lx30 := fun w' (h : Gr _ w') => HF.out.c 9 rfl w' (HG0.out.trans h)
  simp only [Act.put, lA, lB, lC]
  refine wpPlan_callE rfl (by rfl) Tryz.call133 (by rfl) (fun w' hw => (qsub_any (a2) (b2) (z2) _ _ _ _ _ HZ2.out (by omega) (by omega) (HF.out.r 2 rfl (HG0.out.trans hw)) (HF.out.r 3 rfl (HG0.out.trans hw)) (HF.out.r 6 rfl (HG0.out.trans hw)) (HF.out.r 7 rfl (HG0.out.trans hw))).mono ?_)
  rintro e vv35 ⟨⟨rv3, rv4, rfl, bx35, bx36⟩, hg0⟩
  obtain ⟨ao3, nn3, cc3, rfl⟩ := Rn.sl bx35
  obtain ⟨ao4, nn4, cc4, rfl⟩ := Rn.sl bx36
  refine ⟨_, rfl, hg0, ?_⟩
  replace hg0 := Gr.trans hw hg0; clear hw
  replace HG0 := Lib.hid (HG0.out.trans hg0)
  have HGS := Lib.hid hg0; clear hg0
  replace RN33 := Lib.hid (RN33.out.gr HGS.out)
  replace RN34 := Lib.hid (RN34.out.gr HGS.out)
  clear HGS
  have RN35 := Lib.hid bx35; clear bx35
  have RN36 := Lib.hid bx36; clear bx36
  clear lx29; have lx29 := fun w' (h : Gr _ w') => HF.out.c 8 rfl w' (HG0.out.trans h)
  clear lx30; have lx30 := fun w' (h : Gr _ w') => HF.out.c 9 rfl w' (HG0.out.trans h)
  simp only [Act.put, lA, lB, lC]
  refine tk ?_
  refine wpPlan_nil (hT.out _ _ ?_)
  intro G vw1 hg hf
  simp only [puts, Act.put, lA, lB, lC, lD, lE, ↓reduceIte, Nat.reduceEqDiff]
  have HG := Lib.hid (((((HF.out.gr (HG0.out.trans hg)).ar (RN33.out.gr hg)).ar (RN34.out.gr hg)).ar (RN35.out.gr hg)).ar (RN36.out.gr hg))
  simp only [zq1_, zq2_, zq3_, zq4_, lF, lG] at HG
  clear hT T HF hg hf HG0 RN33 RN34 RN35 RN36 lx29 lx30
  have lx31 := HG.out.c 10 rfl; have fx31 := HG.out.f 10 rfl
  have r0 := Gr.refl vw1
  go_wp2
  refine kO hK ?_; clear hK K
  clear r0 lx31 fx31
  refine fH ((((((((((((((HG.out).put2 10 0 rfl).put2 10 2 rfl).put2 10 4 rfl).er 9).er 8).er 7).er 6).er 5).er 4).er 3).er 2).er 1).er 0) fun Wx1 HF => ?_
  clear HG
  refine wp_ret ?_
  try simp only [Exit.then, Exit.inBlock]
  have lx31 := HF.out.c 0 rfl
  have r0 := Gr.refl Wx1
  exact bodyPost_ret (v := .agg #[.bool (decide ((z1).num < 0)), (.slice ao1 nn1 cc1), (.slice ao2 nn2 cc2), .bool (decide ((z2).num < 0)), (.slice ao3 nn3 cc3), (.slice ao4 nn4 cc4)]) (by simp [results, Tryz.results86, go_sem, lx31 _ r0]) rfl ⟨⟨(.slice ao1 nn1 cc1), (.slice ao2 nn2 cc2), (.slice ao3 nn3 cc3), (.slice ao4 nn4 cc4), rfl, (HF.out.rn 1 rfl), (HF.out.rn 2 rfl), (HF.out.rn 3 rfl), (HF.out.rn 4 rfl)⟩, HF.out.1⟩
set_option maxRecDepth 20000 in
set_option maxHeartbeats 2000000 in
theorem rpcross (a1 a2 b1 b2 z : Rat) (va11 va12 va21 va22 vb11 vb12 vb21 vb22 : Value) (w : World) (hz : a1 * b2 - a2 * b1 = z) (hs_a1 : rz a1 ≤ 10000000) (hs_a2 : rz a2 ≤ 10000000) (hs_b1 : rz b1 ≤ 10000000) (hs_b2 : rz b2 ≤ 10000000) (bx21 : Rn w va11 (Int.natAbs ((a1).num))) (bx22 : Rn w va12 ((a1).den - 1)) (bx23 : Rn w va21 (Int.natAbs ((a2).num))) (bx24 : Rn w va22 ((a2).den - 1)) (bx25 : Rn w vb11 (Int.natAbs ((b1).num))) (bx26 : Rn w vb12 ((b1).den - 1)) (bx27 : Rn w vb21 (Int.natAbs ((b2).num))) (bx28 : Rn w vb22 ((b2).den - 1)) :
    Calls Tryz.prog 87 #[(Value.agg #[.bool (decide ((a1).num < 0)), va11, va12, .bool (decide ((a2).num < 0)), va21, va22]), (Value.agg #[.bool (decide ((b1).num < 0)), vb11, vb12, .bool (decide ((b2).num < 0)), vb21, vb22])] w fun e w' => (∃ r1 r2 : Value, e = .returned (.agg #[.bool (decide ((z).num < 0)), r1, r2]) ∧ Rn w' r1 (Int.natAbs ((z).num)) ∧ Rn w' r2 ((z).den - 1)) ∧ Below w.heap.size w w' := by
  replace hz := Lib.hid hz
  obtain ⟨ao_va11, n_va11, c_va11, rfl⟩ := Rn.sl bx21
  obtain ⟨ao_va12, n_va12, c_va12, rfl⟩ := Rn.sl bx22
  obtain ⟨ao_va21, n_va21, c_va21, rfl⟩ := Rn.sl bx23
  obtain ⟨ao_va22, n_va22, c_va22, rfl⟩ := Rn.sl bx24
  obtain ⟨ao_vb11, n_vb11, c_vb11, rfl⟩ := Rn.sl bx25
  obtain ⟨ao_vb12, n_vb12, c_vb12, rfl⟩ := Rn.sl bx26
  obtain ⟨ao_vb21, n_vb21, c_vb21, rfl⟩ := Rn.sl bx27
  obtain ⟨ao_vb22, n_vb22, c_vb22, rfl⟩ := Rn.sl bx28
  go_enter Tryz.func87, Tryz.ntmps87
  have HF := Lib.hid (hp0 w)
  replace HF := Lib.hid ((((((((HF.out.ar bx21).ar bx22).ar bx23).ar bx24).ar bx25).ar bx26).ar bx27).ar bx28)
  simp only [lF, lG] at HF
  clear bx21 bx22 bx23 bx24 bx25 bx26 bx27 bx28
  refine kS fun K hK => ?_
  refine wp_region_lit ?_
  go_wp2
  refine kO hK ?_; clear hK K
  refine fH ((((HF.out).aL (w.heap.size)).aL (w.heap.size + 1)).aL (w.heap.size + 1 + 1)) fun Wx0 HG => ?_
  clear HF; have HF := HG; clear HG
  generalize w.heap.size + 1 + 1 = gx31 at *
  generalize w.heap.size + 1 = gx30 at *
  obtain ⟨u1, HZ1⟩ : ∃ z, Hid ((a1) * (b2) = z) := ⟨_, Lib.hid rfl⟩
  have su1 : rz u1 ≤ 20000000 := by rw [← HZ1.out]; have := rz_mul (a1) (b2); omega
  obtain ⟨u2, HZ2⟩ : ∃ z, Hid ((a2) * (b1) = z) := ⟨_, Lib.hid rfl⟩
  have su2 : rz u2 ≤ 20000000 := by rw [← HZ2.out]; have := rz_mul (a2) (b1); omega
  have HZ3 : Hid ((u1) - (u2) = z) := Lib.hid (by rw [← HZ1.out, ← HZ2.out, ← hz.out])
  have lx29 := HF.out.c 8 rfl
  have lx30 := HF.out.c 9 rfl
  refine kS fun K hK => ?_
  have HG0 : Hid (Gr Wx0 Wx0) := Lib.hid (Gr.refl _)
  refine pd 11 [(true, 0), (true, 1), (true, 2), (true, 3), (true, 5), (true, 6), (true, 7), (true, 8), (false, 4), (false, 9), (false, 10)] fun T hT => ?_
  iterate 8 refine tk ?_
  refine wpPlan_callE rfl (by rfl) Tryz.call135 (by rfl) (fun w' hw => (qmul_any (a1) (b2) (u1) _ _ _ _ _ HZ1.out (by omega) (by omega) (HF.out.r 0 rfl (HG0.out.trans hw)) (HF.out.r 1 rfl (HG0.out.trans hw)) (HF.out.r 6 rfl (HG0.out.trans hw)) (HF.out.r 7 rfl (HG0.out.trans hw))).mono ?_)
  rintro e vv33 ⟨⟨rv1, rv2, rfl, bx33, bx34⟩, hg0⟩
  obtain ⟨ao1, nn1, cc1, rfl⟩ := Rn.sl bx33
  obtain ⟨ao2, nn2, cc2, rfl⟩ := Rn.sl bx34
  refine ⟨_, rfl, hg0, ?_⟩
  replace hg0 := Gr.trans hw hg0; clear hw
  replace HG0 := Lib.hid (HG0.out.trans hg0)
  have HGS := Lib.hid hg0; clear hg0
  clear HGS
  have RN33 := Lib.hid bx33; clear bx33
  have RN34 := Lib.hid bx34; clear bx34
  clear lx29; have lx29 := fun w' (h : Gr _ w') => HF.out.c 8 rfl w' (HG0.out.trans h)
  clear lx30; have lx30 := fun w' (h : Gr _ w') => HF.out.c 9 rfl w' (HG0.out.trans h)
  simp only [Act.put, lA, lB, lC]
  refine wpPlan_callE rfl (by rfl) Tryz.call135 (by rfl) (fun w' hw => (qmul_any (a2) (b1) (u2) _ _ _ _ _ HZ2.out (by omega) (by omega) (HF.out.r 2 rfl (HG0.out.trans hw)) (HF.out.r 3 rfl (HG0.out.trans hw)) (HF.out.r 4 rfl (HG0.out.trans hw)) (HF.out.r 5 rfl (HG0.out.trans hw))).mono ?_)
  rintro e vv35 ⟨⟨rv3, rv4, rfl, bx35, bx36⟩, hg0⟩
  obtain ⟨ao3, nn3, cc3, rfl⟩ := Rn.sl bx35
  obtain ⟨ao4, nn4, cc4, rfl⟩ := Rn.sl bx36
  refine ⟨_, rfl, hg0, ?_⟩
  replace hg0 := Gr.trans hw hg0; clear hw
  replace HG0 := Lib.hid (HG0.out.trans hg0)
  have HGS := Lib.hid hg0; clear hg0
  replace RN33 := Lib.hid (RN33.out.gr HGS.out)
  replace RN34 := Lib.hid (RN34.out.gr HGS.out)
  clear HGS
  have RN35 := Lib.hid bx35; clear bx35
  have RN36 := Lib.hid bx36; clear bx36
  clear lx29; have lx29 := fun w' (h : Gr _ w') => HF.out.c 8 rfl w' (HG0.out.trans h)
  clear lx30; have lx30 := fun w' (h : Gr _ w') => HF.out.c 9 rfl w' (HG0.out.trans h)
  simp only [Act.put, lA, lB, lC]
  refine wpPlan_callE rfl (by rfl) Tryz.call133 (by rfl) (fun w' hw => (qsub_any (u1) (u2) (z) _ _ _ _ _ HZ3.out (by omega) (by omega) (RN33.out.gr hw) (RN34.out.gr hw) (RN35.out.gr hw) (RN36.out.gr hw)).mono ?_)
  rintro e vv37 ⟨⟨rv5, rv6, rfl, bx37, bx38⟩, hg0⟩
  obtain ⟨ao5, nn5, cc5, rfl⟩ := Rn.sl bx37
  obtain ⟨ao6, nn6, cc6, rfl⟩ := Rn.sl bx38
  refine ⟨_, rfl, hg0, ?_⟩
  replace hg0 := Gr.trans hw hg0; clear hw
  replace HG0 := Lib.hid (HG0.out.trans hg0)
  have HGS := Lib.hid hg0; clear hg0
  replace RN33 := Lib.hid (RN33.out.gr HGS.out)
  replace RN34 := Lib.hid (RN34.out.gr HGS.out)
  replace RN35 := Lib.hid (RN35.out.gr HGS.out)
  replace RN36 := Lib.hid (RN36.out.gr HGS.out)
  clear HGS
  have RN37 := Lib.hid bx37; clear bx37
  have RN38 := Lib.hid bx38; clear bx38
  clear lx29; have lx29 := fun w' (h : Gr _ w') => HF.out.c 8 rfl w' (HG0.out.trans h)
  clear lx30; have lx30 := fun w' (h : Gr _ w') => HF.out.c 9 rfl w' (HG0.out.trans h)
  simp only [Act.put, lA, lB, lC]
  refine wpPlan_nil (hT.out _ _ ?_)
  intro G vw1 hg hf
  simp only [puts, Act.put, lA, lB, lC, lD, lE, ↓reduceIte, Nat.reduceEqDiff]
  have HG := Lib.hid (((((((HF.out.gr (HG0.out.trans hg)).ar (RN33.out.gr hg)).ar (RN34.out.gr hg)).ar (RN35.out.gr hg)).ar (RN36.out.gr hg)).ar (RN37.out.gr hg)).ar (RN38.out.gr hg))
  simp only [zq1_, zq2_, zq3_, zq4_, lF, lG] at HG
  clear hT T HF hg hf HG0 RN33 RN34 RN35 RN36 RN37 RN38 lx29 lx30
  have lx31 := HG.out.c 10 rfl; have fx31 := HG.out.f 10 rfl
  have r0 := Gr.refl vw1
  go_wp2
  refine kO hK ?_; clear hK K
  clear r0 lx31 fx31
  refine fH (((((((((((((((((HG.out).put2 10 0 rfl).put 10 2 _ rfl).er 14).er 13).er 12).er 11).er 9).er 8).er 7).er 6).er 5).er 4).er 3).er 2).er 1).er 0) fun Wx1 HF => ?_
  clear HG
  refine wp_ret ?_
  try simp only [Exit.then, Exit.inBlock]
  have lx31 := HF.out.c 0 rfl
  have r0 := Gr.refl Wx1
  exact bodyPost_ret (v := .agg #[.bool (decide ((z).num < 0)), (.slice ao5 nn5 cc5), (.slice ao6 nn6 cc6)]) (by simp [results, Tryz.results87, go_sem, lx31 _ r0]) rfl ⟨⟨(.slice ao5 nn5 cc5), (.slice ao6 nn6 cc6), rfl, (HF.out.rn 1 rfl), (HF.out.rn 2 rfl)⟩, HF.out.1⟩
set_option maxRecDepth 20000 in
set_option maxHeartbeats 2000000 in
theorem rpdot (a1 a2 b1 b2 z : Rat) (va11 va12 va21 va22 vb11 vb12 vb21 vb22 : Value) (w : World) (hz : a1 * b1 + a2 * b2 = z) (hs_a1 : rz a1 ≤ 10000000) (hs_a2 : rz a2 ≤ 10000000) (hs_b1 : rz b1 ≤ 10000000) (hs_b2 : rz b2 ≤ 10000000) (bx21 : Rn w va11 (Int.natAbs ((a1).num))) (bx22 : Rn w va12 ((a1).den - 1)) (bx23 : Rn w va21 (Int.natAbs ((a2).num))) (bx24 : Rn w va22 ((a2).den - 1)) (bx25 : Rn w vb11 (Int.natAbs ((b1).num))) (bx26 : Rn w vb12 ((b1).den - 1)) (bx27 : Rn w vb21 (Int.natAbs ((b2).num))) (bx28 : Rn w vb22 ((b2).den - 1)) :
    Calls Tryz.prog 192 #[(Value.agg #[.bool (decide ((a1).num < 0)), va11, va12, .bool (decide ((a2).num < 0)), va21, va22]), (Value.agg #[.bool (decide ((b1).num < 0)), vb11, vb12, .bool (decide ((b2).num < 0)), vb21, vb22])] w fun e w' => (∃ r1 r2 : Value, e = .returned (.agg #[.bool (decide ((z).num < 0)), r1, r2]) ∧ Rn w' r1 (Int.natAbs ((z).num)) ∧ Rn w' r2 ((z).den - 1)) ∧ Below w.heap.size w w' := by
  replace hz := Lib.hid hz
  obtain ⟨ao_va11, n_va11, c_va11, rfl⟩ := Rn.sl bx21
  obtain ⟨ao_va12, n_va12, c_va12, rfl⟩ := Rn.sl bx22
  obtain ⟨ao_va21, n_va21, c_va21, rfl⟩ := Rn.sl bx23
  obtain ⟨ao_va22, n_va22, c_va22, rfl⟩ := Rn.sl bx24
  obtain ⟨ao_vb11, n_vb11, c_vb11, rfl⟩ := Rn.sl bx25
  obtain ⟨ao_vb12, n_vb12, c_vb12, rfl⟩ := Rn.sl bx26
  obtain ⟨ao_vb21, n_vb21, c_vb21, rfl⟩ := Rn.sl bx27
  obtain ⟨ao_vb22, n_vb22, c_vb22, rfl⟩ := Rn.sl bx28
  go_enter Tryz.func192, Tryz.ntmps192
  have HF := Lib.hid (hp0 w)
  replace HF := Lib.hid ((((((((HF.out.ar bx21).ar bx22).ar bx23).ar bx24).ar bx25).ar bx26).ar bx27).ar bx28)
  simp only [lF, lG] at HF
  clear bx21 bx22 bx23 bx24 bx25 bx26 bx27 bx28
  refine kS fun K hK => ?_
  refine wp_region_lit ?_
  go_wp2
  refine kO hK ?_; clear hK K
  refine fH ((((HF.out).aL (w.heap.size)).aL (w.heap.size + 1)).aL (w.heap.size + 1 + 1)) fun Wx0 HG => ?_
  clear HF; have HF := HG; clear HG
  generalize w.heap.size + 1 + 1 = gx31 at *
  generalize w.heap.size + 1 = gx30 at *
  obtain ⟨u1, HZ1⟩ : ∃ z, Hid ((a1) * (b1) = z) := ⟨_, Lib.hid rfl⟩
  have su1 : rz u1 ≤ 20000000 := by rw [← HZ1.out]; have := rz_mul (a1) (b1); omega
  obtain ⟨u2, HZ2⟩ : ∃ z, Hid ((a2) * (b2) = z) := ⟨_, Lib.hid rfl⟩
  have su2 : rz u2 ≤ 20000000 := by rw [← HZ2.out]; have := rz_mul (a2) (b2); omega
  have HZ3 : Hid ((u1) + (u2) = z) := Lib.hid (by rw [← HZ1.out, ← HZ2.out, ← hz.out])
  have lx29 := HF.out.c 8 rfl
  have lx30 := HF.out.c 9 rfl
  refine kS fun K hK => ?_
  have HG0 : Hid (Gr Wx0 Wx0) := Lib.hid (Gr.refl _)
  refine pd 11 [(true, 0), (true, 1), (true, 2), (true, 3), (true, 5), (true, 6), (true, 7), (true, 8), (false, 4), (false, 9), (false, 10)] fun T hT => ?_
  iterate 8 refine tk ?_
  refine wpPlan_callE rfl (by rfl) Tryz.call135 (by rfl) (fun w' hw => (qmul_any (a1) (b1) (u1) _ _ _ _ _ HZ1.out (by omega) (by omega) (HF.out.r 0 rfl (HG0.out.trans hw)) (HF.out.r 1 rfl (HG0.out.trans hw)) (HF.out.r 4 rfl (HG0.out.trans hw)) (HF.out.r 5 rfl (HG0.out.trans hw))).mono ?_)
  rintro e vv33 ⟨⟨rv1, rv2, rfl, bx33, bx34⟩, hg0⟩
  obtain ⟨ao1, nn1, cc1, rfl⟩ := Rn.sl bx33
  obtain ⟨ao2, nn2, cc2, rfl⟩ := Rn.sl bx34
  refine ⟨_, rfl, hg0, ?_⟩
  replace hg0 := Gr.trans hw hg0; clear hw
  replace HG0 := Lib.hid (HG0.out.trans hg0)
  have HGS := Lib.hid hg0; clear hg0
  clear HGS
  have RN33 := Lib.hid bx33; clear bx33
  have RN34 := Lib.hid bx34; clear bx34
  clear lx29; have lx29 := fun w' (h : Gr _ w') => HF.out.c 8 rfl w' (HG0.out.trans h)
  clear lx30; have lx30 := fun w' (h : Gr _ w') => HF.out.c 9 rfl w' (HG0.out.trans h)
  simp only [Act.put, lA, lB, lC]
  refine wpPlan_callE rfl (by rfl) Tryz.call135 (by rfl) (fun w' hw => (qmul_any (a2) (b2) (u2) _ _ _ _ _ HZ2.out (by omega) (by omega) (HF.out.r 2 rfl (HG0.out.trans hw)) (HF.out.r 3 rfl (HG0.out.trans hw)) (HF.out.r 6 rfl (HG0.out.trans hw)) (HF.out.r 7 rfl (HG0.out.trans hw))).mono ?_)
  rintro e vv35 ⟨⟨rv3, rv4, rfl, bx35, bx36⟩, hg0⟩
  obtain ⟨ao3, nn3, cc3, rfl⟩ := Rn.sl bx35
  obtain ⟨ao4, nn4, cc4, rfl⟩ := Rn.sl bx36
  refine ⟨_, rfl, hg0, ?_⟩
  replace hg0 := Gr.trans hw hg0; clear hw
  replace HG0 := Lib.hid (HG0.out.trans hg0)
  have HGS := Lib.hid hg0; clear hg0
  replace RN33 := Lib.hid (RN33.out.gr HGS.out)
  replace RN34 := Lib.hid (RN34.out.gr HGS.out)
  clear HGS
  have RN35 := Lib.hid bx35; clear bx35
  have RN36 := Lib.hid bx36; clear bx36
  clear lx29; have lx29 := fun w' (h : Gr _ w') => HF.out.c 8 rfl w' (HG0.out.trans h)
  clear lx30; have lx30 := fun w' (h : Gr _ w') => HF.out.c 9 rfl w' (HG0.out.trans h)
  simp only [Act.put, lA, lB, lC]
  refine wpPlan_callE rfl (by rfl) Tryz.call131 (by rfl) (fun w' hw => (qadd_any (u1) (u2) (z) _ _ _ _ _ HZ3.out (by omega) (by omega) (RN33.out.gr hw) (RN34.out.gr hw) (RN35.out.gr hw) (RN36.out.gr hw)).mono ?_)
  rintro e vv37 ⟨⟨rv5, rv6, rfl, bx37, bx38⟩, hg0⟩
  obtain ⟨ao5, nn5, cc5, rfl⟩ := Rn.sl bx37
  obtain ⟨ao6, nn6, cc6, rfl⟩ := Rn.sl bx38
  refine ⟨_, rfl, hg0, ?_⟩
  replace hg0 := Gr.trans hw hg0; clear hw
  replace HG0 := Lib.hid (HG0.out.trans hg0)
  have HGS := Lib.hid hg0; clear hg0
  replace RN33 := Lib.hid (RN33.out.gr HGS.out)
  replace RN34 := Lib.hid (RN34.out.gr HGS.out)
  replace RN35 := Lib.hid (RN35.out.gr HGS.out)
  replace RN36 := Lib.hid (RN36.out.gr HGS.out)
  clear HGS
  have RN37 := Lib.hid bx37; clear bx37
  have RN38 := Lib.hid bx38; clear bx38
  clear lx29; have lx29 := fun w' (h : Gr _ w') => HF.out.c 8 rfl w' (HG0.out.trans h)
  clear lx30; have lx30 := fun w' (h : Gr _ w') => HF.out.c 9 rfl w' (HG0.out.trans h)
  simp only [Act.put, lA, lB, lC]
  refine wpPlan_nil (hT.out _ _ ?_)
  intro G vw1 hg hf
  simp only [puts, Act.put, lA, lB, lC, lD, lE, ↓reduceIte, Nat.reduceEqDiff]
  have HG := Lib.hid (((((((HF.out.gr (HG0.out.trans hg)).ar (RN33.out.gr hg)).ar (RN34.out.gr hg)).ar (RN35.out.gr hg)).ar (RN36.out.gr hg)).ar (RN37.out.gr hg)).ar (RN38.out.gr hg))
  simp only [zq1_, zq2_, zq3_, zq4_, lF, lG] at HG
  clear hT T HF hg hf HG0 RN33 RN34 RN35 RN36 RN37 RN38 lx29 lx30
  have lx31 := HG.out.c 10 rfl; have fx31 := HG.out.f 10 rfl
  have r0 := Gr.refl vw1
  go_wp2
  refine kO hK ?_; clear hK K
  clear r0 lx31 fx31
  refine fH (((((((((((((((((HG.out).put2 10 0 rfl).put 10 2 _ rfl).er 14).er 13).er 12).er 11).er 9).er 8).er 7).er 6).er 5).er 4).er 3).er 2).er 1).er 0) fun Wx1 HF => ?_
  clear HG
  refine wp_ret ?_
  try simp only [Exit.then, Exit.inBlock]
  have lx31 := HF.out.c 0 rfl
  have r0 := Gr.refl Wx1
  exact bodyPost_ret (v := .agg #[.bool (decide ((z).num < 0)), (.slice ao5 nn5 cc5), (.slice ao6 nn6 cc6)]) (by simp [results, Tryz.results192, go_sem, lx31 _ r0]) rfl ⟨⟨(.slice ao5 nn5 cc5), (.slice ao6 nn6 cc6), rfl, (HF.out.rn 1 rfl), (HF.out.rn 2 rfl)⟩, HF.out.1⟩
end Go.Proofs.YtobojnodohjiaaaGreatDoor
