
/- gussetref03: Abs, Floor. -/
import Derived.Test.YtobojnodohjiaaaGreatDoorPT
import Derived.Test.YtobojnodohjiaaaGreatDoorRefW
import Derived.Test.YtobojnodohjiaaaGreatDoorPts1
import Derived.Test.YtobojnodohjiaaaGreatDoorHp
import Derived.Test.YtobojnodohjiaaaGreatDoorPO
import Derived.Test.YtobojnodohjiaaaGreatDoorIntZ
import Derived.Test.YtobojnodohjiaaaGreatDoorPL
import Derived.Test.YtobojnodohjiaaaGreatDoorEqQ
import Derived.Test.YtobojnodohjiaaaGreatDoorPJ
set_option linter.unusedVariables false
set_option linter.unusedSimpArgs false
namespace Go.Proofs.YtobojnodohjiaaaGreatDoor
open Go.RowKit
attribute [local go_sem ↓] Go.wp_at_zero Go.wp_at_succ
set_option maxRecDepth 20000 in
set_option maxHeartbeats 4000000 in
theorem rpscale (a1 a2 k z1 z2 : Rat) (va11 va12 va21 va22 vk1 vk2 : Value) (w : World) (hz1 : a1 * k = z1) (hz2 : a2 * k = z2) (hs_a1 : rz a1 ≤ 40000000) (hs_a2 : rz a2 ≤ 40000000) (hs_k : rz k ≤ 40000000) (bx21 : Rn w va11 (Int.natAbs ((a1).num))) (bx22 : Rn w va12 ((a1).den - 1)) (bx23 : Rn w va21 (Int.natAbs ((a2).num))) (bx24 : Rn w va22 ((a2).den - 1)) (bx25 : Rn w vk1 (Int.natAbs ((k).num))) (bx26 : Rn w vk2 ((k).den - 1)) :
    Calls Tryz.prog 91 #[(Value.agg #[.bool (decide ((a1).num < 0)), va11, va12, .bool (decide ((a2).num < 0)), va21, va22]), (Value.agg #[.bool (decide ((k).num < 0)), vk1, vk2])] w fun e w' => (∃ r1 r2 r3 r4 : Value, e = .returned (.agg #[.bool (decide ((z1).num < 0)), r1, r2, .bool (decide ((z2).num < 0)), r3, r4]) ∧ Rn w' r1 (Int.natAbs ((z1).num)) ∧ Rn w' r2 ((z1).den - 1) ∧ Rn w' r3 (Int.natAbs ((z2).num)) ∧ Rn w' r4 ((z2).den - 1)) ∧ Below w.heap.size w w' := by
  have hZ1 := Lib.hid hz1
  have hZ2 := Lib.hid hz2
  clear hz1 hz2
  obtain ⟨ao_va11, n_va11, c_va11, rfl⟩ := Rn.sl bx21
  obtain ⟨ao_va12, n_va12, c_va12, rfl⟩ := Rn.sl bx22
  obtain ⟨ao_va21, n_va21, c_va21, rfl⟩ := Rn.sl bx23
  obtain ⟨ao_va22, n_va22, c_va22, rfl⟩ := Rn.sl bx24
  obtain ⟨ao_vk1, n_vk1, c_vk1, rfl⟩ := Rn.sl bx25
  obtain ⟨ao_vk2, n_vk2, c_vk2, rfl⟩ := Rn.sl bx26
  go_enter Tryz.func91, Tryz.ntmps91
  have HF := Lib.hid (hp0 w)
  replace HF := Lib.hid ((((((HF.out.ar bx21).ar bx22).ar bx23).ar bx24).ar bx25).ar bx26)
  simp only [lF, lG] at HF
  clear bx21 bx22 bx23 bx24 bx25 bx26
  refine kS fun K hK => ?_
  refine wp_region_lit ?_
  go_wp2
  refine kO hK ?_; clear hK K
  refine fH ((((HF.out).aL (w.heap.size)).aL (w.heap.size + 1)).aL (w.heap.size + 1 + 1)) fun Wx0 HG => ?_
  clear HF; have HF := HG; clear HG
  generalize w.heap.size + 1 + 1 = gx29 at *
  generalize w.heap.size + 1 = gx28 at *
  have HZ1 : Hid ((a1) * (k) = z1) := Lib.hid (hZ1.out)
  have su1 : rz (z1) ≤ 80000000 := by have e := HZ1.out; first | omega | (rw [← e]; have := rz_mul (a1) (k); omega)
  have HZ2 : Hid ((a2) * (k) = z2) := Lib.hid (hZ2.out)
  have su2 : rz (z2) ≤ 80000000 := by have e := HZ2.out; first | omega | (rw [← e]; have := rz_mul (a2) (k); omega)
  have lx27 := HF.out.c 6 rfl
  have lx28 := HF.out.c 7 rfl
  refine kS fun K hK => ?_
  have HG0 : Hid (Gr Wx0 Wx0) := Lib.hid (Gr.refl _)
  refine pd 9 [(true, 0), (true, 1), (true, 2), (true, 4), (true, 5), (true, 6), (false, 3), (false, 7), (true, 8)] fun T hT => ?_
  iterate 6 refine tk ?_
  refine wpPlan_callE rfl (by rfl) Tryz.call135 (by rfl) (fun w' hw => (qmul_any (a1) (k) (z1) _ _ _ _ _ HZ1.out (by omega) (by omega) (HF.out.r 0 rfl (HG0.out.trans hw)) (HF.out.r 1 rfl (HG0.out.trans hw)) (HF.out.r 4 rfl (HG0.out.trans hw)) (HF.out.r 5 rfl (HG0.out.trans hw))).mono ?_)
  rintro e vv31 ⟨⟨rv1, rv2, rfl, bx31, bx32⟩, hg0⟩
  obtain ⟨ao1, nn1, cc1, rfl⟩ := Rn.sl bx31
  obtain ⟨ao2, nn2, cc2, rfl⟩ := Rn.sl bx32
  refine ⟨_, rfl, hg0, ?_⟩
  replace hg0 := Gr.trans hw hg0; clear hw
  replace HG0 := Lib.hid (HG0.out.trans hg0)
  have HGS := Lib.hid hg0; clear hg0
  clear HGS
  have RN31 := Lib.hid bx31; clear bx31
  have RN32 := Lib.hid bx32; clear bx32
  clear lx27; have lx27 := fun w' (h : Gr _ w') => HF.out.c 6 rfl w' (HG0.out.trans h)
  clear lx28; have lx28 := fun w' (h : Gr _ w') => HF.out.c 7 rfl w' (HG0.out.trans h)
  simp only [Act.put, lA, lB, lC]
  refine wpPlan_callE rfl (by rfl) Tryz.call135 (by rfl) (fun w' hw => (qmul_any (a2) (k) (z2) _ _ _ _ _ HZ2.out (by omega) (by omega) (HF.out.r 2 rfl (HG0.out.trans hw)) (HF.out.r 3 rfl (HG0.out.trans hw)) (HF.out.r 4 rfl (HG0.out.trans hw)) (HF.out.r 5 rfl (HG0.out.trans hw))).mono ?_)
  rintro e vv33 ⟨⟨rv3, rv4, rfl, bx33, bx34⟩, hg0⟩
  obtain ⟨ao3, nn3, cc3, rfl⟩ := Rn.sl bx33
  obtain ⟨ao4, nn4, cc4, rfl⟩ := Rn.sl bx34
  refine ⟨_, rfl, hg0, ?_⟩
  replace hg0 := Gr.trans hw hg0; clear hw
  replace HG0 := Lib.hid (HG0.out.trans hg0)
  have HGS := Lib.hid hg0; clear hg0
  replace RN31 := Lib.hid (RN31.out.gr HGS.out)
  replace RN32 := Lib.hid (RN32.out.gr HGS.out)
  clear HGS
  have RN33 := Lib.hid bx33; clear bx33
  have RN34 := Lib.hid bx34; clear bx34
  clear lx27; have lx27 := fun w' (h : Gr _ w') => HF.out.c 6 rfl w' (HG0.out.trans h)
  clear lx28; have lx28 := fun w' (h : Gr _ w') => HF.out.c 7 rfl w' (HG0.out.trans h)
  simp only [Act.put, lA, lB, lC]
  refine tk ?_
  refine wpPlan_nil (hT.out _ _ ?_)
  intro G vw1 hg hf
  simp only [puts, Act.put, lA, lB, lC, lD, lE, ↓reduceIte, Nat.reduceEqDiff]
  have HG := Lib.hid (((((HF.out.gr (HG0.out.trans hg)).ar (RN31.out.gr hg)).ar (RN32.out.gr hg)).ar (RN33.out.gr hg)).ar (RN34.out.gr hg))
  simp only [zq1_, zq2_, zq3_, zq4_, lF, lG] at HG
  clear hT T HF hg hf HG0 RN31 RN32 RN33 RN34 lx27 lx28
  have lx29 := HG.out.c 8 rfl; have fx29 := HG.out.f 8 rfl
  have r0 := Gr.refl vw1
  go_wp2
  refine kO hK ?_; clear hK K
  clear r0 lx29 fx29
  refine fH ((((((((((((HG.out).put2 8 0 rfl).put2 8 2 rfl).put2 8 4 rfl).er 7).er 6).er 5).er 4).er 3).er 2).er 1).er 0) fun Wx1 HF => ?_
  clear HG
  refine wp_ret ?_
  try simp only [Exit.then, Exit.inBlock]
  have lx29 := HF.out.c 0 rfl
  have r0 := Gr.refl Wx1
  exact bodyPost_ret (v := .agg #[.bool (decide ((z1).num < 0)), (.slice ao1 nn1 cc1), (.slice ao2 nn2 cc2), .bool (decide ((z2).num < 0)), (.slice ao3 nn3 cc3), (.slice ao4 nn4 cc4)]) (by simp [results, Tryz.results91, go_sem, lx29 _ r0]) rfl ⟨⟨(.slice ao1 nn1 cc1), (.slice ao2 nn2 cc2), (.slice ao3 nn3 cc3), (.slice ao4 nn4 cc4), rfl, (HF.out.rn 1 rfl), (HF.out.rn 2 rfl), (HF.out.rn 3 rfl), (HF.out.rn 4 rfl)⟩, HF.out.1⟩
end Go.Proofs.YtobojnodohjiaaaGreatDoor

set_option linter.unusedVariables false
set_option linter.unusedSimpArgs false
namespace Go.Proofs.YtobojnodohjiaaaGreatDoor
end Go.Proofs.YtobojnodohjiaaaGreatDoor

set_option linter.unusedVariables false
set_option linter.unusedSimpArgs false
namespace Go.Proofs.YtobojnodohjiaaaGreatDoor
open Go.RowKit
attribute [local go_sem ↓] Go.wp_at_zero Go.wp_at_succ
end Go.Proofs.YtobojnodohjiaaaGreatDoor

set_option linter.unusedVariables false
set_option linter.unusedSimpArgs false
namespace Go.Proofs.YtobojnodohjiaaaGreatDoor
open Go.RowKit
attribute [local go_sem ↓] Go.wp_at_zero Go.wp_at_succ
end Go.Proofs.YtobojnodohjiaaaGreatDoor

set_option linter.unusedVariables false
set_option linter.unusedSimpArgs false
namespace Go.Proofs.YtobojnodohjiaaaGreatDoor
open Go.RowKit
attribute [local go_sem ↓] Go.wp_at_zero Go.wp_at_succ
attribute [local go_sem ↓] eq_nat eq_nat_zero eq_int
end Go.Proofs.YtobojnodohjiaaaGreatDoor

set_option linter.unusedVariables false
set_option linter.unusedSimpArgs false
/- fracs: From, Num, Den, Abs, Square, Floor, Ceil, Of at 0. -/
namespace Go.Proofs.YtobojnodohjiaaaGreatDoor
open Go.RowKit
attribute [local go_sem ↓] Go.wp_at_zero Go.wp_at_succ
attribute [local go_sem ↓] eq_nat eq_nat_zero eq_int
end Go.Proofs.YtobojnodohjiaaaGreatDoor
/- fracs.Pow. -/
namespace Go.Proofs.YtobojnodohjiaaaGreatDoor
open Go.RowKit
attribute [local go_sem ↓] Go.wp_at_zero Go.wp_at_succ
attribute [local go_sem ↓] eq_nat eq_nat_zero eq_int
end Go.Proofs.YtobojnodohjiaaaGreatDoor
/- fracs.Max of no numbers and of two. -/
namespace Go.Proofs.YtobojnodohjiaaaGreatDoor
open Go.RowKit
attribute [local go_sem ↓] Go.wp_at_zero Go.wp_at_succ
attribute [local go_sem ↓] eq_nat eq_nat_zero eq_int
end Go.Proofs.YtobojnodohjiaaaGreatDoor

set_option linter.unusedVariables false
set_option linter.unusedSimpArgs false
namespace Go.Proofs.YtobojnodohjiaaaGreatDoor
open Go.RowKit
attribute [local go_sem ↓] Go.wp_at_zero Go.wp_at_succ
attribute [local go_sem ↓] eq_nat eq_nat_zero eq_int
end Go.Proofs.YtobojnodohjiaaaGreatDoor
