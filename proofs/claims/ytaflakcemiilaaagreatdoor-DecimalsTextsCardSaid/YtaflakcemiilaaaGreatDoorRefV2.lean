
/- gussetref03: Abs, Floor. -/
import Derived.Test.YtaflakcemiilaaaGreatDoorPT
import Derived.Test.YtaflakcemiilaaaGreatDoorZrA
import Derived.Test.YtaflakcemiilaaaGreatDoorPV
import Derived.Test.YtaflakcemiilaaaGreatDoorHp
set_option linter.unusedVariables false
set_option linter.unusedSimpArgs false
namespace Go.Proofs.YtaflakcemiilaaaGreatDoor
open Go.RowKit
attribute [local go_sem ↓] Go.wp_at_zero Go.wp_at_succ
attribute [local go_sem ↓] eq_nat eq_nat_zero eq_int
theorem tw_floor (q : Rat) : tw (Int.natAbs (q.floor)) ≤ rz q + 1 := by
  rw [Rat.floor_def]
  exact Nat.le_trans (tw_idiv _ _) (by have := rz_num q; omega)
set_option maxRecDepth 20000 in
set_option maxHeartbeats 4000000 in
theorem qfloor_any (a : Rat) (z : Int) (va1 va2 : Value) (w : World) (HZ : Hid (a.floor = z)) (hs : rz a ≤ 10000000) (bx21 : Rn w va1 (Int.natAbs ((a).num))) (bx22 : Rn w va2 ((a).den - 1)) :
    Calls Tryz.prog 138 #[(Value.agg #[.bool (decide ((a).num < 0)), va1, va2])] w fun e w' => (∃ r1 : Value, e = .returned (.agg #[.bool (decide ((z) < 0)), r1]) ∧ Rn w' r1 (Int.natAbs (z))) ∧ Below w.heap.size w w' := by
  have hn_q : tw (Int.natAbs ((a).num)) ≤ 10000000 := Nat.le_trans (rz_num a) hs
  have hp_q := a.den_pos
  obtain ⟨ao_va1, n_va1, c_va1, rfl⟩ := Rn.sl bx21
  obtain ⟨ao_va2, n_va2, c_va2, rfl⟩ := Rn.sl bx22
  go_enter Tryz.func138, Tryz.ntmps138
  have HF := Lib.hid (hp0 w)
  replace HF := Lib.hid ((HF.out.ar bx21).ar bx22)
  simp only [lF, lG] at HF
  clear bx21 bx22
  refine kS fun K hK => ?_
  refine wp_region_lit ?_
  go_wp2
  refine kO hK ?_; clear hK K
  refine fH (((HF.out).aL (w.heap.size)).aL (w.heap.size + 1)) fun Wx0 HG => ?_
  clear HF; have HF := HG; clear HG
  generalize w.heap.size + 1 = gx24 at *
  obtain ⟨u1, HZ1⟩ : ∃ z, Hid (((a).den : Int) = z) := ⟨_, Lib.hid rfl⟩
  have su1 : tw (Int.natAbs (u1)) ≤ 10000000 := by rw [← HZ1.out]; rw [Int.natAbs_natCast]; exact Nat.le_trans (rz_den _) (by omega)
  have HZ2 : Hid (((a).num) / (u1) = z) := Lib.hid (by rw [← HZ.out, Rat.floor_def]; simp only [← HZ1.out])
  have su2 : tw (Int.natAbs (z)) ≤ 10000001 := by have e := HZ2.out; first | omega | (rw [← e]; have := tw_idiv ((a).num) (u1); omega)
  obtain ⟨u3, HZ3⟩ : ∃ z, Hid (((a).num) % (u1) = z) := ⟨_, Lib.hid rfl⟩
  have su3 : tw (Int.natAbs (u3)) ≤ 10000000 := by rw [← HZ3.out]; have := tw_imod ((a).num) (u1) (by simp only [← HZ1.out]; omega); omega
  have lx23 := HF.out.c 2 rfl
  refine kS fun K hK => ?_
  have HG0 : Hid (Gr Wx0 Wx0) := Lib.hid (Gr.refl _)
  refine wp_region_plan 10 [8, 9] [7] (fun i => if i = 8 then 3 else 4) (fun i => if i = 8 then .cells #[.bool false, .slice none 0 0] 45 else .cells #[.bool false, .slice none 0 0] 45) [(true, 0), (true, 1), (true, 2), (false, 3), (false, 4), (true, 5), (true, 6), (true, 7)] (by kernel_rfl) (by kernel_rfl) (by intro i hi; simp only [List.mem_cons, List.not_mem_nil, or_false] at hi; rcases hi with rfl | rfl <;> exact ⟨_, rfl, rfl, rfl, by simp, fun ρ w => by kernel_rfl⟩) (by intro i hi; simp only [List.mem_cons, List.not_mem_nil, or_false] at hi; rcases hi with rfl <;> exact ⟨_, rfl, pure_extract⟩) (fun _ _ _ _ _ h => h) (fun T hT => ?_)
  iterate 3 refine tk ?_
  refine wpPlan_callE rfl (by rfl) Tryz.call192 (by rfl) (fun w' hw => (qden_any (a) (u1) _ _ _ HZ1.out (by omega) (HF.out.r 0 rfl (HG0.out.trans hw)) (HF.out.r 1 rfl (HG0.out.trans hw))).mono ?_)
  rintro e vv26 ⟨⟨rv1, rfl, bx26⟩, hg0⟩
  obtain ⟨ao1, nn1, cc1, rfl⟩ := Rn.sl bx26
  refine ⟨_, rfl, hg0, ?_⟩
  replace hg0 := Gr.trans hw hg0; clear hw
  replace HG0 := Lib.hid (HG0.out.trans hg0)
  have HGS := Lib.hid hg0; clear hg0
  clear HGS
  have RN26 := Lib.hid bx26; clear bx26
  clear lx23; have lx23 := fun w' (h : Gr _ w') => HF.out.c 2 rfl w' (HG0.out.trans h)
  simp only [Act.put, lA, lB, lC]
  refine wpPlan_callE rfl (by rfl) Tryz.call209 (by rfl) (fun w' hw => (zzdiv ((a).num) (u1) (z) (u3) _ _ _ HZ2.out HZ3.out (by simp only [← HZ3.out, ← HZ1.out]; omega) (by omega) (by omega) (HF.out.r 0 rfl (HG0.out.trans hw)) (RN26.out.gr hw)).mono ?_)
  rintro e vv27 ⟨⟨rv2, rv3, rfl, bx27, bx28⟩, hg0⟩
  obtain ⟨ao2, nn2, cc2, rfl⟩ := Rn.sl bx27
  obtain ⟨ao3, nn3, cc3, rfl⟩ := Rn.sl bx28
  refine ⟨_, rfl, hg0, ?_⟩
  replace hg0 := Gr.trans hw hg0; clear hw
  replace HG0 := Lib.hid (HG0.out.trans hg0)
  have HGS := Lib.hid hg0; clear hg0
  replace RN26 := Lib.hid (RN26.out.gr HGS.out)
  clear HGS
  have RN27 := Lib.hid bx27; clear bx27
  have RN28 := Lib.hid bx28; clear bx28
  clear lx23; have lx23 := fun w' (h : Gr _ w') => HF.out.c 2 rfl w' (HG0.out.trans h)
  simp only [Act.put, lA, lB, lC]
  iterate 3 refine tk ?_
  refine wpPlan_nil (hT.out _ _ ?_)
  intro G vw1 hg hf
  simp only [puts, Act.put, lA, lB, lC, lD, lE, ↓reduceIte, Nat.reduceEqDiff]
  have HG := Lib.hid ((((HF.out.fr (HG0.out.trans hg) hf (zs := [(#[.bool false, .slice none 0 0], 45), (#[.bool false, .slice none 0 0], 45)]) rfl (by decide) (by decide)).ar (RN26.out.gr hg)).ar (RN27.out.gr hg)).ar (RN28.out.gr hg))
  simp only [zq1_, zq2_, zq3_, zq4_, lF, lG] at HG
  clear hT T HF hg hf HG0 RN26 RN27 RN28 lx23
  generalize G 8 = gx29 at *
  generalize G 9 = gx30 at *
  have lx29 := HG.out.c 4 rfl; have fx29 := HG.out.f 4 rfl
  have lx30 := HG.out.c 5 rfl; have fx30 := HG.out.f 5 rfl
  have r0 := Gr.refl vw1
  obtain ⟨d29_30, d30_29⟩ := HG.out.ne 4 5 rfl rfl (by decide)
  go_wp2
  refine kO hK ?_; clear hK K
  clear r0 lx29 fx29 lx30 fx30 d29_30 d30_29
  refine fH (((((((((HG.out).put2 4 0 rfl).put2 5 0 rfl).er 8).er 6).er 5).er 2).er 1).er 0) fun Wx1 HF => ?_
  clear HG
  have lx29 := HF.out.c 1 rfl
  refine kS fun K hK => ?_
  refine sq 1 [(true, 0)] fun T hT => ?_
  refine tk ?_
  refine nlS hT HF fun vw2 HG => ?_
  clear hT T HF lx29
  have lx24 := HG.out.c 0 rfl; have fx24 := HG.out.f 0 rfl
  have r0 := Gr.refl vw2
  go_wp2
  refine kO hK ?_; clear hK K
  clear r0 lx24 fx24
  refine fH (((HG.out).put2 0 0 rfl).er 1) fun Wx2 HF => ?_
  clear HG
  refine wp_ret ?_
  try simp only [Exit.then, Exit.inBlock]
  have lx24 := HF.out.c 0 rfl
  have r0 := Gr.refl Wx2
  exact bodyPost_ret (v := .agg #[.bool (decide ((z) < 0)), (.slice ao2 nn2 cc2)]) (by simp [results, Tryz.results138, go_sem, lx24 _ r0]) rfl ⟨⟨(.slice ao2 nn2 cc2), rfl, (HF.out.rn 1 rfl)⟩, HF.out.1⟩
end Go.Proofs.YtaflakcemiilaaaGreatDoor
