
/- gussetref02: Sub, Cmp, Div. -/
import Derived.Test.YtaflakcemiilaaaGreatDoorIntE
import Derived.Test.YtaflakcemiilaaaGreatDoorPT
import Derived.Test.YtaflakcemiilaaaGreatDoorHp
set_option linter.unusedVariables false
set_option linter.unusedSimpArgs false
namespace Go.Proofs.YtaflakcemiilaaaGreatDoor
open Go.RowKit
attribute [local go_sem ↓] Go.wp_at_zero Go.wp_at_succ
theorem tw_isub (a b : Int) : tw (Int.natAbs (a - b)) ≤ max (tw a.natAbs) (tw b.natAbs) + 1 := by
  have := tw_iadd a (-b)
  rw [Int.natAbs_neg] at this
  rw [Int.sub_eq_add_neg]; exact this
theorem tw_idiv (a b : Int) : tw (a / b).natAbs ≤ tw a.natAbs + 1 := by
  have h1 := tw_mono (div_abs a b)
  have h2 := tw_add a.natAbs 1
  have h3 : tw 1 ≤ 1 := tw_le.2 (by decide)
  by_cases h : a = 0
  · subst h; simp
  · have h4 : 0 < tw a.natAbs := tw_pos (by omega)
    omega
theorem tw_imod (a b : Int) (h : b ≠ 0) : tw (a % b).natAbs ≤ tw b.natAbs := tw_mono (Nat.le_of_lt (mod_abs a h).1)
theorem zrsign (a s : Int) (va : Value) (w : World) (hs : sgI a = s) (h : Rn w va a.natAbs) :
    Calls Tryz.prog 186 #[.agg #[.bool (decide (a < 0)), va]] w fun e w' => e = .returned (.int .i64 s) ∧ Below w.heap.size w w' := zsign_any a s va w hs h
set_option maxRecDepth 20000 in
set_option maxHeartbeats 4000000 in
theorem zsub_any (a b z : Int) (va vb : Value) (w : World) (hz : a - b = z) (hs_a : tw (Int.natAbs a) ≤ 100000000) (hs_b : tw (Int.natAbs b) ≤ 100000000) (bx21 : Rn w va (Int.natAbs (a))) (bx22 : Rn w vb (Int.natAbs (b))) :
    Calls Tryz.prog 241 #[(Value.agg #[.bool (decide ((a) < 0)), va]), (Value.agg #[.bool (decide ((b) < 0)), vb])] w fun e w' => (∃ r1 : Value, e = .returned (.agg #[.bool (decide ((z) < 0)), r1]) ∧ Rn w' r1 (Int.natAbs (z))) ∧ Below w.heap.size w w' := by
  have HZ := Lib.hid hz
  clear hz
  obtain ⟨ao_va, n_va, c_va, rfl⟩ := Rn.sl bx21
  obtain ⟨ao_vb, n_vb, c_vb, rfl⟩ := Rn.sl bx22
  go_enter Tryz.func241, Tryz.ntmps241
  have HF := Lib.hid (hp0 w)
  replace HF := Lib.hid ((HF.out.ar bx21).ar bx22)
  simp only [lF, lG] at HF
  clear bx21 bx22
  refine kS fun K hK => ?_
  refine wp_region_lit ?_
  go_wp2
  refine kO hK ?_; clear hK K
  refine fH ((((HF.out).aL (w.heap.size)).aL (w.heap.size + 1)).aL (w.heap.size + 1 + 1)) fun Wx0 HG => ?_
  clear HF; have HF := HG; clear HG
  generalize w.heap.size + 1 + 1 = gx25 at *
  generalize w.heap.size + 1 = gx24 at *
  obtain ⟨u1, HZ1⟩ : ∃ z, Hid (-(b) = z) := ⟨_, Lib.hid rfl⟩
  have su1 : tw (Int.natAbs (u1)) ≤ 100000000 := by rw [← HZ1.out]; rw [Int.natAbs_neg]; omega
  have HZ2 : Hid ((a) + (u1) = z) := Lib.hid (by rw [← HZ.out, ← HZ1.out]; omega)
  have su2 : tw (Int.natAbs (z)) ≤ 100000001 := by have e := HZ2.out; first | omega | (rw [← e]; have := tw_iadd (a) (u1); omega)
  have lx23 := HF.out.c 2 rfl
  have lx24 := HF.out.c 3 rfl
  refine kS fun K hK => ?_
  have HG0 : Hid (Gr Wx0 Wx0) := Lib.hid (Gr.refl _)
  refine pd 4 [(true, 0), (true, 1), (false, 2), (false, 3)] fun T hT => ?_
  iterate 2 refine tk ?_
  refine wpPlan_callE rfl (by rfl) Tryz.call207 (by rfl) (fun w' hw => (zneg_any (b) (u1) _ _ HZ1.out (HF.out.r 1 rfl (HG0.out.trans hw))).mono ?_)
  rintro e vv27 ⟨⟨rv1, rfl, bx27⟩, hg0⟩
  obtain ⟨ao1, nn1, cc1, rfl⟩ := Rn.sl bx27
  refine ⟨_, rfl, hg0, ?_⟩
  replace hg0 := Gr.trans hw hg0; clear hw
  replace HG0 := Lib.hid (HG0.out.trans hg0)
  have HGS := Lib.hid hg0; clear hg0
  clear HGS
  have RN27 := Lib.hid bx27; clear bx27
  clear lx23; have lx23 := fun w' (h : Gr _ w') => HF.out.c 2 rfl w' (HG0.out.trans h)
  clear lx24; have lx24 := fun w' (h : Gr _ w') => HF.out.c 3 rfl w' (HG0.out.trans h)
  simp only [Act.put, lA, lB, lC]
  refine wpPlan_callE rfl (by rfl) Tryz.call164 (by rfl) (fun w' hw => (zadd_any (a) (u1) (z) _ _ _ HZ2.out (by omega) (by omega) (HF.out.r 0 rfl (HG0.out.trans hw)) (RN27.out.gr hw)).mono ?_)
  rintro e vv28 ⟨⟨rv2, rfl, bx28⟩, hg0⟩
  obtain ⟨ao2, nn2, cc2, rfl⟩ := Rn.sl bx28
  refine ⟨_, rfl, hg0, ?_⟩
  replace hg0 := Gr.trans hw hg0; clear hw
  replace HG0 := Lib.hid (HG0.out.trans hg0)
  have HGS := Lib.hid hg0; clear hg0
  replace RN27 := Lib.hid (RN27.out.gr HGS.out)
  clear HGS
  have RN28 := Lib.hid bx28; clear bx28
  clear lx23; have lx23 := fun w' (h : Gr _ w') => HF.out.c 2 rfl w' (HG0.out.trans h)
  clear lx24; have lx24 := fun w' (h : Gr _ w') => HF.out.c 3 rfl w' (HG0.out.trans h)
  simp only [Act.put, lA, lB, lC]
  refine wpPlan_nil (hT.out _ _ ?_)
  intro G vw1 hg hf
  simp only [puts, Act.put, lA, lB, lC, lD, lE, ↓reduceIte, Nat.reduceEqDiff]
  have HG := Lib.hid (((HF.out.gr (HG0.out.trans hg)).ar (RN27.out.gr hg)).ar (RN28.out.gr hg))
  simp only [zq1_, zq2_, zq3_, zq4_, lF, lG] at HG
  clear hT T HF hg hf HG0 RN27 RN28 lx23 lx24
  have lx25 := HG.out.c 4 rfl; have fx25 := HG.out.f 4 rfl
  have r0 := Gr.refl vw1
  go_wp2
  refine kO hK ?_; clear hK K
  clear r0 lx25 fx25
  refine fH (((((((HG.out).put2 4 0 rfl).er 5).er 3).er 2).er 1).er 0) fun Wx1 HF => ?_
  clear HG
  refine wp_ret ?_
  try simp only [Exit.then, Exit.inBlock]
  have lx25 := HF.out.c 0 rfl
  have r0 := Gr.refl Wx1
  exact bodyPost_ret (v := .agg #[.bool (decide ((z) < 0)), (.slice ao2 nn2 cc2)]) (by simp [results, Tryz.results241, go_sem, lx25 _ r0]) rfl ⟨⟨(.slice ao2 nn2 cc2), rfl, (HF.out.rn 1 rfl)⟩, HF.out.1⟩
set_option maxRecDepth 20000 in
set_option maxHeartbeats 4000000 in
theorem zdiv_pp (a b q r t : Int) (va vb : Value) (w : World) (HQ : Hid (a / b = q)) (HR : Hid (a % b = r)) (HBS : Hid (0 < b)) (H0 : Hid (0 ≤ a)) (HT_ : Hid (sgI r = t)) (ht : ¬ t < 0) (HRS : Hid (0 ≤ r)) (hs_a : tw (Int.natAbs a) ≤ 100000000) (hs_b : tw (Int.natAbs b) ≤ 100000000) (bx21 : Rn w va (Int.natAbs (a))) (bx22 : Rn w vb (Int.natAbs (b))) :
    Calls Tryz.prog 209 #[(Value.agg #[.bool (decide ((a) < 0)), va]), (Value.agg #[.bool (decide ((b) < 0)), vb])] w fun e w' => (∃ r1 r2 : Value, e = .returned (.tuple #[(.agg #[.bool (decide ((q) < 0)), r1]), (.agg #[.bool (decide ((r) < 0)), r2])]) ∧ Rn w' r1 (Int.natAbs (q)) ∧ Rn w' r2 (Int.natAbs (r))) ∧ Below w.heap.size w w' := by
  obtain ⟨ao_va, n_va, c_va, rfl⟩ := Rn.sl bx21
  obtain ⟨ao_vb, n_vb, c_vb, rfl⟩ := Rn.sl bx22
  go_enter Tryz.func209, Tryz.ntmps209
  have HF := Lib.hid (hp0 w)
  replace HF := Lib.hid ((HF.out.ar bx21).ar bx22)
  simp only [lF, lG] at HF
  clear bx21 bx22
  refine kS fun K hK => ?_
  refine wp_region_lit ?_
  go_wp2
  refine kO hK ?_; clear hK K
  refine fH (((((HF.out).aL (w.heap.size)).aL (w.heap.size + 1)).aL (w.heap.size + 1 + 1)).aL (w.heap.size + 1 + 1 + 1)) fun Wx0 HG => ?_
  clear HF; have HF := HG; clear HG
  generalize w.heap.size + 1 + 1 + 1 = gx26 at *
  generalize w.heap.size + 1 + 1 = gx25 at *
  generalize w.heap.size + 1 = gx24 at *
  obtain ⟨u1, HZ1⟩ : ∃ z, Hid ((Int.natAbs (a)) / (Int.natAbs (b)) = z) := ⟨_, Lib.hid rfl⟩
  have su1 : tw (u1) ≤ 100000000 := by rw [← HZ1.out]; have := tw_div (Int.natAbs (a)) (Int.natAbs (b)); omega
  obtain ⟨u2, HZ2⟩ : ∃ z, Hid ((Int.natAbs (a)) % (Int.natAbs (b)) = z) := ⟨_, Lib.hid rfl⟩
  have su2 : tw (u2) ≤ 100000000 := by rw [← HZ2.out]; have := tw_mod (Int.natAbs (a)) (Int.natAbs (b)); omega
  have lx23 := HF.out.c 2 rfl
  have lx24 := HF.out.c 3 rfl
  refine kS fun K hK => ?_
  have HG0 : Hid (Gr Wx0 Wx0) := Lib.hid (Gr.refl _)
  refine sq 10 [(true, 0), (true, 1), (true, 2), (true, 3), (false, 4), (true, 5), (true, 6), (true, 7), (true, 8), (true, 9)] fun T hT => ?_
  iterate 4 refine tk ?_
  refine wpPlan_callE rfl (by rfl) Tryz.call174 (by rfl) (fun w' hw => (zrdiv _ _ (Int.natAbs (a)) (Int.natAbs (b)) (u1) (u2) _ HZ1.out HZ2.out (HF.out.r 0 rfl (HG0.out.trans hw)) (HF.out.r 1 rfl (HG0.out.trans hw)) (by have h0 := H0.out; have hb := HBS.out; have hr := HRS.out; first | exact ok | (simp only [← HZ2.out, ← HZ1.out] <;> first | exact ok)) (by omega) (by omega)).mono ?_)
  rintro e vv28 ⟨⟨rv1, rv2, rfl, bx28, bx29⟩, hg0⟩
  obtain ⟨ao1, nn1, cc1, rfl⟩ := Rn.sl bx28
  obtain ⟨ao2, nn2, cc2, rfl⟩ := Rn.sl bx29
  refine ⟨_, rfl, hg0, ?_⟩
  replace hg0 := Gr.trans hw hg0; clear hw
  replace HG0 := Lib.hid (HG0.out.trans hg0)
  have HGS := Lib.hid hg0; clear hg0
  clear HGS
  have RN28 := Lib.hid bx28; clear bx28
  have RN29 := Lib.hid bx29; clear bx29
  clear lx23; have lx23 := fun w' (h : Gr _ w') => HF.out.c 2 rfl w' (HG0.out.trans h)
  clear lx24; have lx24 := fun w' (h : Gr _ w') => HF.out.c 3 rfl w' (HG0.out.trans h)
  simp only [Act.put, lA, lB, lC]
  iterate 5 refine tk ?_
  refine wpPlan_nil (hT.out _ _ ?_)
  intro vw1 hg
  simp only [puts, Act.put, lA, lB, lC, lD, lE, ↓reduceIte, Nat.reduceEqDiff]
  have HG := Lib.hid (((HF.out.gr (HG0.out.trans hg)).ar (RN28.out.gr hg)).ar (RN29.out.gr hg))
  simp only [zq1_, zq2_, zq3_, zq4_, lF, lG] at HG
  clear hT T HF hg HG0 RN28 RN29 lx23 lx24
  go_wp2
  refine kO hK ?_; clear hK K
  have HF := HG; clear HG
  have hd1 : decide ((a) < 0) = false := decide_eq_false (by have h0 := H0.out; have hb := HBS.out; have hr := HRS.out; first | exact ok | (simp only [← HZ2.out, ← HZ1.out] <;> first | exact ok))
  have hd2 : decide ((b) < 0) = false := decide_eq_false (by have h0 := H0.out; have hb := HBS.out; have hr := HRS.out; first | exact ok | (simp only [← HZ2.out, ← HZ1.out] <;> first | exact ok))
  have hd3 : decide ((a) < 0) = false := decide_eq_false (by have h0 := H0.out; have hb := HBS.out; have hr := HRS.out; first | exact ok | (simp only [← HZ2.out, ← HZ1.out] <;> first | exact ok))
  have HZ3 : Hid ((if false then -((u1 : Nat) : Int) else ((u1 : Nat) : Int)) = q) := Lib.hid (by have h0 := H0.out; have hb := HBS.out; have hr := HRS.out; rw [← HQ.out, ← HZ1.out]; exact dq false false (decide_eq_false (by omega)) (decide_eq_false (by omega)) (by omega) (.inl (by omega)))
  have su3 : tw (Int.natAbs (q)) ≤ 100000000 := by have e := HZ3.out; first | omega | (rw [← e]; split <;> simp <;> omega)
  have HZ4 : Hid ((if false then -((u2 : Nat) : Int) else ((u2 : Nat) : Int)) = r) := Lib.hid (by have h0 := H0.out; have hb := HBS.out; have hr := HRS.out; rw [← HR.out, ← HZ2.out]; exact dr false (decide_eq_false (by omega)) (by omega) (.inl (by omega)))
  have su4 : tw (Int.natAbs (r)) ≤ 100000000 := by have e := HZ4.out; first | omega | (rw [← e]; split <;> simp <;> omega)
  have lx23 := HF.out.c 2 rfl
  have lx24 := HF.out.c 3 rfl
  refine kS fun K hK => ?_
  have HG0 : Hid (Gr vw1 vw1) := Lib.hid (Gr.refl _)
  refine wp_region_plan 13 [11, 12] [] (fun i => if i = 11 then 8 else 9) (fun i => if i = 11 then .cells #[.bool false, .slice none 0 0] 45 else .cells #[.bool false, .slice none 0 0] 45) [(true, 0), (true, 1), (true, 2), (true, 3), (true, 4), (true, 5), (true, 7), (true, 8), (true, 9), (false, 6), (false, 10)] (by kernel_rfl) (by kernel_rfl) (by intro i hi; simp only [List.mem_cons, List.not_mem_nil, or_false] at hi; rcases hi with rfl | rfl <;> exact ⟨_, rfl, rfl, rfl, by simp, fun ρ w => by kernel_rfl⟩) (fun i hi => by cases hi) (fun _ _ _ _ _ h => h) (fun T hT => ?_)
  iterate 9 refine tk ?_
  refine wpPlan_callE rfl (by rfl) Tryz.call187 (by rfl) (fun w' hw => (zfrom_any false (u1) (q) _ _ HZ3.out (HF.out.r 6 rfl (HG0.out.trans hw))).mono ?_)
  rintro e vv30 ⟨⟨rv3, rfl, bx30⟩, hg0⟩
  obtain ⟨ao3, nn3, cc3, rfl⟩ := Rn.sl bx30
  refine ⟨_, rfl, hg0, ?_⟩
  replace hg0 := Gr.trans hw hg0; clear hw
  replace HG0 := Lib.hid (HG0.out.trans hg0)
  have HGS := Lib.hid hg0; clear hg0
  clear HGS
  have RN30 := Lib.hid bx30; clear bx30
  clear lx23; have lx23 := fun w' (h : Gr _ w') => HF.out.c 2 rfl w' (HG0.out.trans h)
  clear lx24; have lx24 := fun w' (h : Gr _ w') => HF.out.c 3 rfl w' (HG0.out.trans h)
  simp only [Act.put, lA, lB, lC]
  refine wpPlan_callE rfl (by rfl) Tryz.call187 (by rfl) (fun w' hw => (zfrom_any false (u2) (r) _ _ HZ4.out (HF.out.r 7 rfl (HG0.out.trans hw))).mono ?_)
  rintro e vv31 ⟨⟨rv4, rfl, bx31⟩, hg0⟩
  obtain ⟨ao4, nn4, cc4, rfl⟩ := Rn.sl bx31
  refine ⟨_, rfl, hg0, ?_⟩
  replace hg0 := Gr.trans hw hg0; clear hw
  replace HG0 := Lib.hid (HG0.out.trans hg0)
  have HGS := Lib.hid hg0; clear hg0
  replace RN30 := Lib.hid (RN30.out.gr HGS.out)
  clear HGS
  have RN31 := Lib.hid bx31; clear bx31
  clear lx23; have lx23 := fun w' (h : Gr _ w') => HF.out.c 2 rfl w' (HG0.out.trans h)
  clear lx24; have lx24 := fun w' (h : Gr _ w') => HF.out.c 3 rfl w' (HG0.out.trans h)
  simp only [Act.put, lA, lB, lC]
  refine wpPlan_nil (hT.out _ _ ?_)
  intro G vw2 hg hf
  simp only [puts, Act.put, lA, lB, lC, lD, lE, ↓reduceIte, Nat.reduceEqDiff]
  have HG := Lib.hid (((HF.out.fr (HG0.out.trans hg) hf (zs := [(#[.bool false, .slice none 0 0], 45), (#[.bool false, .slice none 0 0], 45)]) rfl (by decide) (by decide)).ar (RN30.out.gr hg)).ar (RN31.out.gr hg))
  simp only [zq1_, zq2_, zq3_, zq4_, lF, lG] at HG
  clear hT T HF hg hf HG0 RN30 RN31 lx23 lx24
  generalize G 11 = gx32 at *
  generalize G 12 = gx33 at *
  have lx32 := HG.out.c 8 rfl; have fx32 := HG.out.f 8 rfl
  have lx33 := HG.out.c 9 rfl; have fx33 := HG.out.f 9 rfl
  have r0 := Gr.refl vw2
  obtain ⟨d32_33, d33_32⟩ := HG.out.ne 8 9 rfl rfl (by decide)
  go_wp2
  refine kO hK ?_; clear hK K
  clear r0 lx32 fx32 lx33 fx33 d32_33 d33_32
  refine fH (((((((HG.out).put2 8 0 rfl).put2 9 0 rfl).er 7).er 6).er 2).er 0) fun Wx2 HF => ?_
  clear HG
  clear hd1 hd2 hd3
  refine wp_seq ?_
  have hd4 : ¬ (t < 0) := by have h0 := H0.out; have hb := HBS.out; have hr := HRS.out; first | exact ok | (simp only [← HZ2.out, ← HZ1.out] <;> first | exact ok)
  have lx24 := HF.out.c 1 rfl
  have lx33 := HF.out.c 5 rfl
  refine kS fun K hK => ?_
  refine sq 8 [(true, 0), (true, 1), (true, 2), (true, 3), (true, 4), (true, 5), (true, 6), (true, 7)] fun T hT => ?_
  refine tk ?_
  refine ck Tryz.call186 (fun w' hw => zrsign (r) (t) _ _ (HT_.out) (HF.out.r 7 rfl hw)) ?_
  iterate 2 refine tk ?_
  iterate 3 refine sk ?_
  refine tk ?_
  refine nlS hT HF fun vw3 HG => ?_
  clear hT T HF lx24 lx33
  go_wp2
  refine kO hK ?_; clear hK K
  have HF := HG; clear HG
  clear hd4
  refine wp_cond_false (by rfl) ?_
  refine wp_skip ?_
  show Code.wp _ _ _ _ _
  refine wp_seq ?_
  have hd5 : ¬ (t < 0) := by have h0 := H0.out; have hb := HBS.out; have hr := HRS.out; first | exact ok | (simp only [← HZ2.out, ← HZ1.out] <;> first | exact ok)
  have lx33 := HF.out.c 5 rfl
  refine kS fun K hK => ?_
  refine sq 3 [(true, 0), (true, 1), (true, 2)] fun T hT => ?_
  refine tk ?_
  refine ck Tryz.call186 (fun w' hw => zrsign (r) (t) _ _ (HT_.out) (HF.out.r 7 rfl hw)) ?_
  refine tk ?_
  refine nlS hT HF fun vw4 HG => ?_
  clear hT T HF lx33
  go_wp2
  refine kO hK ?_; clear hK K
  have HF := HG; clear HG
  clear hd5
  refine wp_cond_false (by rfl) ?_
  refine wp_skip ?_
  show Code.wp _ _ _ _ _
  have lx25 := HF.out.c 2 rfl; have fx25 := HF.out.f 2 rfl
  have lx26 := HF.out.c 3 rfl; have fx26 := HF.out.f 3 rfl
  have lx32 := HF.out.c 4 rfl; have fx32 := HF.out.f 4 rfl
  have lx33 := HF.out.c 5 rfl; have fx33 := HF.out.f 5 rfl
  have r0 := Gr.refl vw4
  obtain ⟨d25_26, d26_25⟩ := HF.out.ne 2 3 rfl rfl (by decide)
  obtain ⟨d25_32, d32_25⟩ := HF.out.ne 2 4 rfl rfl (by decide)
  obtain ⟨d25_33, d33_25⟩ := HF.out.ne 2 5 rfl rfl (by decide)
  obtain ⟨d26_32, d32_26⟩ := HF.out.ne 3 4 rfl rfl (by decide)
  obtain ⟨d26_33, d33_26⟩ := HF.out.ne 3 5 rfl rfl (by decide)
  obtain ⟨d32_33, d33_32⟩ := HF.out.ne 4 5 rfl rfl (by decide)
  refine kS fun K hK => ?_
  go_region
  go_wp2
  refine kO hK ?_; clear hK K
  clear r0 lx25 fx25 lx26 fx26 lx32 fx32 lx33 fx33 d25_26 d26_25 d25_32 d32_25 d25_33 d33_25 d26_32 d32_26 d26_33 d33_26 d32_33 d33_32
  refine fH ((((((((HF.out).put2 2 0 rfl).put2 3 0 rfl).er 5).er 4).er 1).er 0).gr ((Below.refl _ _).drew)) fun Wx7 HG => ?_
  clear HF; have HF := HG; clear HG
  refine wp_ret ?_
  try simp only [Exit.then, Exit.inBlock]
  have lx25 := HF.out.c 0 rfl
  have lx26 := HF.out.c 1 rfl
  have r0 := Gr.refl Wx7
  exact bodyPost_ret (v := .tuple #[(.agg #[.bool (decide ((q) < 0)), (.slice ao3 nn3 cc3)]), (.agg #[.bool (decide ((r) < 0)), (.slice ao4 nn4 cc4)])]) (by simp [results, Tryz.results209, go_sem, lx25 _ r0, lx26 _ r0]) rfl ⟨⟨(.slice ao3 nn3 cc3), (.slice ao4 nn4 cc4), rfl, (HF.out.rn 2 rfl), (HF.out.rn 3 rfl)⟩, HF.out.1⟩
set_option maxRecDepth 20000 in
set_option maxHeartbeats 4000000 in
theorem zdiv_pn (a b q r t : Int) (va vb : Value) (w : World) (HQ : Hid (a / b = q)) (HR : Hid (a % b = r)) (HBS : Hid (b < 0)) (H0 : Hid (0 ≤ a)) (HT_ : Hid (sgI r = t)) (ht : ¬ t < 0) (HRS : Hid (0 ≤ r)) (hs_a : tw (Int.natAbs a) ≤ 100000000) (hs_b : tw (Int.natAbs b) ≤ 100000000) (bx21 : Rn w va (Int.natAbs (a))) (bx22 : Rn w vb (Int.natAbs (b))) :
    Calls Tryz.prog 209 #[(Value.agg #[.bool (decide ((a) < 0)), va]), (Value.agg #[.bool (decide ((b) < 0)), vb])] w fun e w' => (∃ r1 r2 : Value, e = .returned (.tuple #[(.agg #[.bool (decide ((q) < 0)), r1]), (.agg #[.bool (decide ((r) < 0)), r2])]) ∧ Rn w' r1 (Int.natAbs (q)) ∧ Rn w' r2 (Int.natAbs (r))) ∧ Below w.heap.size w w' := by
  obtain ⟨ao_va, n_va, c_va, rfl⟩ := Rn.sl bx21
  obtain ⟨ao_vb, n_vb, c_vb, rfl⟩ := Rn.sl bx22
  go_enter Tryz.func209, Tryz.ntmps209
  have HF := Lib.hid (hp0 w)
  replace HF := Lib.hid ((HF.out.ar bx21).ar bx22)
  simp only [lF, lG] at HF
  clear bx21 bx22
  refine kS fun K hK => ?_
  refine wp_region_lit ?_
  go_wp2
  refine kO hK ?_; clear hK K
  refine fH (((((HF.out).aL (w.heap.size)).aL (w.heap.size + 1)).aL (w.heap.size + 1 + 1)).aL (w.heap.size + 1 + 1 + 1)) fun Wx0 HG => ?_
  clear HF; have HF := HG; clear HG
  generalize w.heap.size + 1 + 1 + 1 = gx26 at *
  generalize w.heap.size + 1 + 1 = gx25 at *
  generalize w.heap.size + 1 = gx24 at *
  obtain ⟨u1, HZ1⟩ : ∃ z, Hid ((Int.natAbs (a)) / (Int.natAbs (b)) = z) := ⟨_, Lib.hid rfl⟩
  have su1 : tw (u1) ≤ 100000000 := by rw [← HZ1.out]; have := tw_div (Int.natAbs (a)) (Int.natAbs (b)); omega
  obtain ⟨u2, HZ2⟩ : ∃ z, Hid ((Int.natAbs (a)) % (Int.natAbs (b)) = z) := ⟨_, Lib.hid rfl⟩
  have su2 : tw (u2) ≤ 100000000 := by rw [← HZ2.out]; have := tw_mod (Int.natAbs (a)) (Int.natAbs (b)); omega
  have lx23 := HF.out.c 2 rfl
  have lx24 := HF.out.c 3 rfl
  refine kS fun K hK => ?_
  have HG0 : Hid (Gr Wx0 Wx0) := Lib.hid (Gr.refl _)
  refine sq 10 [(true, 0), (true, 1), (true, 2), (true, 3), (false, 4), (true, 5), (true, 6), (true, 7), (true, 8), (true, 9)] fun T hT => ?_
  iterate 4 refine tk ?_
  refine wpPlan_callE rfl (by rfl) Tryz.call174 (by rfl) (fun w' hw => (zrdiv _ _ (Int.natAbs (a)) (Int.natAbs (b)) (u1) (u2) _ HZ1.out HZ2.out (HF.out.r 0 rfl (HG0.out.trans hw)) (HF.out.r 1 rfl (HG0.out.trans hw)) (by have h0 := H0.out; have hb := HBS.out; have hr := HRS.out; first | exact ok | (simp only [← HZ2.out, ← HZ1.out] <;> first | exact ok)) (by omega) (by omega)).mono ?_)
  rintro e vv28 ⟨⟨rv1, rv2, rfl, bx28, bx29⟩, hg0⟩
  obtain ⟨ao1, nn1, cc1, rfl⟩ := Rn.sl bx28
  obtain ⟨ao2, nn2, cc2, rfl⟩ := Rn.sl bx29
  refine ⟨_, rfl, hg0, ?_⟩
  replace hg0 := Gr.trans hw hg0; clear hw
  replace HG0 := Lib.hid (HG0.out.trans hg0)
  have HGS := Lib.hid hg0; clear hg0
  clear HGS
  have RN28 := Lib.hid bx28; clear bx28
  have RN29 := Lib.hid bx29; clear bx29
  clear lx23; have lx23 := fun w' (h : Gr _ w') => HF.out.c 2 rfl w' (HG0.out.trans h)
  clear lx24; have lx24 := fun w' (h : Gr _ w') => HF.out.c 3 rfl w' (HG0.out.trans h)
  simp only [Act.put, lA, lB, lC]
  iterate 5 refine tk ?_
  refine wpPlan_nil (hT.out _ _ ?_)
  intro vw1 hg
  simp only [puts, Act.put, lA, lB, lC, lD, lE, ↓reduceIte, Nat.reduceEqDiff]
  have HG := Lib.hid (((HF.out.gr (HG0.out.trans hg)).ar (RN28.out.gr hg)).ar (RN29.out.gr hg))
  simp only [zq1_, zq2_, zq3_, zq4_, lF, lG] at HG
  clear hT T HF hg HG0 RN28 RN29 lx23 lx24
  go_wp2
  refine kO hK ?_; clear hK K
  have HF := HG; clear HG
  have hd1 : decide ((a) < 0) = false := decide_eq_false (by have h0 := H0.out; have hb := HBS.out; have hr := HRS.out; first | exact ok | (simp only [← HZ2.out, ← HZ1.out] <;> first | exact ok))
  have hd2 : decide ((b) < 0) = true := decide_eq_true (by have h0 := H0.out; have hb := HBS.out; have hr := HRS.out; first | exact ok | (simp only [← HZ2.out, ← HZ1.out] <;> first | exact ok))
  have hd3 : decide ((a) < 0) = false := decide_eq_false (by have h0 := H0.out; have hb := HBS.out; have hr := HRS.out; first | exact ok | (simp only [← HZ2.out, ← HZ1.out] <;> first | exact ok))
  have HZ3 : Hid ((if true then -((u1 : Nat) : Int) else ((u1 : Nat) : Int)) = q) := Lib.hid (by have h0 := H0.out; have hb := HBS.out; have hr := HRS.out; rw [← HQ.out, ← HZ1.out]; exact dq false true (decide_eq_false (by omega)) (decide_eq_true (by omega)) (by omega) (.inl (by omega)))
  have su3 : tw (Int.natAbs (q)) ≤ 100000000 := by have e := HZ3.out; first | omega | (rw [← e]; split <;> simp <;> omega)
  have HZ4 : Hid ((if false then -((u2 : Nat) : Int) else ((u2 : Nat) : Int)) = r) := Lib.hid (by have h0 := H0.out; have hb := HBS.out; have hr := HRS.out; rw [← HR.out, ← HZ2.out]; exact dr false (decide_eq_false (by omega)) (by omega) (.inl (by omega)))
  have su4 : tw (Int.natAbs (r)) ≤ 100000000 := by have e := HZ4.out; first | omega | (rw [← e]; split <;> simp <;> omega)
  have lx23 := HF.out.c 2 rfl
  have lx24 := HF.out.c 3 rfl
  refine kS fun K hK => ?_
  have HG0 : Hid (Gr vw1 vw1) := Lib.hid (Gr.refl _)
  refine wp_region_plan 13 [11, 12] [] (fun i => if i = 11 then 8 else 9) (fun i => if i = 11 then .cells #[.bool false, .slice none 0 0] 45 else .cells #[.bool false, .slice none 0 0] 45) [(true, 0), (true, 1), (true, 2), (true, 3), (true, 4), (true, 5), (true, 7), (true, 8), (true, 9), (false, 6), (false, 10)] (by kernel_rfl) (by kernel_rfl) (by intro i hi; simp only [List.mem_cons, List.not_mem_nil, or_false] at hi; rcases hi with rfl | rfl <;> exact ⟨_, rfl, rfl, rfl, by simp, fun ρ w => by kernel_rfl⟩) (fun i hi => by cases hi) (fun _ _ _ _ _ h => h) (fun T hT => ?_)
  iterate 9 refine tk ?_
  refine wpPlan_callE rfl (by rfl) Tryz.call187 (by rfl) (fun w' hw => (zfrom_any true (u1) (q) _ _ HZ3.out (HF.out.r 6 rfl (HG0.out.trans hw))).mono ?_)
  rintro e vv30 ⟨⟨rv3, rfl, bx30⟩, hg0⟩
  obtain ⟨ao3, nn3, cc3, rfl⟩ := Rn.sl bx30
  refine ⟨_, rfl, hg0, ?_⟩
  replace hg0 := Gr.trans hw hg0; clear hw
  replace HG0 := Lib.hid (HG0.out.trans hg0)
  have HGS := Lib.hid hg0; clear hg0
  clear HGS
  have RN30 := Lib.hid bx30; clear bx30
  clear lx23; have lx23 := fun w' (h : Gr _ w') => HF.out.c 2 rfl w' (HG0.out.trans h)
  clear lx24; have lx24 := fun w' (h : Gr _ w') => HF.out.c 3 rfl w' (HG0.out.trans h)
  simp only [Act.put, lA, lB, lC]
  refine wpPlan_callE rfl (by rfl) Tryz.call187 (by rfl) (fun w' hw => (zfrom_any false (u2) (r) _ _ HZ4.out (HF.out.r 7 rfl (HG0.out.trans hw))).mono ?_)
  rintro e vv31 ⟨⟨rv4, rfl, bx31⟩, hg0⟩
  obtain ⟨ao4, nn4, cc4, rfl⟩ := Rn.sl bx31
  refine ⟨_, rfl, hg0, ?_⟩
  replace hg0 := Gr.trans hw hg0; clear hw
  replace HG0 := Lib.hid (HG0.out.trans hg0)
  have HGS := Lib.hid hg0; clear hg0
  replace RN30 := Lib.hid (RN30.out.gr HGS.out)
  clear HGS
  have RN31 := Lib.hid bx31; clear bx31
  clear lx23; have lx23 := fun w' (h : Gr _ w') => HF.out.c 2 rfl w' (HG0.out.trans h)
  clear lx24; have lx24 := fun w' (h : Gr _ w') => HF.out.c 3 rfl w' (HG0.out.trans h)
  simp only [Act.put, lA, lB, lC]
  refine wpPlan_nil (hT.out _ _ ?_)
  intro G vw2 hg hf
  simp only [puts, Act.put, lA, lB, lC, lD, lE, ↓reduceIte, Nat.reduceEqDiff]
  have HG := Lib.hid (((HF.out.fr (HG0.out.trans hg) hf (zs := [(#[.bool false, .slice none 0 0], 45), (#[.bool false, .slice none 0 0], 45)]) rfl (by decide) (by decide)).ar (RN30.out.gr hg)).ar (RN31.out.gr hg))
  simp only [zq1_, zq2_, zq3_, zq4_, lF, lG] at HG
  clear hT T HF hg hf HG0 RN30 RN31 lx23 lx24
  generalize G 11 = gx32 at *
  generalize G 12 = gx33 at *
  have lx32 := HG.out.c 8 rfl; have fx32 := HG.out.f 8 rfl
  have lx33 := HG.out.c 9 rfl; have fx33 := HG.out.f 9 rfl
  have r0 := Gr.refl vw2
  obtain ⟨d32_33, d33_32⟩ := HG.out.ne 8 9 rfl rfl (by decide)
  go_wp2
  refine kO hK ?_; clear hK K
  clear r0 lx32 fx32 lx33 fx33 d32_33 d33_32
  refine fH (((((((HG.out).put2 8 0 rfl).put2 9 0 rfl).er 7).er 6).er 2).er 0) fun Wx2 HF => ?_
  clear HG
  clear hd1 hd2 hd3
  refine wp_seq ?_
  have hd4 : ¬ (t < 0) := by have h0 := H0.out; have hb := HBS.out; have hr := HRS.out; first | exact ok | (simp only [← HZ2.out, ← HZ1.out] <;> first | exact ok)
  have lx24 := HF.out.c 1 rfl
  have lx33 := HF.out.c 5 rfl
  refine kS fun K hK => ?_
  refine sq 8 [(true, 0), (true, 1), (true, 2), (true, 3), (true, 4), (true, 5), (true, 6), (true, 7)] fun T hT => ?_
  refine tk ?_
  refine ck Tryz.call186 (fun w' hw => zrsign (r) (t) _ _ (HT_.out) (HF.out.r 7 rfl hw)) ?_
  iterate 2 refine tk ?_
  iterate 3 refine sk ?_
  refine tk ?_
  refine nlS hT HF fun vw3 HG => ?_
  clear hT T HF lx24 lx33
  go_wp2
  refine kO hK ?_; clear hK K
  have HF := HG; clear HG
  clear hd4
  refine wp_cond_false (by rfl) ?_
  refine wp_skip ?_
  show Code.wp _ _ _ _ _
  refine wp_seq ?_
  have hd5 : ¬ (t < 0) := by have h0 := H0.out; have hb := HBS.out; have hr := HRS.out; first | exact ok | (simp only [← HZ2.out, ← HZ1.out] <;> first | exact ok)
  have lx33 := HF.out.c 5 rfl
  refine kS fun K hK => ?_
  refine sq 3 [(true, 0), (true, 1), (true, 2)] fun T hT => ?_
  refine tk ?_
  refine ck Tryz.call186 (fun w' hw => zrsign (r) (t) _ _ (HT_.out) (HF.out.r 7 rfl hw)) ?_
  refine tk ?_
  refine nlS hT HF fun vw4 HG => ?_
  clear hT T HF lx33
  go_wp2
  refine kO hK ?_; clear hK K
  have HF := HG; clear HG
  clear hd5
  refine wp_cond_false (by rfl) ?_
  refine wp_skip ?_
  show Code.wp _ _ _ _ _
  have lx25 := HF.out.c 2 rfl; have fx25 := HF.out.f 2 rfl
  have lx26 := HF.out.c 3 rfl; have fx26 := HF.out.f 3 rfl
  have lx32 := HF.out.c 4 rfl; have fx32 := HF.out.f 4 rfl
  have lx33 := HF.out.c 5 rfl; have fx33 := HF.out.f 5 rfl
  have r0 := Gr.refl vw4
  obtain ⟨d25_26, d26_25⟩ := HF.out.ne 2 3 rfl rfl (by decide)
  obtain ⟨d25_32, d32_25⟩ := HF.out.ne 2 4 rfl rfl (by decide)
  obtain ⟨d25_33, d33_25⟩ := HF.out.ne 2 5 rfl rfl (by decide)
  obtain ⟨d26_32, d32_26⟩ := HF.out.ne 3 4 rfl rfl (by decide)
  obtain ⟨d26_33, d33_26⟩ := HF.out.ne 3 5 rfl rfl (by decide)
  obtain ⟨d32_33, d33_32⟩ := HF.out.ne 4 5 rfl rfl (by decide)
  refine kS fun K hK => ?_
  go_region
  go_wp2
  refine kO hK ?_; clear hK K
  clear r0 lx25 fx25 lx26 fx26 lx32 fx32 lx33 fx33 d25_26 d26_25 d25_32 d32_25 d25_33 d33_25 d26_32 d32_26 d26_33 d33_26 d32_33 d33_32
  refine fH ((((((((HF.out).put2 2 0 rfl).put2 3 0 rfl).er 5).er 4).er 1).er 0).gr ((Below.refl _ _).drew)) fun Wx7 HG => ?_
  clear HF; have HF := HG; clear HG
  refine wp_ret ?_
  try simp only [Exit.then, Exit.inBlock]
  have lx25 := HF.out.c 0 rfl
  have lx26 := HF.out.c 1 rfl
  have r0 := Gr.refl Wx7
  exact bodyPost_ret (v := .tuple #[(.agg #[.bool (decide ((q) < 0)), (.slice ao3 nn3 cc3)]), (.agg #[.bool (decide ((r) < 0)), (.slice ao4 nn4 cc4)])]) (by simp [results, Tryz.results209, go_sem, lx25 _ r0, lx26 _ r0]) rfl ⟨⟨(.slice ao3 nn3 cc3), (.slice ao4 nn4 cc4), rfl, (HF.out.rn 2 rfl), (HF.out.rn 3 rfl)⟩, HF.out.1⟩
set_option maxRecDepth 20000 in
set_option maxHeartbeats 4000000 in
theorem zdiv_zp (a b q r t : Int) (va vb : Value) (w : World) (HQ : Hid (a / b = q)) (HR : Hid (a % b = r)) (HBS : Hid (0 < b)) (H0 : Hid (a < 0)) (HM : Hid (a.natAbs % b.natAbs = 0)) (HT_ : Hid (sgI r = t)) (ht : ¬ t < 0) (HRS : Hid (0 ≤ r)) (hs_a : tw (Int.natAbs a) ≤ 100000000) (hs_b : tw (Int.natAbs b) ≤ 100000000) (bx21 : Rn w va (Int.natAbs (a))) (bx22 : Rn w vb (Int.natAbs (b))) :
    Calls Tryz.prog 209 #[(Value.agg #[.bool (decide ((a) < 0)), va]), (Value.agg #[.bool (decide ((b) < 0)), vb])] w fun e w' => (∃ r1 r2 : Value, e = .returned (.tuple #[(.agg #[.bool (decide ((q) < 0)), r1]), (.agg #[.bool (decide ((r) < 0)), r2])]) ∧ Rn w' r1 (Int.natAbs (q)) ∧ Rn w' r2 (Int.natAbs (r))) ∧ Below w.heap.size w w' := by
  obtain ⟨ao_va, n_va, c_va, rfl⟩ := Rn.sl bx21
  obtain ⟨ao_vb, n_vb, c_vb, rfl⟩ := Rn.sl bx22
  go_enter Tryz.func209, Tryz.ntmps209
  have HF := Lib.hid (hp0 w)
  replace HF := Lib.hid ((HF.out.ar bx21).ar bx22)
  simp only [lF, lG] at HF
  clear bx21 bx22
  refine kS fun K hK => ?_
  refine wp_region_lit ?_
  go_wp2
  refine kO hK ?_; clear hK K
  refine fH (((((HF.out).aL (w.heap.size)).aL (w.heap.size + 1)).aL (w.heap.size + 1 + 1)).aL (w.heap.size + 1 + 1 + 1)) fun Wx0 HG => ?_
  clear HF; have HF := HG; clear HG
  generalize w.heap.size + 1 + 1 + 1 = gx26 at *
  generalize w.heap.size + 1 + 1 = gx25 at *
  generalize w.heap.size + 1 = gx24 at *
  obtain ⟨u1, HZ1⟩ : ∃ z, Hid ((Int.natAbs (a)) / (Int.natAbs (b)) = z) := ⟨_, Lib.hid rfl⟩
  have su1 : tw (u1) ≤ 100000000 := by rw [← HZ1.out]; have := tw_div (Int.natAbs (a)) (Int.natAbs (b)); omega
  have HZ2 : Hid ((Int.natAbs (a)) % (Int.natAbs (b)) = 0) := Lib.hid (HM.out)
  have su2 : tw (0) ≤ 100000000 := by have e := HZ2.out; first | omega | (rw [← e]; have := tw_mod (Int.natAbs (a)) (Int.natAbs (b)); omega) | exact tw_le.2 (by decide +kernel)
  have lx23 := HF.out.c 2 rfl
  have lx24 := HF.out.c 3 rfl
  refine kS fun K hK => ?_
  have HG0 : Hid (Gr Wx0 Wx0) := Lib.hid (Gr.refl _)
  refine sq 10 [(true, 0), (true, 1), (true, 2), (true, 3), (false, 4), (true, 5), (true, 6), (true, 7), (true, 8), (true, 9)] fun T hT => ?_
  iterate 4 refine tk ?_
  refine wpPlan_callE rfl (by rfl) Tryz.call174 (by rfl) (fun w' hw => (zrdiv _ _ (Int.natAbs (a)) (Int.natAbs (b)) (u1) (0) _ HZ1.out HZ2.out (HF.out.r 0 rfl (HG0.out.trans hw)) (HF.out.r 1 rfl (HG0.out.trans hw)) (by have h0 := H0.out; have hb := HBS.out; have hr := HRS.out; first | exact ok | (simp only [← HZ1.out] <;> first | exact ok)) (by omega) (by omega)).mono ?_)
  rintro e vv28 ⟨⟨rv1, rv2, rfl, bx28, bx29⟩, hg0⟩
  obtain ⟨ao1, nn1, cc1, rfl⟩ := Rn.sl bx28
  obtain ⟨ao2, nn2, cc2, rfl⟩ := Rn.sl bx29
  refine ⟨_, rfl, hg0, ?_⟩
  replace hg0 := Gr.trans hw hg0; clear hw
  replace HG0 := Lib.hid (HG0.out.trans hg0)
  have HGS := Lib.hid hg0; clear hg0
  clear HGS
  have RN28 := Lib.hid bx28; clear bx28
  have RN29 := Lib.hid bx29; clear bx29
  clear lx23; have lx23 := fun w' (h : Gr _ w') => HF.out.c 2 rfl w' (HG0.out.trans h)
  clear lx24; have lx24 := fun w' (h : Gr _ w') => HF.out.c 3 rfl w' (HG0.out.trans h)
  simp only [Act.put, lA, lB, lC]
  iterate 5 refine tk ?_
  refine wpPlan_nil (hT.out _ _ ?_)
  intro vw1 hg
  simp only [puts, Act.put, lA, lB, lC, lD, lE, ↓reduceIte, Nat.reduceEqDiff]
  have HG := Lib.hid (((HF.out.gr (HG0.out.trans hg)).ar (RN28.out.gr hg)).ar (RN29.out.gr hg))
  simp only [zq1_, zq2_, zq3_, zq4_, lF, lG] at HG
  clear hT T HF hg HG0 RN28 RN29 lx23 lx24
  go_wp2
  refine kO hK ?_; clear hK K
  have HF := HG; clear HG
  have hd1 : decide ((a) < 0) = true := decide_eq_true (by have h0 := H0.out; have hb := HBS.out; have hr := HRS.out; first | exact ok | (simp only [← HZ1.out] <;> first | exact ok))
  have hd2 : decide ((b) < 0) = false := decide_eq_false (by have h0 := H0.out; have hb := HBS.out; have hr := HRS.out; first | exact ok | (simp only [← HZ1.out] <;> first | exact ok))
  have hd3 : decide ((a) < 0) = true := decide_eq_true (by have h0 := H0.out; have hb := HBS.out; have hr := HRS.out; first | exact ok | (simp only [← HZ1.out] <;> first | exact ok))
  have HZ3 : Hid ((if true then -((u1 : Nat) : Int) else ((u1 : Nat) : Int)) = q) := Lib.hid (by have h0 := H0.out; have hb := HBS.out; have hr := HRS.out; rw [← HQ.out, ← HZ1.out]; exact dq true false (decide_eq_true (by omega)) (decide_eq_false (by omega)) (by omega) (.inr HM.out))
  have su3 : tw (Int.natAbs (q)) ≤ 100000000 := by have e := HZ3.out; first | omega | (rw [← e]; split <;> simp <;> omega)
  have HZ4 : Hid ((if true then -((0 : Nat) : Int) else ((0 : Nat) : Int)) = r) := Lib.hid (by have h0 := H0.out; have hb := HBS.out; have hr := HRS.out; rw [← HR.out]; have e9 := dr (a := a) (b := b) true (decide_eq_true (by omega)) (by omega) (.inr HM.out); rw [HM.out] at e9; exact e9)
  have su4 : tw (Int.natAbs (r)) ≤ 100000000 := by have e := HZ4.out; first | omega | (rw [← e]; split <;> simp <;> omega)
  have lx23 := HF.out.c 2 rfl
  have lx24 := HF.out.c 3 rfl
  refine kS fun K hK => ?_
  have HG0 : Hid (Gr vw1 vw1) := Lib.hid (Gr.refl _)
  refine wp_region_plan 13 [11, 12] [] (fun i => if i = 11 then 8 else 9) (fun i => if i = 11 then .cells #[.bool false, .slice none 0 0] 45 else .cells #[.bool false, .slice none 0 0] 45) [(true, 0), (true, 1), (true, 2), (true, 3), (true, 4), (true, 5), (true, 7), (true, 8), (true, 9), (false, 6), (false, 10)] (by kernel_rfl) (by kernel_rfl) (by intro i hi; simp only [List.mem_cons, List.not_mem_nil, or_false] at hi; rcases hi with rfl | rfl <;> exact ⟨_, rfl, rfl, rfl, by simp, fun ρ w => by kernel_rfl⟩) (fun i hi => by cases hi) (fun _ _ _ _ _ h => h) (fun T hT => ?_)
  iterate 9 refine tk ?_
  refine wpPlan_callE rfl (by rfl) Tryz.call187 (by rfl) (fun w' hw => (zfrom_any true (u1) (q) _ _ HZ3.out (HF.out.r 6 rfl (HG0.out.trans hw))).mono ?_)
  rintro e vv30 ⟨⟨rv3, rfl, bx30⟩, hg0⟩
  obtain ⟨ao3, nn3, cc3, rfl⟩ := Rn.sl bx30
  refine ⟨_, rfl, hg0, ?_⟩
  replace hg0 := Gr.trans hw hg0; clear hw
  replace HG0 := Lib.hid (HG0.out.trans hg0)
  have HGS := Lib.hid hg0; clear hg0
  clear HGS
  have RN30 := Lib.hid bx30; clear bx30
  clear lx23; have lx23 := fun w' (h : Gr _ w') => HF.out.c 2 rfl w' (HG0.out.trans h)
  clear lx24; have lx24 := fun w' (h : Gr _ w') => HF.out.c 3 rfl w' (HG0.out.trans h)
  simp only [Act.put, lA, lB, lC]
  refine wpPlan_callE rfl (by rfl) Tryz.call187 (by rfl) (fun w' hw => (zfrom_any true (0) (r) _ _ HZ4.out (HF.out.r 7 rfl (HG0.out.trans hw))).mono ?_)
  rintro e vv31 ⟨⟨rv4, rfl, bx31⟩, hg0⟩
  obtain ⟨ao4, nn4, cc4, rfl⟩ := Rn.sl bx31
  refine ⟨_, rfl, hg0, ?_⟩
  replace hg0 := Gr.trans hw hg0; clear hw
  replace HG0 := Lib.hid (HG0.out.trans hg0)
  have HGS := Lib.hid hg0; clear hg0
  replace RN30 := Lib.hid (RN30.out.gr HGS.out)
  clear HGS
  have RN31 := Lib.hid bx31; clear bx31
  clear lx23; have lx23 := fun w' (h : Gr _ w') => HF.out.c 2 rfl w' (HG0.out.trans h)
  clear lx24; have lx24 := fun w' (h : Gr _ w') => HF.out.c 3 rfl w' (HG0.out.trans h)
  simp only [Act.put, lA, lB, lC]
  refine wpPlan_nil (hT.out _ _ ?_)
  intro G vw2 hg hf
  simp only [puts, Act.put, lA, lB, lC, lD, lE, ↓reduceIte, Nat.reduceEqDiff]
  have HG := Lib.hid (((HF.out.fr (HG0.out.trans hg) hf (zs := [(#[.bool false, .slice none 0 0], 45), (#[.bool false, .slice none 0 0], 45)]) rfl (by decide) (by decide)).ar (RN30.out.gr hg)).ar (RN31.out.gr hg))
  simp only [zq1_, zq2_, zq3_, zq4_, lF, lG] at HG
  clear hT T HF hg hf HG0 RN30 RN31 lx23 lx24
  generalize G 11 = gx32 at *
  generalize G 12 = gx33 at *
  have lx32 := HG.out.c 8 rfl; have fx32 := HG.out.f 8 rfl
  have lx33 := HG.out.c 9 rfl; have fx33 := HG.out.f 9 rfl
  have r0 := Gr.refl vw2
  obtain ⟨d32_33, d33_32⟩ := HG.out.ne 8 9 rfl rfl (by decide)
  go_wp2
  refine kO hK ?_; clear hK K
  clear r0 lx32 fx32 lx33 fx33 d32_33 d33_32
  refine fH (((((((HG.out).put2 8 0 rfl).put2 9 0 rfl).er 7).er 6).er 2).er 0) fun Wx2 HF => ?_
  clear HG
  clear hd1 hd2 hd3
  refine wp_seq ?_
  have hd4 : ¬ (t < 0) := by have h0 := H0.out; have hb := HBS.out; have hr := HRS.out; first | exact ok | (simp only [← HZ1.out] <;> first | exact ok)
  have lx24 := HF.out.c 1 rfl
  have lx33 := HF.out.c 5 rfl
  refine kS fun K hK => ?_
  refine sq 8 [(true, 0), (true, 1), (true, 2), (true, 3), (true, 4), (true, 5), (true, 6), (true, 7)] fun T hT => ?_
  refine tk ?_
  refine ck Tryz.call186 (fun w' hw => zrsign (r) (t) _ _ (HT_.out) (HF.out.r 7 rfl hw)) ?_
  iterate 2 refine tk ?_
  iterate 3 refine sk ?_
  refine tk ?_
  refine nlS hT HF fun vw3 HG => ?_
  clear hT T HF lx24 lx33
  go_wp2
  refine kO hK ?_; clear hK K
  have HF := HG; clear HG
  clear hd4
  refine wp_cond_false (by rfl) ?_
  refine wp_skip ?_
  show Code.wp _ _ _ _ _
  refine wp_seq ?_
  have hd5 : ¬ (t < 0) := by have h0 := H0.out; have hb := HBS.out; have hr := HRS.out; first | exact ok | (simp only [← HZ1.out] <;> first | exact ok)
  have lx33 := HF.out.c 5 rfl
  refine kS fun K hK => ?_
  refine sq 3 [(true, 0), (true, 1), (true, 2)] fun T hT => ?_
  refine tk ?_
  refine ck Tryz.call186 (fun w' hw => zrsign (r) (t) _ _ (HT_.out) (HF.out.r 7 rfl hw)) ?_
  refine tk ?_
  refine nlS hT HF fun vw4 HG => ?_
  clear hT T HF lx33
  go_wp2
  refine kO hK ?_; clear hK K
  have HF := HG; clear HG
  clear hd5
  refine wp_cond_false (by rfl) ?_
  refine wp_skip ?_
  show Code.wp _ _ _ _ _
  have lx25 := HF.out.c 2 rfl; have fx25 := HF.out.f 2 rfl
  have lx26 := HF.out.c 3 rfl; have fx26 := HF.out.f 3 rfl
  have lx32 := HF.out.c 4 rfl; have fx32 := HF.out.f 4 rfl
  have lx33 := HF.out.c 5 rfl; have fx33 := HF.out.f 5 rfl
  have r0 := Gr.refl vw4
  obtain ⟨d25_26, d26_25⟩ := HF.out.ne 2 3 rfl rfl (by decide)
  obtain ⟨d25_32, d32_25⟩ := HF.out.ne 2 4 rfl rfl (by decide)
  obtain ⟨d25_33, d33_25⟩ := HF.out.ne 2 5 rfl rfl (by decide)
  obtain ⟨d26_32, d32_26⟩ := HF.out.ne 3 4 rfl rfl (by decide)
  obtain ⟨d26_33, d33_26⟩ := HF.out.ne 3 5 rfl rfl (by decide)
  obtain ⟨d32_33, d33_32⟩ := HF.out.ne 4 5 rfl rfl (by decide)
  refine kS fun K hK => ?_
  go_region
  go_wp2
  refine kO hK ?_; clear hK K
  clear r0 lx25 fx25 lx26 fx26 lx32 fx32 lx33 fx33 d25_26 d26_25 d25_32 d32_25 d25_33 d33_25 d26_32 d32_26 d26_33 d33_26 d32_33 d33_32
  refine fH ((((((((HF.out).put2 2 0 rfl).put2 3 0 rfl).er 5).er 4).er 1).er 0).gr ((Below.refl _ _).drew)) fun Wx7 HG => ?_
  clear HF; have HF := HG; clear HG
  refine wp_ret ?_
  try simp only [Exit.then, Exit.inBlock]
  have lx25 := HF.out.c 0 rfl
  have lx26 := HF.out.c 1 rfl
  have r0 := Gr.refl Wx7
  exact bodyPost_ret (v := .tuple #[(.agg #[.bool (decide ((q) < 0)), (.slice ao3 nn3 cc3)]), (.agg #[.bool (decide ((r) < 0)), (.slice ao4 nn4 cc4)])]) (by simp [results, Tryz.results209, go_sem, lx25 _ r0, lx26 _ r0]) rfl ⟨⟨(.slice ao3 nn3 cc3), (.slice ao4 nn4 cc4), rfl, (HF.out.rn 2 rfl), (HF.out.rn 3 rfl)⟩, HF.out.1⟩
set_option maxRecDepth 20000 in
set_option maxHeartbeats 4000000 in
theorem zdiv_zn (a b q r t : Int) (va vb : Value) (w : World) (HQ : Hid (a / b = q)) (HR : Hid (a % b = r)) (HBS : Hid (b < 0)) (H0 : Hid (a < 0)) (HM : Hid (a.natAbs % b.natAbs = 0)) (HT_ : Hid (sgI r = t)) (ht : ¬ t < 0) (HRS : Hid (0 ≤ r)) (hs_a : tw (Int.natAbs a) ≤ 100000000) (hs_b : tw (Int.natAbs b) ≤ 100000000) (bx21 : Rn w va (Int.natAbs (a))) (bx22 : Rn w vb (Int.natAbs (b))) :
    Calls Tryz.prog 209 #[(Value.agg #[.bool (decide ((a) < 0)), va]), (Value.agg #[.bool (decide ((b) < 0)), vb])] w fun e w' => (∃ r1 r2 : Value, e = .returned (.tuple #[(.agg #[.bool (decide ((q) < 0)), r1]), (.agg #[.bool (decide ((r) < 0)), r2])]) ∧ Rn w' r1 (Int.natAbs (q)) ∧ Rn w' r2 (Int.natAbs (r))) ∧ Below w.heap.size w w' := by
  obtain ⟨ao_va, n_va, c_va, rfl⟩ := Rn.sl bx21
  obtain ⟨ao_vb, n_vb, c_vb, rfl⟩ := Rn.sl bx22
  go_enter Tryz.func209, Tryz.ntmps209
  have HF := Lib.hid (hp0 w)
  replace HF := Lib.hid ((HF.out.ar bx21).ar bx22)
  simp only [lF, lG] at HF
  clear bx21 bx22
  refine kS fun K hK => ?_
  refine wp_region_lit ?_
  go_wp2
  refine kO hK ?_; clear hK K
  refine fH (((((HF.out).aL (w.heap.size)).aL (w.heap.size + 1)).aL (w.heap.size + 1 + 1)).aL (w.heap.size + 1 + 1 + 1)) fun Wx0 HG => ?_
  clear HF; have HF := HG; clear HG
  generalize w.heap.size + 1 + 1 + 1 = gx26 at *
  generalize w.heap.size + 1 + 1 = gx25 at *
  generalize w.heap.size + 1 = gx24 at *
  obtain ⟨u1, HZ1⟩ : ∃ z, Hid ((Int.natAbs (a)) / (Int.natAbs (b)) = z) := ⟨_, Lib.hid rfl⟩
  have su1 : tw (u1) ≤ 100000000 := by rw [← HZ1.out]; have := tw_div (Int.natAbs (a)) (Int.natAbs (b)); omega
  have HZ2 : Hid ((Int.natAbs (a)) % (Int.natAbs (b)) = 0) := Lib.hid (HM.out)
  have su2 : tw (0) ≤ 100000000 := by have e := HZ2.out; first | omega | (rw [← e]; have := tw_mod (Int.natAbs (a)) (Int.natAbs (b)); omega) | exact tw_le.2 (by decide +kernel)
  have lx23 := HF.out.c 2 rfl
  have lx24 := HF.out.c 3 rfl
  refine kS fun K hK => ?_
  have HG0 : Hid (Gr Wx0 Wx0) := Lib.hid (Gr.refl _)
  refine sq 10 [(true, 0), (true, 1), (true, 2), (true, 3), (false, 4), (true, 5), (true, 6), (true, 7), (true, 8), (true, 9)] fun T hT => ?_
  iterate 4 refine tk ?_
  refine wpPlan_callE rfl (by rfl) Tryz.call174 (by rfl) (fun w' hw => (zrdiv _ _ (Int.natAbs (a)) (Int.natAbs (b)) (u1) (0) _ HZ1.out HZ2.out (HF.out.r 0 rfl (HG0.out.trans hw)) (HF.out.r 1 rfl (HG0.out.trans hw)) (by have h0 := H0.out; have hb := HBS.out; have hr := HRS.out; first | exact ok | (simp only [← HZ1.out] <;> first | exact ok)) (by omega) (by omega)).mono ?_)
  rintro e vv28 ⟨⟨rv1, rv2, rfl, bx28, bx29⟩, hg0⟩
  obtain ⟨ao1, nn1, cc1, rfl⟩ := Rn.sl bx28
  obtain ⟨ao2, nn2, cc2, rfl⟩ := Rn.sl bx29
  refine ⟨_, rfl, hg0, ?_⟩
  replace hg0 := Gr.trans hw hg0; clear hw
  replace HG0 := Lib.hid (HG0.out.trans hg0)
  have HGS := Lib.hid hg0; clear hg0
  clear HGS
  have RN28 := Lib.hid bx28; clear bx28
  have RN29 := Lib.hid bx29; clear bx29
  clear lx23; have lx23 := fun w' (h : Gr _ w') => HF.out.c 2 rfl w' (HG0.out.trans h)
  clear lx24; have lx24 := fun w' (h : Gr _ w') => HF.out.c 3 rfl w' (HG0.out.trans h)
  simp only [Act.put, lA, lB, lC]
  iterate 5 refine tk ?_
  refine wpPlan_nil (hT.out _ _ ?_)
  intro vw1 hg
  simp only [puts, Act.put, lA, lB, lC, lD, lE, ↓reduceIte, Nat.reduceEqDiff]
  have HG := Lib.hid (((HF.out.gr (HG0.out.trans hg)).ar (RN28.out.gr hg)).ar (RN29.out.gr hg))
  simp only [zq1_, zq2_, zq3_, zq4_, lF, lG] at HG
  clear hT T HF hg HG0 RN28 RN29 lx23 lx24
  go_wp2
  refine kO hK ?_; clear hK K
  have HF := HG; clear HG
  have hd1 : decide ((a) < 0) = true := decide_eq_true (by have h0 := H0.out; have hb := HBS.out; have hr := HRS.out; first | exact ok | (simp only [← HZ1.out] <;> first | exact ok))
  have hd2 : decide ((b) < 0) = true := decide_eq_true (by have h0 := H0.out; have hb := HBS.out; have hr := HRS.out; first | exact ok | (simp only [← HZ1.out] <;> first | exact ok))
  have hd3 : decide ((a) < 0) = true := decide_eq_true (by have h0 := H0.out; have hb := HBS.out; have hr := HRS.out; first | exact ok | (simp only [← HZ1.out] <;> first | exact ok))
  have HZ3 : Hid ((if false then -((u1 : Nat) : Int) else ((u1 : Nat) : Int)) = q) := Lib.hid (by have h0 := H0.out; have hb := HBS.out; have hr := HRS.out; rw [← HQ.out, ← HZ1.out]; exact dq true true (decide_eq_true (by omega)) (decide_eq_true (by omega)) (by omega) (.inr HM.out))
  have su3 : tw (Int.natAbs (q)) ≤ 100000000 := by have e := HZ3.out; first | omega | (rw [← e]; split <;> simp <;> omega)
  have HZ4 : Hid ((if true then -((0 : Nat) : Int) else ((0 : Nat) : Int)) = r) := Lib.hid (by have h0 := H0.out; have hb := HBS.out; have hr := HRS.out; rw [← HR.out]; have e9 := dr (a := a) (b := b) true (decide_eq_true (by omega)) (by omega) (.inr HM.out); rw [HM.out] at e9; exact e9)
  have su4 : tw (Int.natAbs (r)) ≤ 100000000 := by have e := HZ4.out; first | omega | (rw [← e]; split <;> simp <;> omega)
  have lx23 := HF.out.c 2 rfl
  have lx24 := HF.out.c 3 rfl
  refine kS fun K hK => ?_
  have HG0 : Hid (Gr vw1 vw1) := Lib.hid (Gr.refl _)
  refine wp_region_plan 13 [11, 12] [] (fun i => if i = 11 then 8 else 9) (fun i => if i = 11 then .cells #[.bool false, .slice none 0 0] 45 else .cells #[.bool false, .slice none 0 0] 45) [(true, 0), (true, 1), (true, 2), (true, 3), (true, 4), (true, 5), (true, 7), (true, 8), (true, 9), (false, 6), (false, 10)] (by kernel_rfl) (by kernel_rfl) (by intro i hi; simp only [List.mem_cons, List.not_mem_nil, or_false] at hi; rcases hi with rfl | rfl <;> exact ⟨_, rfl, rfl, rfl, by simp, fun ρ w => by kernel_rfl⟩) (fun i hi => by cases hi) (fun _ _ _ _ _ h => h) (fun T hT => ?_)
  iterate 9 refine tk ?_
  refine wpPlan_callE rfl (by rfl) Tryz.call187 (by rfl) (fun w' hw => (zfrom_any false (u1) (q) _ _ HZ3.out (HF.out.r 6 rfl (HG0.out.trans hw))).mono ?_)
  rintro e vv30 ⟨⟨rv3, rfl, bx30⟩, hg0⟩
  obtain ⟨ao3, nn3, cc3, rfl⟩ := Rn.sl bx30
  refine ⟨_, rfl, hg0, ?_⟩
  replace hg0 := Gr.trans hw hg0; clear hw
  replace HG0 := Lib.hid (HG0.out.trans hg0)
  have HGS := Lib.hid hg0; clear hg0
  clear HGS
  have RN30 := Lib.hid bx30; clear bx30
  clear lx23; have lx23 := fun w' (h : Gr _ w') => HF.out.c 2 rfl w' (HG0.out.trans h)
  clear lx24; have lx24 := fun w' (h : Gr _ w') => HF.out.c 3 rfl w' (HG0.out.trans h)
  simp only [Act.put, lA, lB, lC]
  refine wpPlan_callE rfl (by rfl) Tryz.call187 (by rfl) (fun w' hw => (zfrom_any true (0) (r) _ _ HZ4.out (HF.out.r 7 rfl (HG0.out.trans hw))).mono ?_)
  rintro e vv31 ⟨⟨rv4, rfl, bx31⟩, hg0⟩
  obtain ⟨ao4, nn4, cc4, rfl⟩ := Rn.sl bx31
  refine ⟨_, rfl, hg0, ?_⟩
  replace hg0 := Gr.trans hw hg0; clear hw
  replace HG0 := Lib.hid (HG0.out.trans hg0)
  have HGS := Lib.hid hg0; clear hg0
  replace RN30 := Lib.hid (RN30.out.gr HGS.out)
  clear HGS
  have RN31 := Lib.hid bx31; clear bx31
  clear lx23; have lx23 := fun w' (h : Gr _ w') => HF.out.c 2 rfl w' (HG0.out.trans h)
  clear lx24; have lx24 := fun w' (h : Gr _ w') => HF.out.c 3 rfl w' (HG0.out.trans h)
  simp only [Act.put, lA, lB, lC]
  refine wpPlan_nil (hT.out _ _ ?_)
  intro G vw2 hg hf
  simp only [puts, Act.put, lA, lB, lC, lD, lE, ↓reduceIte, Nat.reduceEqDiff]
  have HG := Lib.hid (((HF.out.fr (HG0.out.trans hg) hf (zs := [(#[.bool false, .slice none 0 0], 45), (#[.bool false, .slice none 0 0], 45)]) rfl (by decide) (by decide)).ar (RN30.out.gr hg)).ar (RN31.out.gr hg))
  simp only [zq1_, zq2_, zq3_, zq4_, lF, lG] at HG
  clear hT T HF hg hf HG0 RN30 RN31 lx23 lx24
  generalize G 11 = gx32 at *
  generalize G 12 = gx33 at *
  have lx32 := HG.out.c 8 rfl; have fx32 := HG.out.f 8 rfl
  have lx33 := HG.out.c 9 rfl; have fx33 := HG.out.f 9 rfl
  have r0 := Gr.refl vw2
  obtain ⟨d32_33, d33_32⟩ := HG.out.ne 8 9 rfl rfl (by decide)
  go_wp2
  refine kO hK ?_; clear hK K
  clear r0 lx32 fx32 lx33 fx33 d32_33 d33_32
  refine fH (((((((HG.out).put2 8 0 rfl).put2 9 0 rfl).er 7).er 6).er 2).er 0) fun Wx2 HF => ?_
  clear HG
  clear hd1 hd2 hd3
  refine wp_seq ?_
  have hd4 : ¬ (t < 0) := by have h0 := H0.out; have hb := HBS.out; have hr := HRS.out; first | exact ok | (simp only [← HZ1.out] <;> first | exact ok)
  have lx24 := HF.out.c 1 rfl
  have lx33 := HF.out.c 5 rfl
  refine kS fun K hK => ?_
  refine sq 8 [(true, 0), (true, 1), (true, 2), (true, 3), (true, 4), (true, 5), (true, 6), (true, 7)] fun T hT => ?_
  refine tk ?_
  refine ck Tryz.call186 (fun w' hw => zrsign (r) (t) _ _ (HT_.out) (HF.out.r 7 rfl hw)) ?_
  iterate 2 refine tk ?_
  iterate 3 refine sk ?_
  refine tk ?_
  refine nlS hT HF fun vw3 HG => ?_
  clear hT T HF lx24 lx33
  go_wp2
  refine kO hK ?_; clear hK K
  have HF := HG; clear HG
  clear hd4
  refine wp_cond_false (by rfl) ?_
  refine wp_skip ?_
  show Code.wp _ _ _ _ _
  refine wp_seq ?_
  have hd5 : ¬ (t < 0) := by have h0 := H0.out; have hb := HBS.out; have hr := HRS.out; first | exact ok | (simp only [← HZ1.out] <;> first | exact ok)
  have lx33 := HF.out.c 5 rfl
  refine kS fun K hK => ?_
  refine sq 3 [(true, 0), (true, 1), (true, 2)] fun T hT => ?_
  refine tk ?_
  refine ck Tryz.call186 (fun w' hw => zrsign (r) (t) _ _ (HT_.out) (HF.out.r 7 rfl hw)) ?_
  refine tk ?_
  refine nlS hT HF fun vw4 HG => ?_
  clear hT T HF lx33
  go_wp2
  refine kO hK ?_; clear hK K
  have HF := HG; clear HG
  clear hd5
  refine wp_cond_false (by rfl) ?_
  refine wp_skip ?_
  show Code.wp _ _ _ _ _
  have lx25 := HF.out.c 2 rfl; have fx25 := HF.out.f 2 rfl
  have lx26 := HF.out.c 3 rfl; have fx26 := HF.out.f 3 rfl
  have lx32 := HF.out.c 4 rfl; have fx32 := HF.out.f 4 rfl
  have lx33 := HF.out.c 5 rfl; have fx33 := HF.out.f 5 rfl
  have r0 := Gr.refl vw4
  obtain ⟨d25_26, d26_25⟩ := HF.out.ne 2 3 rfl rfl (by decide)
  obtain ⟨d25_32, d32_25⟩ := HF.out.ne 2 4 rfl rfl (by decide)
  obtain ⟨d25_33, d33_25⟩ := HF.out.ne 2 5 rfl rfl (by decide)
  obtain ⟨d26_32, d32_26⟩ := HF.out.ne 3 4 rfl rfl (by decide)
  obtain ⟨d26_33, d33_26⟩ := HF.out.ne 3 5 rfl rfl (by decide)
  obtain ⟨d32_33, d33_32⟩ := HF.out.ne 4 5 rfl rfl (by decide)
  refine kS fun K hK => ?_
  go_region
  go_wp2
  refine kO hK ?_; clear hK K
  clear r0 lx25 fx25 lx26 fx26 lx32 fx32 lx33 fx33 d25_26 d26_25 d25_32 d32_25 d25_33 d33_25 d26_32 d32_26 d26_33 d33_26 d32_33 d33_32
  refine fH ((((((((HF.out).put2 2 0 rfl).put2 3 0 rfl).er 5).er 4).er 1).er 0).gr ((Below.refl _ _).drew)) fun Wx7 HG => ?_
  clear HF; have HF := HG; clear HG
  refine wp_ret ?_
  try simp only [Exit.then, Exit.inBlock]
  have lx25 := HF.out.c 0 rfl
  have lx26 := HF.out.c 1 rfl
  have r0 := Gr.refl Wx7
  exact bodyPost_ret (v := .tuple #[(.agg #[.bool (decide ((q) < 0)), (.slice ao3 nn3 cc3)]), (.agg #[.bool (decide ((r) < 0)), (.slice ao4 nn4 cc4)])]) (by simp [results, Tryz.results209, go_sem, lx25 _ r0, lx26 _ r0]) rfl ⟨⟨(.slice ao3 nn3 cc3), (.slice ao4 nn4 cc4), rfl, (HF.out.rn 2 rfl), (HF.out.rn 3 rfl)⟩, HF.out.1⟩
set_option maxRecDepth 20000 in
set_option maxHeartbeats 4000000 in
theorem zdiv_np (a b q r m : Int) (va vb : Value) (w : World) (HQ : Hid (a / b = q)) (HR : Hid (a % b = r)) (HBS : Hid (0 < b)) (H0 : Hid (a < 0)) (HM : Hid (-((a.natAbs % b.natAbs : Nat) : Int) = m)) (HMS : Hid (m < 0)) (HN : Hid (a.natAbs % b.natAbs ≠ 0)) (HRS : Hid (0 ≤ r)) (hs_a : tw (Int.natAbs a) ≤ 100000000) (hs_b : tw (Int.natAbs b) ≤ 100000000) (bx21 : Rn w va (Int.natAbs (a))) (bx22 : Rn w vb (Int.natAbs (b))) :
    Calls Tryz.prog 209 #[(Value.agg #[.bool (decide ((a) < 0)), va]), (Value.agg #[.bool (decide ((b) < 0)), vb])] w fun e w' => (∃ r1 r2 : Value, e = .returned (.tuple #[(.agg #[.bool (decide ((q) < 0)), r1]), (.agg #[.bool (decide ((r) < 0)), r2])]) ∧ Rn w' r1 (Int.natAbs (q)) ∧ Rn w' r2 (Int.natAbs (r))) ∧ Below w.heap.size w w' := by
  obtain ⟨ao_va, n_va, c_va, rfl⟩ := Rn.sl bx21
  obtain ⟨ao_vb, n_vb, c_vb, rfl⟩ := Rn.sl bx22
  go_enter Tryz.func209, Tryz.ntmps209
  have HF := Lib.hid (hp0 w)
  replace HF := Lib.hid ((HF.out.ar bx21).ar bx22)
  simp only [lF, lG] at HF
  clear bx21 bx22
  refine kS fun K hK => ?_
  refine wp_region_lit ?_
  go_wp2
  refine kO hK ?_; clear hK K
  refine fH (((((HF.out).aL (w.heap.size)).aL (w.heap.size + 1)).aL (w.heap.size + 1 + 1)).aL (w.heap.size + 1 + 1 + 1)) fun Wx0 HG => ?_
  clear HF; have HF := HG; clear HG
  generalize w.heap.size + 1 + 1 + 1 = gx26 at *
  generalize w.heap.size + 1 + 1 = gx25 at *
  generalize w.heap.size + 1 = gx24 at *
  obtain ⟨u1, HZ1⟩ : ∃ z, Hid ((Int.natAbs (a)) / (Int.natAbs (b)) = z) := ⟨_, Lib.hid rfl⟩
  have su1 : tw (u1) ≤ 100000000 := by rw [← HZ1.out]; have := tw_div (Int.natAbs (a)) (Int.natAbs (b)); omega
  obtain ⟨u2, HZ2⟩ : ∃ z, Hid ((Int.natAbs (a)) % (Int.natAbs (b)) = z) := ⟨_, Lib.hid rfl⟩
  have su2 : tw (u2) ≤ 100000000 := by rw [← HZ2.out]; have := tw_mod (Int.natAbs (a)) (Int.natAbs (b)); omega
  have lx23 := HF.out.c 2 rfl
  have lx24 := HF.out.c 3 rfl
  refine kS fun K hK => ?_
  have HG0 : Hid (Gr Wx0 Wx0) := Lib.hid (Gr.refl _)
  refine sq 10 [(true, 0), (true, 1), (true, 2), (true, 3), (false, 4), (true, 5), (true, 6), (true, 7), (true, 8), (true, 9)] fun T hT => ?_
  iterate 4 refine tk ?_
  refine wpPlan_callE rfl (by rfl) Tryz.call174 (by rfl) (fun w' hw => (zrdiv _ _ (Int.natAbs (a)) (Int.natAbs (b)) (u1) (u2) _ HZ1.out HZ2.out (HF.out.r 0 rfl (HG0.out.trans hw)) (HF.out.r 1 rfl (HG0.out.trans hw)) (by have h0 := H0.out; have hb := HBS.out; have hr := HRS.out; have hm := HMS.out; first | exact ok | (simp only [← HZ2.out, ← HZ1.out] <;> first | exact ok)) (by omega) (by omega)).mono ?_)
  rintro e vv28 ⟨⟨rv1, rv2, rfl, bx28, bx29⟩, hg0⟩
  obtain ⟨ao1, nn1, cc1, rfl⟩ := Rn.sl bx28
  obtain ⟨ao2, nn2, cc2, rfl⟩ := Rn.sl bx29
  refine ⟨_, rfl, hg0, ?_⟩
  replace hg0 := Gr.trans hw hg0; clear hw
  replace HG0 := Lib.hid (HG0.out.trans hg0)
  have HGS := Lib.hid hg0; clear hg0
  clear HGS
  have RN28 := Lib.hid bx28; clear bx28
  have RN29 := Lib.hid bx29; clear bx29
  clear lx23; have lx23 := fun w' (h : Gr _ w') => HF.out.c 2 rfl w' (HG0.out.trans h)
  clear lx24; have lx24 := fun w' (h : Gr _ w') => HF.out.c 3 rfl w' (HG0.out.trans h)
  simp only [Act.put, lA, lB, lC]
  iterate 5 refine tk ?_
  refine wpPlan_nil (hT.out _ _ ?_)
  intro vw1 hg
  simp only [puts, Act.put, lA, lB, lC, lD, lE, ↓reduceIte, Nat.reduceEqDiff]
  have HG := Lib.hid (((HF.out.gr (HG0.out.trans hg)).ar (RN28.out.gr hg)).ar (RN29.out.gr hg))
  simp only [zq1_, zq2_, zq3_, zq4_, lF, lG] at HG
  clear hT T HF hg HG0 RN28 RN29 lx23 lx24
  go_wp2
  refine kO hK ?_; clear hK K
  have HF := HG; clear HG
  have hd1 : decide ((a) < 0) = true := decide_eq_true (by have h0 := H0.out; have hb := HBS.out; have hr := HRS.out; have hm := HMS.out; first | exact ok | (simp only [← HZ2.out, ← HZ1.out] <;> first | exact ok))
  have hd2 : decide ((b) < 0) = false := decide_eq_false (by have h0 := H0.out; have hb := HBS.out; have hr := HRS.out; have hm := HMS.out; first | exact ok | (simp only [← HZ2.out, ← HZ1.out] <;> first | exact ok))
  have hd3 : decide ((a) < 0) = true := decide_eq_true (by have h0 := H0.out; have hb := HBS.out; have hr := HRS.out; have hm := HMS.out; first | exact ok | (simp only [← HZ2.out, ← HZ1.out] <;> first | exact ok))
  obtain ⟨u3, HZ3⟩ : ∃ z, Hid ((if true then -((u1 : Nat) : Int) else ((u1 : Nat) : Int)) = z) := ⟨_, Lib.hid rfl⟩
  have su3 : tw (Int.natAbs (u3)) ≤ 100000000 := by rw [← HZ3.out]; split <;> simp <;> omega
  have HZ4 : Hid ((if true then -((u2 : Nat) : Int) else ((u2 : Nat) : Int)) = m) := Lib.hid (by rw [← HM.out, ← HZ2.out]; rfl)
  have su4 : tw (Int.natAbs (m)) ≤ 100000000 := by have e := HZ4.out; first | omega | (rw [← e]; split <;> simp <;> omega)
  have lx23 := HF.out.c 2 rfl
  have lx24 := HF.out.c 3 rfl
  refine kS fun K hK => ?_
  have HG0 : Hid (Gr vw1 vw1) := Lib.hid (Gr.refl _)
  refine wp_region_plan 13 [11, 12] [] (fun i => if i = 11 then 8 else 9) (fun i => if i = 11 then .cells #[.bool false, .slice none 0 0] 45 else .cells #[.bool false, .slice none 0 0] 45) [(true, 0), (true, 1), (true, 2), (true, 3), (true, 4), (true, 5), (true, 7), (true, 8), (true, 9), (false, 6), (false, 10)] (by kernel_rfl) (by kernel_rfl) (by intro i hi; simp only [List.mem_cons, List.not_mem_nil, or_false] at hi; rcases hi with rfl | rfl <;> exact ⟨_, rfl, rfl, rfl, by simp, fun ρ w => by kernel_rfl⟩) (fun i hi => by cases hi) (fun _ _ _ _ _ h => h) (fun T hT => ?_)
  iterate 9 refine tk ?_
  refine wpPlan_callE rfl (by rfl) Tryz.call187 (by rfl) (fun w' hw => (zfrom_any true (u1) (u3) _ _ HZ3.out (HF.out.r 6 rfl (HG0.out.trans hw))).mono ?_)
  rintro e vv30 ⟨⟨rv3, rfl, bx30⟩, hg0⟩
  obtain ⟨ao3, nn3, cc3, rfl⟩ := Rn.sl bx30
  refine ⟨_, rfl, hg0, ?_⟩
  replace hg0 := Gr.trans hw hg0; clear hw
  replace HG0 := Lib.hid (HG0.out.trans hg0)
  have HGS := Lib.hid hg0; clear hg0
  clear HGS
  have RN30 := Lib.hid bx30; clear bx30
  clear lx23; have lx23 := fun w' (h : Gr _ w') => HF.out.c 2 rfl w' (HG0.out.trans h)
  clear lx24; have lx24 := fun w' (h : Gr _ w') => HF.out.c 3 rfl w' (HG0.out.trans h)
  simp only [Act.put, lA, lB, lC]
  refine wpPlan_callE rfl (by rfl) Tryz.call187 (by rfl) (fun w' hw => (zfrom_any true (u2) (m) _ _ HZ4.out (HF.out.r 7 rfl (HG0.out.trans hw))).mono ?_)
  rintro e vv31 ⟨⟨rv4, rfl, bx31⟩, hg0⟩
  obtain ⟨ao4, nn4, cc4, rfl⟩ := Rn.sl bx31
  refine ⟨_, rfl, hg0, ?_⟩
  replace hg0 := Gr.trans hw hg0; clear hw
  replace HG0 := Lib.hid (HG0.out.trans hg0)
  have HGS := Lib.hid hg0; clear hg0
  replace RN30 := Lib.hid (RN30.out.gr HGS.out)
  clear HGS
  have RN31 := Lib.hid bx31; clear bx31
  clear lx23; have lx23 := fun w' (h : Gr _ w') => HF.out.c 2 rfl w' (HG0.out.trans h)
  clear lx24; have lx24 := fun w' (h : Gr _ w') => HF.out.c 3 rfl w' (HG0.out.trans h)
  simp only [Act.put, lA, lB, lC]
  refine wpPlan_nil (hT.out _ _ ?_)
  intro G vw2 hg hf
  simp only [puts, Act.put, lA, lB, lC, lD, lE, ↓reduceIte, Nat.reduceEqDiff]
  have HG := Lib.hid (((HF.out.fr (HG0.out.trans hg) hf (zs := [(#[.bool false, .slice none 0 0], 45), (#[.bool false, .slice none 0 0], 45)]) rfl (by decide) (by decide)).ar (RN30.out.gr hg)).ar (RN31.out.gr hg))
  simp only [zq1_, zq2_, zq3_, zq4_, lF, lG] at HG
  clear hT T HF hg hf HG0 RN30 RN31 lx23 lx24
  generalize G 11 = gx32 at *
  generalize G 12 = gx33 at *
  have lx32 := HG.out.c 8 rfl; have fx32 := HG.out.f 8 rfl
  have lx33 := HG.out.c 9 rfl; have fx33 := HG.out.f 9 rfl
  have r0 := Gr.refl vw2
  obtain ⟨d32_33, d33_32⟩ := HG.out.ne 8 9 rfl rfl (by decide)
  go_wp2
  refine kO hK ?_; clear hK K
  clear r0 lx32 fx32 lx33 fx33 d32_33 d33_32
  refine fH (((((((HG.out).put2 8 0 rfl).put2 9 0 rfl).er 7).er 6).er 2).er 0) fun Wx2 HF => ?_
  clear HG
  clear hd1 hd2 hd3
  refine wp_seq ?_
  have lx24 := HF.out.c 1 rfl
  have lx33 := HF.out.c 5 rfl
  refine kS fun K hK => ?_
  refine sq 8 [(true, 0), (true, 1), (true, 2), (true, 3), (true, 4), (true, 5), (true, 6), (true, 7)] fun T hT => ?_
  refine tk ?_
  refine ck Tryz.call186 (fun w' hw => zrsign (m) (-1) _ _ (by have e9 : (m) < (0 : Int) := (by have h0 := H0.out; have hb := HBS.out; have hr := HRS.out; have hm := HMS.out; first | exact ok | (simp only [← HZ3.out, ← HZ2.out, ← HZ1.out] <;> first | exact ok)); exact sgI_lt e9) (HF.out.r 7 rfl hw)) ?_
  iterate 3 refine tk ?_
  refine ck Tryz.call186 (fun w' hw => zrsign (b) (1) _ _ (by have e9 : (0 : Int) < (b) := (by have h0 := H0.out; have hb := HBS.out; have hr := HRS.out; have hm := HMS.out; first | exact ok | (simp only [← HZ3.out, ← HZ2.out, ← HZ1.out] <;> first | exact ok)); exact sgI_gt e9) (HF.out.r 0 rfl hw)) ?_
  iterate 2 refine tk ?_
  refine nlS hT HF fun vw3 HG => ?_
  clear hT T HF lx24 lx33
  go_wp2
  refine kO hK ?_; clear hK K
  have HF := HG; clear HG
  refine wp_cond_true (by rfl) ?_
  have HZ5 : Hid ((1 : Int) = 1) := Lib.hid (by decide +kernel)
  have su5 : tw (Int.natAbs (1)) ≤ 1 := tw_le.2 (by decide +kernel)
  have HZ6 : Hid ((u3) - (1) = q) := Lib.hid (by have h0 := H0.out; have hb := HBS.out; have hr := HRS.out; have hm := HMS.out; rw [← HQ.out, ← dc (a := a) (b := b) false (by omega) (decide_eq_false (by omega)) (by omega) HN.out, HZ1.out]; have e9 := HZ3.out; simp at e9 ⊢; omega)
  have su6 : tw (Int.natAbs (q)) ≤ 100000001 := by have e := HZ6.out; first | omega | (rw [← e]; have := tw_isub (u3) (1); omega)
  have HZ7 : Hid ((m) + (b) = r) := Lib.hid (by have h0 := H0.out; have hb := HBS.out; have hr := HRS.out; have hm := HMS.out; rw [← HR.out, ← (div_carry (a := a) (b := b) (by omega) (by omega) HN.out).1, HM.out]; omega)
  have su7 : tw (Int.natAbs (r)) ≤ 100000001 := by have e := HZ7.out; first | omega | (rw [← e]; have := tw_iadd (m) (b); omega)
  have lx24 := HF.out.c 1 rfl
  have lx32 := HF.out.c 4 rfl
  have lx33 := HF.out.c 5 rfl
  refine kS fun K hK => ?_
  have HG0 : Hid (Gr vw3 vw3) := Lib.hid (Gr.refl _)
  refine pd 6 [(true, 0), (true, 3), (true, 4), (false, 1), (false, 2), (false, 5)] fun T hT => ?_
  iterate 3 refine tk ?_
  refine wpPlan_callE rfl (by rfl) Tryz.call165 (by rfl) (fun w' hw => (zof_any (1) (1) _ HZ5.out (by decide) (by decide)).mono ?_)
  rintro e vv34 ⟨⟨rv5, rfl, bx34⟩, hg0⟩
  obtain ⟨ao5, nn5, cc5, rfl⟩ := Rn.sl bx34
  refine ⟨_, rfl, hg0, ?_⟩
  replace hg0 := Gr.trans hw hg0; clear hw
  replace HG0 := Lib.hid (HG0.out.trans hg0)
  have HGS := Lib.hid hg0; clear hg0
  clear HGS
  have RN34 := Lib.hid bx34; clear bx34
  clear lx24; have lx24 := fun w' (h : Gr _ w') => HF.out.c 1 rfl w' (HG0.out.trans h)
  clear lx32; have lx32 := fun w' (h : Gr _ w') => HF.out.c 4 rfl w' (HG0.out.trans h)
  clear lx33; have lx33 := fun w' (h : Gr _ w') => HF.out.c 5 rfl w' (HG0.out.trans h)
  simp only [Act.put, lA, lB, lC]
  refine wpPlan_callE rfl (by rfl) Tryz.call241 (by rfl) (fun w' hw => (zsub_any (u3) (1) (q) _ _ _ HZ6.out (by omega) (by omega) (HF.out.r 6 rfl (HG0.out.trans hw)) (RN34.out.gr hw)).mono ?_)
  rintro e vv35 ⟨⟨rv6, rfl, bx35⟩, hg0⟩
  obtain ⟨ao6, nn6, cc6, rfl⟩ := Rn.sl bx35
  refine ⟨_, rfl, hg0, ?_⟩
  replace hg0 := Gr.trans hw hg0; clear hw
  replace HG0 := Lib.hid (HG0.out.trans hg0)
  have HGS := Lib.hid hg0; clear hg0
  replace RN34 := Lib.hid (RN34.out.gr HGS.out)
  clear HGS
  have RN35 := Lib.hid bx35; clear bx35
  clear lx24; have lx24 := fun w' (h : Gr _ w') => HF.out.c 1 rfl w' (HG0.out.trans h)
  clear lx32; have lx32 := fun w' (h : Gr _ w') => HF.out.c 4 rfl w' (HG0.out.trans h)
  clear lx33; have lx33 := fun w' (h : Gr _ w') => HF.out.c 5 rfl w' (HG0.out.trans h)
  simp only [Act.put, lA, lB, lC]
  refine wpPlan_callE rfl (by rfl) Tryz.call164 (by rfl) (fun w' hw => (zadd_any (m) (b) (r) _ _ _ HZ7.out (by omega) (by omega) (HF.out.r 7 rfl (HG0.out.trans hw)) (HF.out.r 0 rfl (HG0.out.trans hw))).mono ?_)
  rintro e vv36 ⟨⟨rv7, rfl, bx36⟩, hg0⟩
  obtain ⟨ao7, nn7, cc7, rfl⟩ := Rn.sl bx36
  refine ⟨_, rfl, hg0, ?_⟩
  replace hg0 := Gr.trans hw hg0; clear hw
  replace HG0 := Lib.hid (HG0.out.trans hg0)
  have HGS := Lib.hid hg0; clear hg0
  replace RN34 := Lib.hid (RN34.out.gr HGS.out)
  replace RN35 := Lib.hid (RN35.out.gr HGS.out)
  clear HGS
  have RN36 := Lib.hid bx36; clear bx36
  clear lx24; have lx24 := fun w' (h : Gr _ w') => HF.out.c 1 rfl w' (HG0.out.trans h)
  clear lx32; have lx32 := fun w' (h : Gr _ w') => HF.out.c 4 rfl w' (HG0.out.trans h)
  clear lx33; have lx33 := fun w' (h : Gr _ w') => HF.out.c 5 rfl w' (HG0.out.trans h)
  simp only [Act.put, lA, lB, lC]
  refine wpPlan_nil (hT.out _ _ ?_)
  intro G vw4 hg hf
  simp only [puts, Act.put, lA, lB, lC, lD, lE, ↓reduceIte, Nat.reduceEqDiff]
  have HG := Lib.hid ((((HF.out.gr (HG0.out.trans hg)).ar (RN34.out.gr hg)).ar (RN35.out.gr hg)).ar (RN36.out.gr hg))
  simp only [zq1_, zq2_, zq3_, zq4_, lF, lG] at HG
  clear hT T HF hg hf HG0 RN34 RN35 RN36 lx24 lx32 lx33
  have lx25 := HG.out.c 2 rfl; have fx25 := HG.out.f 2 rfl
  have lx26 := HG.out.c 3 rfl; have fx26 := HG.out.f 3 rfl
  have r0 := Gr.refl vw4
  obtain ⟨d25_26, d26_25⟩ := HG.out.ne 2 3 rfl rfl (by decide)
  go_wp2
  refine kO hK ?_; clear hK K
  clear r0 lx25 fx25 lx26 fx26 d25_26 d26_25
  refine fH ((((HG.out).put2 2 0 rfl).put2 3 0 rfl).er 8) fun Wx4 HF => ?_
  clear HG
  refine wp_ret ?_
  try simp only [Exit.then, Exit.inBlock]
  have lx25 := HF.out.c 2 rfl
  have lx26 := HF.out.c 3 rfl
  have r0 := Gr.refl Wx4
  exact bodyPost_ret (v := .tuple #[(.agg #[.bool (decide ((q) < 0)), (.slice ao6 nn6 cc6)]), (.agg #[.bool (decide ((r) < 0)), (.slice ao7 nn7 cc7)])]) (by simp [results, Tryz.results209, go_sem, lx25 _ r0, lx26 _ r0]) rfl ⟨⟨(.slice ao6 nn6 cc6), (.slice ao7 nn7 cc7), rfl, (HF.out.rn 8 rfl), (HF.out.rn 9 rfl)⟩, HF.out.1⟩
set_option maxRecDepth 20000 in
set_option maxHeartbeats 4000000 in
theorem zdiv_nn (a b q r m : Int) (va vb : Value) (w : World) (HQ : Hid (a / b = q)) (HR : Hid (a % b = r)) (HBS : Hid (b < 0)) (H0 : Hid (a < 0)) (HM : Hid (-((a.natAbs % b.natAbs : Nat) : Int) = m)) (HMS : Hid (m < 0)) (HN : Hid (a.natAbs % b.natAbs ≠ 0)) (HRS : Hid (0 ≤ r)) (hs_a : tw (Int.natAbs a) ≤ 100000000) (hs_b : tw (Int.natAbs b) ≤ 100000000) (bx21 : Rn w va (Int.natAbs (a))) (bx22 : Rn w vb (Int.natAbs (b))) :
    Calls Tryz.prog 209 #[(Value.agg #[.bool (decide ((a) < 0)), va]), (Value.agg #[.bool (decide ((b) < 0)), vb])] w fun e w' => (∃ r1 r2 : Value, e = .returned (.tuple #[(.agg #[.bool (decide ((q) < 0)), r1]), (.agg #[.bool (decide ((r) < 0)), r2])]) ∧ Rn w' r1 (Int.natAbs (q)) ∧ Rn w' r2 (Int.natAbs (r))) ∧ Below w.heap.size w w' := by
  obtain ⟨ao_va, n_va, c_va, rfl⟩ := Rn.sl bx21
  obtain ⟨ao_vb, n_vb, c_vb, rfl⟩ := Rn.sl bx22
  go_enter Tryz.func209, Tryz.ntmps209
  have HF := Lib.hid (hp0 w)
  replace HF := Lib.hid ((HF.out.ar bx21).ar bx22)
  simp only [lF, lG] at HF
  clear bx21 bx22
  refine kS fun K hK => ?_
  refine wp_region_lit ?_
  go_wp2
  refine kO hK ?_; clear hK K
  refine fH (((((HF.out).aL (w.heap.size)).aL (w.heap.size + 1)).aL (w.heap.size + 1 + 1)).aL (w.heap.size + 1 + 1 + 1)) fun Wx0 HG => ?_
  clear HF; have HF := HG; clear HG
  generalize w.heap.size + 1 + 1 + 1 = gx26 at *
  generalize w.heap.size + 1 + 1 = gx25 at *
  generalize w.heap.size + 1 = gx24 at *
  obtain ⟨u1, HZ1⟩ : ∃ z, Hid ((Int.natAbs (a)) / (Int.natAbs (b)) = z) := ⟨_, Lib.hid rfl⟩
  have su1 : tw (u1) ≤ 100000000 := by rw [← HZ1.out]; have := tw_div (Int.natAbs (a)) (Int.natAbs (b)); omega
  obtain ⟨u2, HZ2⟩ : ∃ z, Hid ((Int.natAbs (a)) % (Int.natAbs (b)) = z) := ⟨_, Lib.hid rfl⟩
  have su2 : tw (u2) ≤ 100000000 := by rw [← HZ2.out]; have := tw_mod (Int.natAbs (a)) (Int.natAbs (b)); omega
  have lx23 := HF.out.c 2 rfl
  have lx24 := HF.out.c 3 rfl
  refine kS fun K hK => ?_
  have HG0 : Hid (Gr Wx0 Wx0) := Lib.hid (Gr.refl _)
  refine sq 10 [(true, 0), (true, 1), (true, 2), (true, 3), (false, 4), (true, 5), (true, 6), (true, 7), (true, 8), (true, 9)] fun T hT => ?_
  iterate 4 refine tk ?_
  refine wpPlan_callE rfl (by rfl) Tryz.call174 (by rfl) (fun w' hw => (zrdiv _ _ (Int.natAbs (a)) (Int.natAbs (b)) (u1) (u2) _ HZ1.out HZ2.out (HF.out.r 0 rfl (HG0.out.trans hw)) (HF.out.r 1 rfl (HG0.out.trans hw)) (by have h0 := H0.out; have hb := HBS.out; have hr := HRS.out; have hm := HMS.out; first | exact ok | (simp only [← HZ2.out, ← HZ1.out] <;> first | exact ok)) (by omega) (by omega)).mono ?_)
  rintro e vv28 ⟨⟨rv1, rv2, rfl, bx28, bx29⟩, hg0⟩
  obtain ⟨ao1, nn1, cc1, rfl⟩ := Rn.sl bx28
  obtain ⟨ao2, nn2, cc2, rfl⟩ := Rn.sl bx29
  refine ⟨_, rfl, hg0, ?_⟩
  replace hg0 := Gr.trans hw hg0; clear hw
  replace HG0 := Lib.hid (HG0.out.trans hg0)
  have HGS := Lib.hid hg0; clear hg0
  clear HGS
  have RN28 := Lib.hid bx28; clear bx28
  have RN29 := Lib.hid bx29; clear bx29
  clear lx23; have lx23 := fun w' (h : Gr _ w') => HF.out.c 2 rfl w' (HG0.out.trans h)
  clear lx24; have lx24 := fun w' (h : Gr _ w') => HF.out.c 3 rfl w' (HG0.out.trans h)
  simp only [Act.put, lA, lB, lC]
  iterate 5 refine tk ?_
  refine wpPlan_nil (hT.out _ _ ?_)
  intro vw1 hg
  simp only [puts, Act.put, lA, lB, lC, lD, lE, ↓reduceIte, Nat.reduceEqDiff]
  have HG := Lib.hid (((HF.out.gr (HG0.out.trans hg)).ar (RN28.out.gr hg)).ar (RN29.out.gr hg))
  simp only [zq1_, zq2_, zq3_, zq4_, lF, lG] at HG
  clear hT T HF hg HG0 RN28 RN29 lx23 lx24
  go_wp2
  refine kO hK ?_; clear hK K
  have HF := HG; clear HG
  have hd1 : decide ((a) < 0) = true := decide_eq_true (by have h0 := H0.out; have hb := HBS.out; have hr := HRS.out; have hm := HMS.out; first | exact ok | (simp only [← HZ2.out, ← HZ1.out] <;> first | exact ok))
  have hd2 : decide ((b) < 0) = true := decide_eq_true (by have h0 := H0.out; have hb := HBS.out; have hr := HRS.out; have hm := HMS.out; first | exact ok | (simp only [← HZ2.out, ← HZ1.out] <;> first | exact ok))
  have hd3 : decide ((a) < 0) = true := decide_eq_true (by have h0 := H0.out; have hb := HBS.out; have hr := HRS.out; have hm := HMS.out; first | exact ok | (simp only [← HZ2.out, ← HZ1.out] <;> first | exact ok))
  obtain ⟨u3, HZ3⟩ : ∃ z, Hid ((if false then -((u1 : Nat) : Int) else ((u1 : Nat) : Int)) = z) := ⟨_, Lib.hid rfl⟩
  have su3 : tw (Int.natAbs (u3)) ≤ 100000000 := by rw [← HZ3.out]; split <;> simp <;> omega
  have HZ4 : Hid ((if true then -((u2 : Nat) : Int) else ((u2 : Nat) : Int)) = m) := Lib.hid (by rw [← HM.out, ← HZ2.out]; rfl)
  have su4 : tw (Int.natAbs (m)) ≤ 100000000 := by have e := HZ4.out; first | omega | (rw [← e]; split <;> simp <;> omega)
  have lx23 := HF.out.c 2 rfl
  have lx24 := HF.out.c 3 rfl
  refine kS fun K hK => ?_
  have HG0 : Hid (Gr vw1 vw1) := Lib.hid (Gr.refl _)
  refine wp_region_plan 13 [11, 12] [] (fun i => if i = 11 then 8 else 9) (fun i => if i = 11 then .cells #[.bool false, .slice none 0 0] 45 else .cells #[.bool false, .slice none 0 0] 45) [(true, 0), (true, 1), (true, 2), (true, 3), (true, 4), (true, 5), (true, 7), (true, 8), (true, 9), (false, 6), (false, 10)] (by kernel_rfl) (by kernel_rfl) (by intro i hi; simp only [List.mem_cons, List.not_mem_nil, or_false] at hi; rcases hi with rfl | rfl <;> exact ⟨_, rfl, rfl, rfl, by simp, fun ρ w => by kernel_rfl⟩) (fun i hi => by cases hi) (fun _ _ _ _ _ h => h) (fun T hT => ?_)
  iterate 9 refine tk ?_
  refine wpPlan_callE rfl (by rfl) Tryz.call187 (by rfl) (fun w' hw => (zfrom_any false (u1) (u3) _ _ HZ3.out (HF.out.r 6 rfl (HG0.out.trans hw))).mono ?_)
  rintro e vv30 ⟨⟨rv3, rfl, bx30⟩, hg0⟩
  obtain ⟨ao3, nn3, cc3, rfl⟩ := Rn.sl bx30
  refine ⟨_, rfl, hg0, ?_⟩
  replace hg0 := Gr.trans hw hg0; clear hw
  replace HG0 := Lib.hid (HG0.out.trans hg0)
  have HGS := Lib.hid hg0; clear hg0
  clear HGS
  have RN30 := Lib.hid bx30; clear bx30
  clear lx23; have lx23 := fun w' (h : Gr _ w') => HF.out.c 2 rfl w' (HG0.out.trans h)
  clear lx24; have lx24 := fun w' (h : Gr _ w') => HF.out.c 3 rfl w' (HG0.out.trans h)
  simp only [Act.put, lA, lB, lC]
  refine wpPlan_callE rfl (by rfl) Tryz.call187 (by rfl) (fun w' hw => (zfrom_any true (u2) (m) _ _ HZ4.out (HF.out.r 7 rfl (HG0.out.trans hw))).mono ?_)
  rintro e vv31 ⟨⟨rv4, rfl, bx31⟩, hg0⟩
  obtain ⟨ao4, nn4, cc4, rfl⟩ := Rn.sl bx31
  refine ⟨_, rfl, hg0, ?_⟩
  replace hg0 := Gr.trans hw hg0; clear hw
  replace HG0 := Lib.hid (HG0.out.trans hg0)
  have HGS := Lib.hid hg0; clear hg0
  replace RN30 := Lib.hid (RN30.out.gr HGS.out)
  clear HGS
  have RN31 := Lib.hid bx31; clear bx31
  clear lx23; have lx23 := fun w' (h : Gr _ w') => HF.out.c 2 rfl w' (HG0.out.trans h)
  clear lx24; have lx24 := fun w' (h : Gr _ w') => HF.out.c 3 rfl w' (HG0.out.trans h)
  simp only [Act.put, lA, lB, lC]
  refine wpPlan_nil (hT.out _ _ ?_)
  intro G vw2 hg hf
  simp only [puts, Act.put, lA, lB, lC, lD, lE, ↓reduceIte, Nat.reduceEqDiff]
  have HG := Lib.hid (((HF.out.fr (HG0.out.trans hg) hf (zs := [(#[.bool false, .slice none 0 0], 45), (#[.bool false, .slice none 0 0], 45)]) rfl (by decide) (by decide)).ar (RN30.out.gr hg)).ar (RN31.out.gr hg))
  simp only [zq1_, zq2_, zq3_, zq4_, lF, lG] at HG
  clear hT T HF hg hf HG0 RN30 RN31 lx23 lx24
  generalize G 11 = gx32 at *
  generalize G 12 = gx33 at *
  have lx32 := HG.out.c 8 rfl; have fx32 := HG.out.f 8 rfl
  have lx33 := HG.out.c 9 rfl; have fx33 := HG.out.f 9 rfl
  have r0 := Gr.refl vw2
  obtain ⟨d32_33, d33_32⟩ := HG.out.ne 8 9 rfl rfl (by decide)
  go_wp2
  refine kO hK ?_; clear hK K
  clear r0 lx32 fx32 lx33 fx33 d32_33 d33_32
  refine fH (((((((HG.out).put2 8 0 rfl).put2 9 0 rfl).er 7).er 6).er 2).er 0) fun Wx2 HF => ?_
  clear HG
  clear hd1 hd2 hd3
  refine wp_seq ?_
  have lx24 := HF.out.c 1 rfl
  have lx33 := HF.out.c 5 rfl
  refine kS fun K hK => ?_
  refine sq 8 [(true, 0), (true, 1), (true, 2), (true, 3), (true, 4), (true, 5), (true, 6), (true, 7)] fun T hT => ?_
  refine tk ?_
  refine ck Tryz.call186 (fun w' hw => zrsign (m) (-1) _ _ (by have e9 : (m) < (0 : Int) := (by have h0 := H0.out; have hb := HBS.out; have hr := HRS.out; have hm := HMS.out; first | exact ok | (simp only [← HZ3.out, ← HZ2.out, ← HZ1.out] <;> first | exact ok)); exact sgI_lt e9) (HF.out.r 7 rfl hw)) ?_
  iterate 3 refine tk ?_
  refine ck Tryz.call186 (fun w' hw => zrsign (b) (-1) _ _ (by have e9 : (b) < (0 : Int) := (by have h0 := H0.out; have hb := HBS.out; have hr := HRS.out; have hm := HMS.out; first | exact ok | (simp only [← HZ3.out, ← HZ2.out, ← HZ1.out] <;> first | exact ok)); exact sgI_lt e9) (HF.out.r 0 rfl hw)) ?_
  iterate 2 refine tk ?_
  refine nlS hT HF fun vw3 HG => ?_
  clear hT T HF lx24 lx33
  go_wp2
  refine kO hK ?_; clear hK K
  have HF := HG; clear HG
  refine wp_cond_false (by rfl) ?_
  refine wp_skip ?_
  show Code.wp _ _ _ _ _
  refine wp_seq ?_
  have lx33 := HF.out.c 5 rfl
  refine kS fun K hK => ?_
  refine sq 3 [(true, 0), (true, 1), (true, 2)] fun T hT => ?_
  refine tk ?_
  refine ck Tryz.call186 (fun w' hw => zrsign (m) (-1) _ _ (by have e9 : (m) < (0 : Int) := (by have h0 := H0.out; have hb := HBS.out; have hr := HRS.out; have hm := HMS.out; first | exact ok | (simp only [← HZ3.out, ← HZ2.out, ← HZ1.out] <;> first | exact ok)); exact sgI_lt e9) (HF.out.r 7 rfl hw)) ?_
  refine tk ?_
  refine nlS hT HF fun vw4 HG => ?_
  clear hT T HF lx33
  go_wp2
  refine kO hK ?_; clear hK K
  have HF := HG; clear HG
  refine wp_cond_true (by rfl) ?_
  have HZ5 : Hid ((1 : Int) = 1) := Lib.hid (by decide +kernel)
  have su5 : tw (Int.natAbs (1)) ≤ 1 := tw_le.2 (by decide +kernel)
  have HZ6 : Hid ((u3) + (1) = q) := Lib.hid (by have h0 := H0.out; have hb := HBS.out; have hr := HRS.out; have hm := HMS.out; rw [← HQ.out, ← dc (a := a) (b := b) true (by omega) (decide_eq_true (by omega)) (by omega) HN.out, HZ1.out]; have e9 := HZ3.out; simp at e9 ⊢; omega)
  have su6 : tw (Int.natAbs (q)) ≤ 100000001 := by have e := HZ6.out; first | omega | (rw [← e]; have := tw_iadd (u3) (1); omega)
  have HZ7 : Hid ((m) - (b) = r) := Lib.hid (by have h0 := H0.out; have hb := HBS.out; have hr := HRS.out; have hm := HMS.out; rw [← HR.out, ← (div_carry (a := a) (b := b) (by omega) (by omega) HN.out).1, HM.out]; omega)
  have su7 : tw (Int.natAbs (r)) ≤ 100000001 := by have e := HZ7.out; first | omega | (rw [← e]; have := tw_isub (m) (b); omega)
  have lx24 := HF.out.c 1 rfl
  have lx32 := HF.out.c 4 rfl
  have lx33 := HF.out.c 5 rfl
  refine kS fun K hK => ?_
  have HG0 : Hid (Gr vw4 vw4) := Lib.hid (Gr.refl _)
  refine pd 6 [(true, 0), (true, 3), (true, 4), (false, 1), (false, 2), (false, 5)] fun T hT => ?_
  iterate 3 refine tk ?_
  refine wpPlan_callE rfl (by rfl) Tryz.call165 (by rfl) (fun w' hw => (zof_any (1) (1) _ HZ5.out (by decide) (by decide)).mono ?_)
  rintro e vv34 ⟨⟨rv5, rfl, bx34⟩, hg0⟩
  obtain ⟨ao5, nn5, cc5, rfl⟩ := Rn.sl bx34
  refine ⟨_, rfl, hg0, ?_⟩
  replace hg0 := Gr.trans hw hg0; clear hw
  replace HG0 := Lib.hid (HG0.out.trans hg0)
  have HGS := Lib.hid hg0; clear hg0
  clear HGS
  have RN34 := Lib.hid bx34; clear bx34
  clear lx24; have lx24 := fun w' (h : Gr _ w') => HF.out.c 1 rfl w' (HG0.out.trans h)
  clear lx32; have lx32 := fun w' (h : Gr _ w') => HF.out.c 4 rfl w' (HG0.out.trans h)
  clear lx33; have lx33 := fun w' (h : Gr _ w') => HF.out.c 5 rfl w' (HG0.out.trans h)
  simp only [Act.put, lA, lB, lC]
  refine wpPlan_callE rfl (by rfl) Tryz.call164 (by rfl) (fun w' hw => (zadd_any (u3) (1) (q) _ _ _ HZ6.out (by omega) (by omega) (HF.out.r 6 rfl (HG0.out.trans hw)) (RN34.out.gr hw)).mono ?_)
  rintro e vv35 ⟨⟨rv6, rfl, bx35⟩, hg0⟩
  obtain ⟨ao6, nn6, cc6, rfl⟩ := Rn.sl bx35
  refine ⟨_, rfl, hg0, ?_⟩
  replace hg0 := Gr.trans hw hg0; clear hw
  replace HG0 := Lib.hid (HG0.out.trans hg0)
  have HGS := Lib.hid hg0; clear hg0
  replace RN34 := Lib.hid (RN34.out.gr HGS.out)
  clear HGS
  have RN35 := Lib.hid bx35; clear bx35
  clear lx24; have lx24 := fun w' (h : Gr _ w') => HF.out.c 1 rfl w' (HG0.out.trans h)
  clear lx32; have lx32 := fun w' (h : Gr _ w') => HF.out.c 4 rfl w' (HG0.out.trans h)
  clear lx33; have lx33 := fun w' (h : Gr _ w') => HF.out.c 5 rfl w' (HG0.out.trans h)
  simp only [Act.put, lA, lB, lC]
  refine wpPlan_callE rfl (by rfl) Tryz.call241 (by rfl) (fun w' hw => (zsub_any (m) (b) (r) _ _ _ HZ7.out (by omega) (by omega) (HF.out.r 7 rfl (HG0.out.trans hw)) (HF.out.r 0 rfl (HG0.out.trans hw))).mono ?_)
  rintro e vv36 ⟨⟨rv7, rfl, bx36⟩, hg0⟩
  obtain ⟨ao7, nn7, cc7, rfl⟩ := Rn.sl bx36
  refine ⟨_, rfl, hg0, ?_⟩
  replace hg0 := Gr.trans hw hg0; clear hw
  replace HG0 := Lib.hid (HG0.out.trans hg0)
  have HGS := Lib.hid hg0; clear hg0
  replace RN34 := Lib.hid (RN34.out.gr HGS.out)
  replace RN35 := Lib.hid (RN35.out.gr HGS.out)
  clear HGS
  have RN36 := Lib.hid bx36; clear bx36
  clear lx24; have lx24 := fun w' (h : Gr _ w') => HF.out.c 1 rfl w' (HG0.out.trans h)
  clear lx32; have lx32 := fun w' (h : Gr _ w') => HF.out.c 4 rfl w' (HG0.out.trans h)
  clear lx33; have lx33 := fun w' (h : Gr _ w') => HF.out.c 5 rfl w' (HG0.out.trans h)
  simp only [Act.put, lA, lB, lC]
  refine wpPlan_nil (hT.out _ _ ?_)
  intro G vw5 hg hf
  simp only [puts, Act.put, lA, lB, lC, lD, lE, ↓reduceIte, Nat.reduceEqDiff]
  have HG := Lib.hid ((((HF.out.gr (HG0.out.trans hg)).ar (RN34.out.gr hg)).ar (RN35.out.gr hg)).ar (RN36.out.gr hg))
  simp only [zq1_, zq2_, zq3_, zq4_, lF, lG] at HG
  clear hT T HF hg hf HG0 RN34 RN35 RN36 lx24 lx32 lx33
  have lx25 := HG.out.c 2 rfl; have fx25 := HG.out.f 2 rfl
  have lx26 := HG.out.c 3 rfl; have fx26 := HG.out.f 3 rfl
  have r0 := Gr.refl vw5
  obtain ⟨d25_26, d26_25⟩ := HG.out.ne 2 3 rfl rfl (by decide)
  go_wp2
  refine kO hK ?_; clear hK K
  clear r0 lx25 fx25 lx26 fx26 d25_26 d26_25
  refine fH ((((((HG.out).put2 2 0 rfl).put2 3 0 rfl).er 8).er 1).er 0) fun Wx6 HF => ?_
  clear HG
  refine wp_ret ?_
  try simp only [Exit.then, Exit.inBlock]
  have lx25 := HF.out.c 0 rfl
  have lx26 := HF.out.c 1 rfl
  have r0 := Gr.refl Wx6
  exact bodyPost_ret (v := .tuple #[(.agg #[.bool (decide ((q) < 0)), (.slice ao6 nn6 cc6)]), (.agg #[.bool (decide ((r) < 0)), (.slice ao7 nn7 cc7)])]) (by simp [results, Tryz.results209, go_sem, lx25 _ r0, lx26 _ r0]) rfl ⟨⟨(.slice ao6 nn6 cc6), (.slice ao7 nn7 cc7), rfl, (HF.out.rn 6 rfl), (HF.out.rn 7 rfl)⟩, HF.out.1⟩
theorem zzdiv (a b q r : Int) (va vb : Value) (w : World) (hq : a / b = q) (hr : a % b = r) (h0 : b ≠ 0) (hs_a : tw (Int.natAbs a) ≤ 100000000) (hs_b : tw (Int.natAbs b) ≤ 100000000) (bx21 : Rn w va a.natAbs) (bx22 : Rn w vb b.natAbs) :
    Calls Tryz.prog 209 #[.agg #[.bool (decide (a < 0)), va], .agg #[.bool (decide (b < 0)), vb]] w fun e w' => (∃ r1 r2 : Value, e = .returned (.tuple #[.agg #[.bool (decide (q < 0)), r1], .agg #[.bool (decide (r < 0)), r2]]) ∧ Rn w' r1 q.natAbs ∧ Rn w' r2 r.natAbs) ∧ Below w.heap.size w w' := by
  have hr0 : 0 ≤ r := by rw [← hr]; exact (mod_abs a h0).2
  have ht : ¬ sgI r < 0 := by rw [sgI_neg]; omega
  by_cases h1 : 0 ≤ a
  · rcases Int.lt_or_gt_of_ne h0 with h2 | h2
    · exact zdiv_pn a b q r _ va vb w (Lib.hid hq) (Lib.hid hr) (Lib.hid h2) (Lib.hid h1) (Lib.hid rfl) ht (Lib.hid hr0) hs_a hs_b bx21 bx22
    · exact zdiv_pp a b q r _ va vb w (Lib.hid hq) (Lib.hid hr) (Lib.hid h2) (Lib.hid h1) (Lib.hid rfl) ht (Lib.hid hr0) hs_a hs_b bx21 bx22
  · by_cases hm : a.natAbs % b.natAbs = 0
    · rcases Int.lt_or_gt_of_ne h0 with h2 | h2
      · exact zdiv_zn a b q r _ va vb w (Lib.hid hq) (Lib.hid hr) (Lib.hid h2) (Lib.hid (by omega)) (Lib.hid hm) (Lib.hid rfl) ht (Lib.hid hr0) hs_a hs_b bx21 bx22
      · exact zdiv_zp a b q r _ va vb w (Lib.hid hq) (Lib.hid hr) (Lib.hid h2) (Lib.hid (by omega)) (Lib.hid hm) (Lib.hid rfl) ht (Lib.hid hr0) hs_a hs_b bx21 bx22
    · rcases Int.lt_or_gt_of_ne h0 with h2 | h2
      · exact zdiv_nn a b q r _ va vb w (Lib.hid hq) (Lib.hid hr) (Lib.hid h2) (Lib.hid (by omega)) (Lib.hid rfl) (Lib.hid (by omega)) (Lib.hid hm) (Lib.hid hr0) hs_a hs_b bx21 bx22
      · exact zdiv_np a b q r _ va vb w (Lib.hid hq) (Lib.hid hr) (Lib.hid h2) (Lib.hid (by omega)) (Lib.hid rfl) (Lib.hid (by omega)) (Lib.hid hm) (Lib.hid hr0) hs_a hs_b bx21 bx22
end Go.Proofs.YtaflakcemiilaaaGreatDoor
