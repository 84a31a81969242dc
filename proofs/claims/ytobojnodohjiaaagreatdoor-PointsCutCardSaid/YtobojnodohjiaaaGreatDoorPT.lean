/- A pack of texts: RefT2, RefT3, RefU, RefV. No condition but those stated. -/
import Derived.Test.YtobojnodohjiaaaGreatDoorPI
import Derived.Test.YtobojnodohjiaaaGreatDoorHp
set_option linter.unusedVariables false
set_option linter.unusedSimpArgs false
/- gussetref02: Neg, Sign, Mul. -/
namespace Go.Proofs.YtobojnodohjiaaaGreatDoor
open Go.RowKit
attribute [local go_sem ↓] Go.wp_at_zero Go.wp_at_succ
set_option maxRecDepth 20000 in
set_option maxHeartbeats 2000000 in
theorem zneg_any (a z : Int) (va : Value) (w : World) (hz : -a = z) (bx21 : Rn w va (Int.natAbs (a))) :
    Calls Tryz.prog 216 #[(Value.agg #[.bool (decide ((a) < 0)), va])] w fun e w' => (∃ r1 : Value, e = .returned (.agg #[.bool (decide ((z) < 0)), r1]) ∧ Rn w' r1 (Int.natAbs (z))) ∧ Below w.heap.size w w' := by
  replace hz := Lib.hid hz
  obtain ⟨ao_va, n_va, c_va, rfl⟩ := Rn.sl bx21
  go_enter Tryz.func216, Tryz.ntmps216
  have HF := Lib.hid (hp0 w)
  replace HF := Lib.hid (HF.out.ar bx21)
  simp only [lF, lG] at HF
  clear bx21
  refine kS fun K hK => ?_
  refine wp_region_lit ?_
  go_wp2
  refine kO hK ?_; clear hK K
  refine fH (((HF.out).aL (w.heap.size)).aL (w.heap.size + 1)) fun Wx0 HG => ?_
  clear HF; have HF := HG; clear HG
  generalize w.heap.size + 1 = gx23 at *
  have HZ1 : Hid ((if !decide ((a) < 0) then -((Int.natAbs (a) : Nat) : Int) else ((Int.natAbs (a) : Nat) : Int)) = z) := Lib.hid (by rw [← hz.out]; by_cases h : a < 0 <;> simp [h] <;> omega)
  have lx22 := HF.out.c 1 rfl
  refine kS fun K hK => ?_
  have HG0 : Hid (Gr Wx0 Wx0) := Lib.hid (Gr.refl _)
  refine sq 6 [(true, 0), (true, 1), (true, 2), (true, 3), (true, 4), (false, 5)] fun T hT => ?_
  iterate 5 refine tk ?_
  refine wpPlan_callE rfl (by rfl) Tryz.call196 (by rfl) (fun w' hw => (zfrom_any (!decide ((a) < 0)) (Int.natAbs (a)) (z) _ _ HZ1.out (HF.out.r 0 rfl (HG0.out.trans hw))).mono ?_)
  rintro e vv25 ⟨⟨rv1, rfl, bx25⟩, hg0⟩
  obtain ⟨ao1, nn1, cc1, rfl⟩ := Rn.sl bx25
  refine ⟨_, rfl, hg0, ?_⟩
  replace hg0 := Gr.trans hw hg0; clear hw
  replace HG0 := Lib.hid (HG0.out.trans hg0)
  have HGS := Lib.hid hg0; clear hg0
  clear HGS
  have RN25 := Lib.hid bx25; clear bx25
  clear lx22; have lx22 := fun w' (h : Gr _ w') => HF.out.c 1 rfl w' (HG0.out.trans h)
  simp only [Act.put, lA, lB, lC]
  refine wpPlan_nil (hT.out _ _ ?_)
  intro vw1 hg
  simp only [puts, Act.put, lA, lB, lC, lD, lE, ↓reduceIte, Nat.reduceEqDiff]
  have HG := Lib.hid ((HF.out.gr (HG0.out.trans hg)).ar (RN25.out.gr hg))
  simp only [zq1_, zq2_, zq3_, zq4_, lF, lG] at HG
  clear hT T HF hg HG0 RN25 lx22
  have lx23 := HG.out.c 2 rfl; have fx23 := HG.out.f 2 rfl
  have r0 := Gr.refl vw1
  go_wp2
  refine kO hK ?_; clear hK K
  clear r0 lx23 fx23
  refine fH ((((HG.out).put2 2 0 rfl).er 1).er 0) fun Wx1 HF => ?_
  clear HG
  refine wp_ret ?_
  try simp only [Exit.then, Exit.inBlock]
  have lx23 := HF.out.c 0 rfl
  have r0 := Gr.refl Wx1
  exact bodyPost_ret (v := .agg #[.bool (decide ((z) < 0)), (.slice ao1 nn1 cc1)]) (by simp [results, Tryz.results216, go_sem, lx23 _ r0]) rfl ⟨⟨(.slice ao1 nn1 cc1), rfl, (HF.out.rn 1 rfl)⟩, HF.out.1⟩
theorem sg_mul (a b : Int) : (if (decide (a < 0) != decide (b < 0)) then -((a.natAbs * b.natAbs : Nat) : Int) else ((a.natAbs * b.natAbs : Nat) : Int)) = a * b := by
  have h : ((a.natAbs * b.natAbs : Nat) : Int) = (a.natAbs : Int) * (b.natAbs : Int) := Int.natCast_mul _ _
  rw [h]
  by_cases h1 : a < 0 <;> by_cases h2 : b < 0
  · rw [Int.ofNat_natAbs_of_nonpos (by omega), Int.ofNat_natAbs_of_nonpos (by omega)]; simp [h1, h2, Int.neg_mul, Int.mul_neg]
  · rw [Int.ofNat_natAbs_of_nonpos (by omega), Int.natAbs_of_nonneg (by omega)]; simp [h1, h2, Int.neg_mul, Int.mul_neg]
  · rw [Int.natAbs_of_nonneg (by omega), Int.ofNat_natAbs_of_nonpos (by omega)]; simp [h1, h2, Int.neg_mul, Int.mul_neg]
  · rw [Int.natAbs_of_nonneg (by omega), Int.natAbs_of_nonneg (by omega)]; simp [h1, h2, Int.neg_mul, Int.mul_neg]
def sgZ (a : Int) : Int := if a = 0 then 0 else if a < 0 then -1 else 1
theorem zsign_any (a s : Int) (va : Value) (w : World) (hs : sgZ a = s) (h : Rn w va a.natAbs) :
    Calls Tryz.prog 194 #[.agg #[.bool (decide (a < 0)), va]] w fun e w' => e = .returned (.int .i64 s) ∧ Below w.heap.size w w' := by
  obtain ⟨ao, c, rfl, hc, hc2⟩ := Dr.slice h
  obtain ⟨k, hk⟩ : ∃ k, tw a.natAbs = k := ⟨_, rfl⟩
  rw [hk] at hc ⊢
  have HS := Lib.hid hs
  clear h hs
  by_cases h0 : a = 0
  · subst h0
    have hk0 : k = 0 := by rw [← hk]; exact tw_zero
    subst hk0
    obtain rfl : s = 0 := by rw [← HS.out]; rfl
    clear hk
    go_enter Tryz.func194, Tryz.ntmps194
    go_wp2
    go_ret
    exact ⟨rfl, (Below.refl _ _).alloc (Nat.le_refl _) _⟩
  · have hk0 : 0 < k := by rw [← hk]; exact tw_pos (by omega)
    have hkz : ¬ (k = 0) := by omega
    clear hk
    by_cases h1 : a < 0
    · obtain rfl : s = -1 := by rw [← HS.out]; unfold sgZ; rw [if_neg h0, if_pos h1]
      go_enter Tryz.func194, Tryz.ntmps194
      go_wp2
      go_ret
      exact ⟨rfl, (Below.refl _ _).alloc (Nat.le_refl _) _⟩
    · obtain rfl : s = 1 := by rw [← HS.out]; unfold sgZ; rw [if_neg h0, if_neg h1]
      go_enter Tryz.func194, Tryz.ntmps194
      go_wp2
      go_ret
      exact ⟨rfl, (Below.refl _ _).alloc (Nat.le_refl _) _⟩
set_option maxRecDepth 20000 in
set_option maxHeartbeats 2000000 in
theorem zmul_any (a b z : Int) (va vb : Value) (w : World) (hz : a * b = z) (hs_a : tw (Int.natAbs a) ≤ 400000000) (hs_b : tw (Int.natAbs b) ≤ 400000000) (bx21 : Rn w va (Int.natAbs (a))) (bx22 : Rn w vb (Int.natAbs (b))) :
    Calls Tryz.prog 214 #[(Value.agg #[.bool (decide ((a) < 0)), va]), (Value.agg #[.bool (decide ((b) < 0)), vb])] w fun e w' => (∃ r1 : Value, e = .returned (.agg #[.bool (decide ((z) < 0)), r1]) ∧ Rn w' r1 (Int.natAbs (z))) ∧ Below w.heap.size w w' := by
  replace hz := Lib.hid hz
  obtain ⟨ao_va, n_va, c_va, rfl⟩ := Rn.sl bx21
  obtain ⟨ao_vb, n_vb, c_vb, rfl⟩ := Rn.sl bx22
  go_enter Tryz.func214, Tryz.ntmps214
  have HF := Lib.hid (hp0 w)
  replace HF := Lib.hid ((HF.out.ar bx21).ar bx22)
  simp only [lF, lG] at HF
  clear bx21 bx22
  refine kS fun K hK => ?_
  refine wp_region_lit ?_
  go_wp2
  refine kO hK ?_; clear hK K
  refine fH ((((HF.out).aL (w.heap.size)).aL (w.heap.size + 1)).aL (w.heap.size + 1 + 1)) fun Wx0 HG => ?_
  clear HF; have HF := HG; clear HG
  generalize w.heap.size + 1 + 1 = gx25 at *
  generalize w.heap.size + 1 = gx24 at *
  obtain ⟨u1, HZ1⟩ : ∃ z, Hid ((Int.natAbs (a)) * (Int.natAbs (b)) = z) := ⟨_, Lib.hid rfl⟩
  have su1 : tw u1 ≤ 800000000 := by rw [← HZ1.out]; have := tw_mul (Int.natAbs (a)) (Int.natAbs (b)); omega
  have HZ2 : Hid ((if decide (a < 0) != decide (b < 0) then -((u1 : Nat) : Int) else ((u1 : Nat) : Int)) = z) := Lib.hid (by rw [← hz.out, ← HZ1.out]; exact sg_mul a b)
  have lx23 := HF.out.c 2 rfl
  have lx24 := HF.out.c 3 rfl
  refine kS fun K hK => ?_
  have HG0 : Hid (Gr Wx0 Wx0) := Lib.hid (Gr.refl _)
  refine pd 11 [(true, 0), (true, 1), (true, 2), (true, 3), (true, 4), (true, 5), (true, 6), (true, 7), (true, 8), (false, 9), (false, 10)] fun T hT => ?_
  iterate 9 refine tk ?_
  refine wpPlan_callE rfl (by rfl) Tryz.call178 (by rfl) (fun w' hw => (zrmul _ _ (Int.natAbs (a)) (Int.natAbs (b)) (u1) _ HZ1.out (HF.out.r 0 rfl (HG0.out.trans hw)) (HF.out.r 1 rfl (HG0.out.trans hw)) (by omega) (by omega)).mono ?_)
  rintro e vv27 ⟨⟨rv1, rfl, bx27⟩, hg0⟩
  obtain ⟨ao1, nn1, cc1, rfl⟩ := Rn.sl bx27
  refine ⟨_, rfl, hg0, ?_⟩
  replace hg0 := Gr.trans hw hg0; clear hw
  replace HG0 := Lib.hid (HG0.out.trans hg0)
  have HGS := Lib.hid hg0; clear hg0
  clear HGS
  have RN27 := Lib.hid bx27; clear bx27
  clear lx23; have lx23 := fun w' (h : Gr _ w') => HF.out.c 2 rfl w' (HG0.out.trans h)
  clear lx24; have lx24 := fun w' (h : Gr _ w') => HF.out.c 3 rfl w' (HG0.out.trans h)
  simp only [Act.put, lA, lB, lC]
  refine wpPlan_callE rfl (by rfl) Tryz.call196 (by rfl) (fun w' hw => (zfrom_any (decide (a < 0) != decide (b < 0)) (u1) (z) _ _ HZ2.out (RN27.out.gr hw)).mono ?_)
  rintro e vv28 ⟨⟨rv2, rfl, bx28⟩, hg0⟩
  obtain ⟨ao2, nn2, cc2, rfl⟩ := Rn.sl bx28
  refine ⟨_, rfl, hg0, ?_⟩
  replace hg0 := Gr.trans hw hg0; clear hw
  replace HG0 := Lib.hid (HG0.out.trans hg0)
  have HGS := Lib.hid hg0; clear hg0
  replace RN27 := Lib.hid (RN27.out.gr HGS.out)
  clear HGS
  have RN28 := Lib.hid bx28; clear bx28
  clear lx23; have lx23 := fun w' (h : Gr _ w') => HF.out.c 2 rfl w' (HG0.out.trans h)
  clear lx24; have lx24 := fun w' (h : Gr _ w') => HF.out.c 3 rfl w' (HG0.out.trans h)
  simp only [Act.put, lA, lB, lC]
  refine wpPlan_nil (hT.out _ _ ?_)
  intro G vw1 hg hf
  simp only [puts, Act.put, lA, lB, lC, lD, lE, ↓reduceIte, Nat.reduceEqDiff]
  have HG := Lib.hid (((HF.out.gr (HG0.out.trans hg)).ar (RN27.out.gr hg)).ar (RN28.out.gr hg))
  simp only [zq1_, zq2_, zq3_, zq4_, lF, lG] at HG
  clear hT T HF hg hf HG0 RN27 RN28 lx23 lx24
  have lx25 := HG.out.c 4 rfl; have fx25 := HG.out.f 4 rfl
  have r0 := Gr.refl vw1
  go_wp2
  refine kO hK ?_; clear hK K
  clear r0 lx25 fx25
  refine fH (((((((HG.out).put2 4 0 rfl).er 5).er 3).er 2).er 1).er 0) fun Wx1 HF => ?_
  clear HG
  refine wp_ret ?_
  try simp only [Exit.then, Exit.inBlock]
  have lx25 := HF.out.c 0 rfl
  have r0 := Gr.refl Wx1
  exact bodyPost_ret (v := .agg #[.bool (decide ((z) < 0)), (.slice ao2 nn2 cc2)]) (by simp [results, Tryz.results214, go_sem, lx25 _ r0]) rfl ⟨⟨(.slice ao2 nn2 cc2), rfl, (HF.out.rn 1 rfl)⟩, HF.out.1⟩
end Go.Proofs.YtobojnodohjiaaaGreatDoor
/- gussetref02: Add, Of. -/
namespace Go.Proofs.YtobojnodohjiaaaGreatDoor
open Go.RowKit
attribute [local go_sem ↓] Go.wp_at_zero Go.wp_at_succ
theorem cmpI_ge {x y : Nat} (h : 0 ≤ cmpI (x : Int) (y : Int)) : y ≤ x := by
  unfold cmpI at h
  split at h
  · omega
  · omega
theorem cmpI_lt' {x y : Nat} (h : ¬ 0 ≤ cmpI (x : Int) (y : Int)) : x ≤ y := by
  unfold cmpI at h
  split at h
  · omega
  · split at h <;> omega
theorem sg_add {a b : Int} (h : (decide (a < 0) == decide (b < 0)) = true) : (if decide (a < 0) then -((a.natAbs + b.natAbs : Nat) : Int) else ((a.natAbs + b.natAbs : Nat) : Int)) = a + b := by
  have e := beq_iff_eq.1 h
  have e2 := decide_eq_decide.1 e
  by_cases h1 : a < 0
  · have := e2.1 h1; simp only [h1, decide_true, if_true]; omega
  · have : ¬ b < 0 := fun h => h1 (e2.2 h)
    simp only [h1, decide_false, Bool.false_eq_true, if_false]; omega
theorem sg_sub {a b : Int} (h : (decide (a < 0) == decide (b < 0)) = false) (hl : b.natAbs ≤ a.natAbs) : (if decide (a < 0) then -((a.natAbs - b.natAbs : Nat) : Int) else ((a.natAbs - b.natAbs : Nat) : Int)) = a + b := by
  by_cases h1 : a < 0
  · have h2 : ¬ b < 0 := fun h2 => by simp [h1, h2] at h
    simp only [h1, decide_true, if_true]; omega
  · have h2 : b < 0 := by
      rcases Int.lt_or_le b 0 with h2 | h2
      · exact h2
      · simp [h1, show ¬ b < 0 by omega] at h
    simp only [h1, decide_false, Bool.false_eq_true, if_false]; omega
theorem sg_bus {a b : Int} (h : (decide (a < 0) == decide (b < 0)) = false) (hl : a.natAbs ≤ b.natAbs) : (if decide (b < 0) then -((b.natAbs - a.natAbs : Nat) : Int) else ((b.natAbs - a.natAbs : Nat) : Int)) = a + b := by
  have h' : (decide (b < 0) == decide (a < 0)) = false := by rw [← h]; exact Bool.beq_comm
  rw [sg_sub h' hl, Int.add_comm]
set_option maxRecDepth 20000 in
set_option maxHeartbeats 2000000 in
theorem zadd_same (a b z : Int) (va vb : Value) (w : World) (hz : a + b = z) (h : (decide (a < 0) == decide (b < 0)) = true) (hs_a : tw (Int.natAbs a) ≤ 400000000) (hs_b : tw (Int.natAbs b) ≤ 400000000) (bx21 : Rn w va (Int.natAbs (a))) (bx22 : Rn w vb (Int.natAbs (b))) :
    Calls Tryz.prog 210 #[(Value.agg #[.bool (decide ((a) < 0)), va]), (Value.agg #[.bool (decide ((b) < 0)), vb])] w fun e w' => (∃ r1 : Value, e = .returned (.agg #[.bool (decide ((z) < 0)), r1]) ∧ Rn w' r1 (Int.natAbs (z))) ∧ Below w.heap.size w w' := by
  replace hz := Lib.hid hz
  have HS := Lib.hid h
  obtain ⟨ao_va, n_va, c_va, rfl⟩ := Rn.sl bx21
  obtain ⟨ao_vb, n_vb, c_vb, rfl⟩ := Rn.sl bx22
  go_enter Tryz.func210, Tryz.ntmps210
  have HF := Lib.hid (hp0 w)
  replace HF := Lib.hid ((HF.out.ar bx21).ar bx22)
  simp only [lF, lG] at HF
  clear bx21 bx22
  refine kS fun K hK => ?_
  refine wp_region_lit ?_
  go_wp2
  refine kO hK ?_; clear hK K
  refine fH ((((HF.out).aL (w.heap.size)).aL (w.heap.size + 1)).aL (w.heap.size + 1 + 1)) fun Wx0 HG => ?_
  clear HF; have HF := HG; clear HG
  generalize w.heap.size + 1 + 1 = gx25 at *
  generalize w.heap.size + 1 = gx24 at *
  refine wp_seq ?_
  have lx23 := HF.out.c 2 rfl
  have lx24 := HF.out.c 3 rfl
  refine kS fun K hK => ?_
  refine sq 5 [(true, 0), (true, 1), (true, 2), (true, 3), (true, 4)] fun T hT => ?_
  iterate 5 refine tk ?_
  refine nlS hT HF fun vw1 HG => ?_
  clear hT T HF lx23 lx24
  go_wp2
  refine kO hK ?_; clear hK K
  have HF := HG; clear HG
  refine wp_cond_true (by rfl) ?_
  obtain ⟨u1, HZ1⟩ : ∃ z, Hid ((Int.natAbs (a)) + (Int.natAbs (b)) = z) := ⟨_, Lib.hid rfl⟩
  have su1 : tw u1 ≤ 400000001 := by rw [← HZ1.out]; have := tw_add (Int.natAbs (a)) (Int.natAbs (b)); omega
  have HZ2 : Hid ((if decide ((a) < 0) then -((u1 : Nat) : Int) else ((u1 : Nat) : Int)) = z) := Lib.hid (by rw [← hz.out, ← HZ1.out]; exact sg_add HS.out)
  have lx23 := HF.out.c 2 rfl
  have lx24 := HF.out.c 3 rfl
  refine kS fun K hK => ?_
  have HG0 : Hid (Gr vw1 vw1) := Lib.hid (Gr.refl _)
  refine pd 8 [(true, 0), (true, 1), (true, 2), (true, 3), (true, 4), (true, 5), (false, 6), (false, 7)] fun T hT => ?_
  iterate 6 refine tk ?_
  refine wpPlan_callE rfl (by rfl) Tryz.call220 (by rfl) (fun w' hw => (zradd _ _ (Int.natAbs (a)) (Int.natAbs (b)) (u1) _ HZ1.out (HF.out.r 0 rfl (HG0.out.trans hw)) (HF.out.r 1 rfl (HG0.out.trans hw)) (by omega) (by omega)).mono ?_)
  rintro e vv27 ⟨⟨rv1, rfl, bx27⟩, hg0⟩
  obtain ⟨ao1, nn1, cc1, rfl⟩ := Rn.sl bx27
  refine ⟨_, rfl, hg0, ?_⟩
  replace hg0 := Gr.trans hw hg0; clear hw
  replace HG0 := Lib.hid (HG0.out.trans hg0)
  have HGS := Lib.hid hg0; clear hg0
  clear HGS
  have RN27 := Lib.hid bx27; clear bx27
  clear lx23; have lx23 := fun w' (h : Gr _ w') => HF.out.c 2 rfl w' (HG0.out.trans h)
  clear lx24; have lx24 := fun w' (h : Gr _ w') => HF.out.c 3 rfl w' (HG0.out.trans h)
  simp only [Act.put, lA, lB, lC]
  refine wpPlan_callE rfl (by rfl) Tryz.call196 (by rfl) (fun w' hw => (zfrom_any (decide ((a) < 0)) (u1) (z) _ _ HZ2.out (RN27.out.gr hw)).mono ?_)
  rintro e vv28 ⟨⟨rv2, rfl, bx28⟩, hg0⟩
  obtain ⟨ao2, nn2, cc2, rfl⟩ := Rn.sl bx28
  refine ⟨_, rfl, hg0, ?_⟩
  replace hg0 := Gr.trans hw hg0; clear hw
  replace HG0 := Lib.hid (HG0.out.trans hg0)
  have HGS := Lib.hid hg0; clear hg0
  replace RN27 := Lib.hid (RN27.out.gr HGS.out)
  clear HGS
  have RN28 := Lib.hid bx28; clear bx28
  clear lx23; have lx23 := fun w' (h : Gr _ w') => HF.out.c 2 rfl w' (HG0.out.trans h)
  clear lx24; have lx24 := fun w' (h : Gr _ w') => HF.out.c 3 rfl w' (HG0.out.trans h)
  simp only [Act.put, lA, lB, lC]
  refine wpPlan_nil (hT.out _ _ ?_)
  intro G vw2 hg hf
  simp only [puts, Act.put, lA, lB, lC, lD, lE, ↓reduceIte, Nat.reduceEqDiff]
  have HG := Lib.hid (((HF.out.gr (HG0.out.trans hg)).ar (RN27.out.gr hg)).ar (RN28.out.gr hg))
  simp only [zq1_, zq2_, zq3_, zq4_, lF, lG] at HG
  clear hT T HF hg hf HG0 RN27 RN28 lx23 lx24
  have lx25 := HG.out.c 4 rfl; have fx25 := HG.out.f 4 rfl
  have r0 := Gr.refl vw2
  go_wp2
  refine kO hK ?_; clear hK K
  clear r0 lx25 fx25
  refine fH (((HG.out).put2 4 0 rfl).er 5) fun Wx2 HF => ?_
  clear HG
  refine wp_ret ?_
  try simp only [Exit.then, Exit.inBlock]
  have lx25 := HF.out.c 4 rfl
  have r0 := Gr.refl Wx2
  exact bodyPost_ret (v := .agg #[.bool (decide ((z) < 0)), (.slice ao2 nn2 cc2)]) (by simp [results, Tryz.results210, go_sem, lx25 _ r0]) rfl ⟨⟨(.slice ao2 nn2 cc2), rfl, (HF.out.rn 5 rfl)⟩, HF.out.1⟩
set_option maxRecDepth 20000 in
set_option maxHeartbeats 2000000 in
theorem zadd_sub (a b z : Int) (c : Int) (va vb : Value) (w : World) (hz : a + b = z) (h : (decide (a < 0) == decide (b < 0)) = false) (hc : Hid (cmpI (a.natAbs : Int) (b.natAbs : Int) = c)) (hc0 : decide (0 ≤ c) = true) (hs_a : tw (Int.natAbs a) ≤ 400000000) (hs_b : tw (Int.natAbs b) ≤ 400000000) (bx21 : Rn w va (Int.natAbs (a))) (bx22 : Rn w vb (Int.natAbs (b))) :
    Calls Tryz.prog 210 #[(Value.agg #[.bool (decide ((a) < 0)), va]), (Value.agg #[.bool (decide ((b) < 0)), vb])] w fun e w' => (∃ r1 : Value, e = .returned (.agg #[.bool (decide ((z) < 0)), r1]) ∧ Rn w' r1 (Int.natAbs (z))) ∧ Below w.heap.size w w' := by
  replace hz := Lib.hid hz
  have HS := Lib.hid h
  have HLE : Hid (b.natAbs ≤ a.natAbs) := Lib.hid (cmpI_ge (by rw [hc.out]; exact of_decide_eq_true hc0))
  obtain ⟨ao_va, n_va, c_va, rfl⟩ := Rn.sl bx21
  obtain ⟨ao_vb, n_vb, c_vb, rfl⟩ := Rn.sl bx22
  go_enter Tryz.func210, Tryz.ntmps210
  have HF := Lib.hid (hp0 w)
  replace HF := Lib.hid ((HF.out.ar bx21).ar bx22)
  simp only [lF, lG] at HF
  clear bx21 bx22
  refine kS fun K hK => ?_
  refine wp_region_lit ?_
  go_wp2
  refine kO hK ?_; clear hK K
  refine fH ((((HF.out).aL (w.heap.size)).aL (w.heap.size + 1)).aL (w.heap.size + 1 + 1)) fun Wx0 HG => ?_
  clear HF; have HF := HG; clear HG
  generalize w.heap.size + 1 + 1 = gx25 at *
  generalize w.heap.size + 1 = gx24 at *
  refine wp_seq ?_
  have lx23 := HF.out.c 2 rfl
  have lx24 := HF.out.c 3 rfl
  refine kS fun K hK => ?_
  refine sq 5 [(true, 0), (true, 1), (true, 2), (true, 3), (true, 4)] fun T hT => ?_
  iterate 5 refine tk ?_
  refine nlS hT HF fun vw1 HG => ?_
  clear hT T HF lx23 lx24
  go_wp2
  refine kO hK ?_; clear hK K
  have HF := HG; clear HG
  refine wp_cond_false (by rfl) ?_
  refine wp_skip ?_
  show Code.wp _ _ _ _ _
  refine wp_seq ?_
  have lx23 := HF.out.c 2 rfl
  have lx24 := HF.out.c 3 rfl
  refine kS fun K hK => ?_
  refine sq 6 [(true, 0), (true, 1), (true, 2), (true, 3), (true, 4), (true, 5)] fun T hT => ?_
  iterate 4 refine tk ?_
  refine ck Tryz.call219 (fun w' hw => zrcmp _ _ (Int.natAbs (a)) (Int.natAbs (b)) (c) _ (hc.out) (HF.out.r 0 rfl hw) (HF.out.r 1 rfl hw) (by omega) (by omega)) ?_
  refine tk ?_
  refine nlS hT HF fun vw2 HG => ?_
  clear hT T HF lx23 lx24
  go_wp2
  refine kO hK ?_; clear hK K
  have HF := HG; clear HG
  refine wp_cond_true (by rfl) ?_
  obtain ⟨u1, HZ1⟩ : ∃ z, Hid ((Int.natAbs (a)) - (Int.natAbs (b)) = z) := ⟨_, Lib.hid rfl⟩
  have su1 : tw u1 ≤ 400000000 := by rw [← HZ1.out]; have := tw_sub (Int.natAbs (a)) (Int.natAbs (b)); omega
  have HZ2 : Hid ((if decide ((a) < 0) then -((u1 : Nat) : Int) else ((u1 : Nat) : Int)) = z) := Lib.hid (by rw [← hz.out, ← HZ1.out]; exact sg_sub HS.out HLE.out)
  have lx23 := HF.out.c 2 rfl
  have lx24 := HF.out.c 3 rfl
  refine kS fun K hK => ?_
  have HG0 : Hid (Gr vw2 vw2) := Lib.hid (Gr.refl _)
  refine pd 8 [(true, 0), (true, 1), (true, 2), (true, 3), (true, 4), (true, 5), (false, 6), (false, 7)] fun T hT => ?_
  iterate 6 refine tk ?_
  refine wpPlan_callE rfl (by rfl) Tryz.call244 (by rfl) (fun w' hw => (zrsub _ _ (Int.natAbs (a)) (Int.natAbs (b)) (u1) _ HZ1.out (HF.out.r 0 rfl (HG0.out.trans hw)) (HF.out.r 1 rfl (HG0.out.trans hw)) HLE.out (by omega) (by omega)).mono ?_)
  rintro e vv27 ⟨⟨rv1, rfl, bx27⟩, hg0⟩
  obtain ⟨ao1, nn1, cc1, rfl⟩ := Rn.sl bx27
  refine ⟨_, rfl, hg0, ?_⟩
  replace hg0 := Gr.trans hw hg0; clear hw
  replace HG0 := Lib.hid (HG0.out.trans hg0)
  have HGS := Lib.hid hg0; clear hg0
  clear HGS
  have RN27 := Lib.hid bx27; clear bx27
  clear lx23; have lx23 := fun w' (h : Gr _ w') => HF.out.c 2 rfl w' (HG0.out.trans h)
  clear lx24; have lx24 := fun w' (h : Gr _ w') => HF.out.c 3 rfl w' (HG0.out.trans h)
  simp only [Act.put, lA, lB, lC]
  refine wpPlan_callE rfl (by rfl) Tryz.call196 (by rfl) (fun w' hw => (zfrom_any (decide ((a) < 0)) (u1) (z) _ _ HZ2.out (RN27.out.gr hw)).mono ?_)
  rintro e vv28 ⟨⟨rv2, rfl, bx28⟩, hg0⟩
  obtain ⟨ao2, nn2, cc2, rfl⟩ := Rn.sl bx28
  refine ⟨_, rfl, hg0, ?_⟩
  replace hg0 := Gr.trans hw hg0; clear hw
  replace HG0 := Lib.hid (HG0.out.trans hg0)
  have HGS := Lib.hid hg0; clear hg0
  replace RN27 := Lib.hid (RN27.out.gr HGS.out)
  clear HGS
  have RN28 := Lib.hid bx28; clear bx28
  clear lx23; have lx23 := fun w' (h : Gr _ w') => HF.out.c 2 rfl w' (HG0.out.trans h)
  clear lx24; have lx24 := fun w' (h : Gr _ w') => HF.out.c 3 rfl w' (HG0.out.trans h)
  simp only [Act.put, lA, lB, lC]
  refine wpPlan_nil (hT.out _ _ ?_)
  intro G vw3 hg hf
  simp only [puts, Act.put, lA, lB, lC, lD, lE, ↓reduceIte, Nat.reduceEqDiff]
  have HG := Lib.hid (((HF.out.gr (HG0.out.trans hg)).ar (RN27.out.gr hg)).ar (RN28.out.gr hg))
  simp only [zq1_, zq2_, zq3_, zq4_, lF, lG] at HG
  clear hT T HF hg hf HG0 RN27 RN28 lx23 lx24
  have lx25 := HG.out.c 4 rfl; have fx25 := HG.out.f 4 rfl
  have r0 := Gr.refl vw3
  go_wp2
  refine kO hK ?_; clear hK K
  clear r0 lx25 fx25
  refine fH (((HG.out).put2 4 0 rfl).er 5) fun Wx4 HF => ?_
  clear HG
  refine wp_ret ?_
  try simp only [Exit.then, Exit.inBlock]
  have lx25 := HF.out.c 4 rfl
  have r0 := Gr.refl Wx4
  exact bodyPost_ret (v := .agg #[.bool (decide ((z) < 0)), (.slice ao2 nn2 cc2)]) (by simp [results, Tryz.results210, go_sem, lx25 _ r0]) rfl ⟨⟨(.slice ao2 nn2 cc2), rfl, (HF.out.rn 5 rfl)⟩, HF.out.1⟩
set_option maxRecDepth 20000 in
set_option maxHeartbeats 2000000 in
theorem zadd_bus (a b z : Int) (c : Int) (va vb : Value) (w : World) (hz : a + b = z) (h : (decide (a < 0) == decide (b < 0)) = false) (hc : Hid (cmpI (a.natAbs : Int) (b.natAbs : Int) = c)) (hc0 : decide (0 ≤ c) = false) (hs_a : tw (Int.natAbs a) ≤ 400000000) (hs_b : tw (Int.natAbs b) ≤ 400000000) (bx21 : Rn w va (Int.natAbs (a))) (bx22 : Rn w vb (Int.natAbs (b))) :
    Calls Tryz.prog 210 #[(Value.agg #[.bool (decide ((a) < 0)), va]), (Value.agg #[.bool (decide ((b) < 0)), vb])] w fun e w' => (∃ r1 : Value, e = .returned (.agg #[.bool (decide ((z) < 0)), r1]) ∧ Rn w' r1 (Int.natAbs (z))) ∧ Below w.heap.size w w' := by
  replace hz := Lib.hid hz
  have HS := Lib.hid h
  have HLE : Hid (a.natAbs ≤ b.natAbs) := Lib.hid (cmpI_lt' (by rw [hc.out]; exact of_decide_eq_false hc0))
  obtain ⟨ao_va, n_va, c_va, rfl⟩ := Rn.sl bx21
  obtain ⟨ao_vb, n_vb, c_vb, rfl⟩ := Rn.sl bx22
  go_enter Tryz.func210, Tryz.ntmps210
  have HF := Lib.hid (hp0 w)
  replace HF := Lib.hid ((HF.out.ar bx21).ar bx22)
  simp only [lF, lG] at HF
  clear bx21 bx22
  refine kS fun K hK => ?_
  refine wp_region_lit ?_
  go_wp2
  refine kO hK ?_; clear hK K
  refine fH ((((HF.out).aL (w.heap.size)).aL (w.heap.size + 1)).aL (w.heap.size + 1 + 1)) fun Wx0 HG => ?_
  clear HF; have HF := HG; clear HG
  generalize w.heap.size + 1 + 1 = gx25 at *
  generalize w.heap.size + 1 = gx24 at *
  refine wp_seq ?_
  have lx23 := HF.out.c 2 rfl
  have lx24 := HF.out.c 3 rfl
  refine kS fun K hK => ?_
  refine sq 5 [(true, 0), (true, 1), (true, 2), (true, 3), (true, 4)] fun T hT => ?_
  iterate 5 refine tk ?_
  refine nlS hT HF fun vw1 HG => ?_
  clear hT T HF lx23 lx24
  go_wp2
  refine kO hK ?_; clear hK K
  have HF := HG; clear HG
  refine wp_cond_false (by rfl) ?_
  refine wp_skip ?_
  show Code.wp _ _ _ _ _
  refine wp_seq ?_
  have lx23 := HF.out.c 2 rfl
  have lx24 := HF.out.c 3 rfl
  refine kS fun K hK => ?_
  refine sq 6 [(true, 0), (true, 1), (true, 2), (true, 3), (true, 4), (true, 5)] fun T hT => ?_
  iterate 4 refine tk ?_
  refine ck Tryz.call219 (fun w' hw => zrcmp _ _ (Int.natAbs (a)) (Int.natAbs (b)) (c) _ (hc.out) (HF.out.r 0 rfl hw) (HF.out.r 1 rfl hw) (by omega) (by omega)) ?_
  refine tk ?_
  refine nlS hT HF fun vw2 HG => ?_
  clear hT T HF lx23 lx24
  go_wp2
  refine kO hK ?_; clear hK K
  have HF := HG; clear HG
  refine wp_cond_false (by rfl) ?_
  refine wp_skip ?_
  show Code.wp _ _ _ _ _
  obtain ⟨u1, HZ1⟩ : ∃ z, Hid ((Int.natAbs (b)) - (Int.natAbs (a)) = z) := ⟨_, Lib.hid rfl⟩
  have su1 : tw u1 ≤ 400000000 := by rw [← HZ1.out]; have := tw_sub (Int.natAbs (b)) (Int.natAbs (a)); omega
  have HZ2 : Hid ((if decide ((b) < 0) then -((u1 : Nat) : Int) else ((u1 : Nat) : Int)) = z) := Lib.hid (by rw [← hz.out, ← HZ1.out]; exact sg_bus HS.out HLE.out)
  have lx23 := HF.out.c 2 rfl
  have lx24 := HF.out.c 3 rfl
  refine kS fun K hK => ?_
  have HG0 : Hid (Gr vw2 vw2) := Lib.hid (Gr.refl _)
  refine pd 8 [(true, 0), (true, 1), (true, 2), (true, 3), (true, 4), (true, 5), (false, 6), (false, 7)] fun T hT => ?_
  iterate 6 refine tk ?_
  refine wpPlan_callE rfl (by rfl) Tryz.call244 (by rfl) (fun w' hw => (zrsub _ _ (Int.natAbs (b)) (Int.natAbs (a)) (u1) _ HZ1.out (HF.out.r 1 rfl (HG0.out.trans hw)) (HF.out.r 0 rfl (HG0.out.trans hw)) HLE.out (by omega) (by omega)).mono ?_)
  rintro e vv27 ⟨⟨rv1, rfl, bx27⟩, hg0⟩
  obtain ⟨ao1, nn1, cc1, rfl⟩ := Rn.sl bx27
  refine ⟨_, rfl, hg0, ?_⟩
  replace hg0 := Gr.trans hw hg0; clear hw
  replace HG0 := Lib.hid (HG0.out.trans hg0)
  have HGS := Lib.hid hg0; clear hg0
  clear HGS
  have RN27 := Lib.hid bx27; clear bx27
  clear lx23; have lx23 := fun w' (h : Gr _ w') => HF.out.c 2 rfl w' (HG0.out.trans h)
  clear lx24; have lx24 := fun w' (h : Gr _ w') => HF.out.c 3 rfl w' (HG0.out.trans h)
  simp only [Act.put, lA, lB, lC]
  refine wpPlan_callE rfl (by rfl) Tryz.call196 (by rfl) (fun w' hw => (zfrom_any (decide ((b) < 0)) (u1) (z) _ _ HZ2.out (RN27.out.gr hw)).mono ?_)
  rintro e vv28 ⟨⟨rv2, rfl, bx28⟩, hg0⟩
  obtain ⟨ao2, nn2, cc2, rfl⟩ := Rn.sl bx28
  refine ⟨_, rfl, hg0, ?_⟩
  replace hg0 := Gr.trans hw hg0; clear hw
  replace HG0 := Lib.hid (HG0.out.trans hg0)
  have HGS := Lib.hid hg0; clear hg0
  replace RN27 := Lib.hid (RN27.out.gr HGS.out)
  clear HGS
  have RN28 := Lib.hid bx28; clear bx28
  clear lx23; have lx23 := fun w' (h : Gr _ w') => HF.out.c 2 rfl w' (HG0.out.trans h)
  clear lx24; have lx24 := fun w' (h : Gr _ w') => HF.out.c 3 rfl w' (HG0.out.trans h)
  simp only [Act.put, lA, lB, lC]
  refine wpPlan_nil (hT.out _ _ ?_)
  intro G vw3 hg hf
  simp only [puts, Act.put, lA, lB, lC, lD, lE, ↓reduceIte, Nat.reduceEqDiff]
  have HG := Lib.hid (((HF.out.gr (HG0.out.trans hg)).ar (RN27.out.gr hg)).ar (RN28.out.gr hg))
  simp only [zq1_, zq2_, zq3_, zq4_, lF, lG] at HG
  clear hT T HF hg hf HG0 RN27 RN28 lx23 lx24
  have lx25 := HG.out.c 4 rfl; have fx25 := HG.out.f 4 rfl
  have r0 := Gr.refl vw3
  go_wp2
  refine kO hK ?_; clear hK K
  clear r0 lx25 fx25
  refine fH (((((((HG.out).put2 4 0 rfl).er 5).er 3).er 2).er 1).er 0) fun Wx5 HF => ?_
  clear HG
  refine wp_ret ?_
  try simp only [Exit.then, Exit.inBlock]
  have lx25 := HF.out.c 0 rfl
  have r0 := Gr.refl Wx5
  exact bodyPost_ret (v := .agg #[.bool (decide ((z) < 0)), (.slice ao2 nn2 cc2)]) (by simp [results, Tryz.results210, go_sem, lx25 _ r0]) rfl ⟨⟨(.slice ao2 nn2 cc2), rfl, (HF.out.rn 1 rfl)⟩, HF.out.1⟩
theorem zadd_any (a b z : Int) (va vb : Value) (w : World) (hz : a + b = z) (hs_a : tw (Int.natAbs a) ≤ 400000000) (hs_b : tw (Int.natAbs b) ≤ 400000000) (bx21 : Rn w va (Int.natAbs (a))) (bx22 : Rn w vb (Int.natAbs (b))) :
    Calls Tryz.prog 210 #[(Value.agg #[.bool (decide ((a) < 0)), va]), (Value.agg #[.bool (decide ((b) < 0)), vb])] w fun e w' => (∃ r1 : Value, e = .returned (.agg #[.bool (decide ((z) < 0)), r1]) ∧ Rn w' r1 (Int.natAbs (z))) ∧ Below w.heap.size w w' := by
  cases h : (decide (a < 0) == decide (b < 0))
  · cases hc : decide (0 ≤ cmpI (a.natAbs : Int) (b.natAbs : Int))
    · exact zadd_bus a b z _ va vb w hz h (Lib.hid rfl) hc hs_a hs_b bx21 bx22
    · exact zadd_sub a b z _ va vb w hz h (Lib.hid rfl) hc hs_a hs_b bx21 bx22
  · exact zadd_same a b z va vb w hz h hs_a hs_b bx21 bx22
theorem zof_any (n z : Int) (w : World) (hz : n = z) (h1 : -9223372036854775808 ≤ n) (h2 : n ≤ 9223372036854775807) :
    Calls Tryz.prog 211 #[.int .i64 n] w fun e w' => (∃ v', e = .returned (.agg #[.bool (decide (z < 0)), v']) ∧ Rn w' v' z.natAbs) ∧ Below w.heap.size w w' := by
  subst hz
  obtain ⟨m, hm⟩ : ∃ m, n.natAbs = m := ⟨_, rfl⟩
  have hm2 : m < 18446744073709551616 := by omega
  by_cases h : n < 0
  · have hn : n = -((m : Nat) : Int) := by omega
    have HN : Hid ((if true then -((m : Nat) : Int) else ((m : Nat) : Int)) = n) := Lib.hid (by simp; omega)
    have e1 : IntKind.u64.wrap (IntKind.u64.wrap (IntKind.i64.wrap (-IntKind.i64.wrap (n + 1))) + 1) = ((m : Nat) : Int) := by
      rw [IntKind.wrap_i64, IntKind.wrap_i64, IntKind.wrap_u64, IntKind.wrap_u64]; omega
    have e2 : IntKind.u64.wrap (-(n + 1) + 1) = ((m : Nat) : Int) := by rw [IntKind.wrap_u64]; omega
    have e3 : -(n + 1) + 1 = ((m : Nat) : Int) := by omega
    obtain ⟨W0, HW⟩ : ∃ W0, Hid (w.alloc (.cells #[.bool false, .slice none 0 0] 45) = W0) := ⟨_, Lib.hid rfl⟩
    have HX : Hid (Bx W0 w.heap.size 45 #[.bool false, .slice none 0 0]) := Lib.hid (by rw [← HW.out]; exact Bx.new _ _ _)
    have HB0 : Hid (Below w.heap.size w W0) := Lib.hid (by rw [← HW.out]; exact (Below.refl _ _).alloc (Nat.le_refl _) _)
    clear hm hn
    go_enter Tryz.func211, Tryz.ntmps211
    go_wp2_with fail
    rw [HW.out]
    refine (rof_any m _ hm2).mono ?_
    rintro e w1 ⟨⟨v1, rfl, hv⟩, hb⟩
    have HV := Lib.hid hv
    have HB1 : Hid (Gr W0 w1) := Lib.hid hb
    clear hv hb
    go_wp2_with fail
    refine (zfrom_any true m n v1 w1 HN.out HV.out).mono ?_
    rintro e w2 ⟨⟨v2, rfl, hv⟩, hb⟩
    obtain ⟨ao, nn, cc, rfl⟩ := Rn.sl hv
    have HB2 : Hid (Gr W0 w2) := Lib.hid (Gr.trans HB1.out hb)
    have bx2 := HX.out.gr HB2.out
    have HV2 := Lib.hid hv
    have HNE := Lib.hid (Rn.ne hv bx2 (by decide))
    have lx := bx2.cells
    have fx := bx2.free
    have r0 := Gr.refl w2
    clear hv hb bx2 HV HX HW
    go_wp2
    exact bodyPost_ret (v := .agg #[.bool (decide (n < 0)), .slice ao nn cc]) (by simp [results, Tryz.results211, go_sem, lx _ r0, h]) rfl
      ⟨⟨_, rfl, (HV2.out.setOther HNE.out _).setOther HNE.out _⟩, ((Gr.trans HB0.out HB2.out).setCell (Nat.le_refl _) _).setCell (Nat.le_refl _) _⟩
  · have hn : n = ((m : Nat) : Int) := by omega
    have HN : Hid ((if false then -((m : Nat) : Int) else ((m : Nat) : Int)) = n) := Lib.hid (by simp; omega)
    have e1 : IntKind.u64.wrap n = ((m : Nat) : Int) := by rw [IntKind.wrap_u64]; omega
    obtain ⟨W0, HW⟩ : ∃ W0, Hid (w.alloc (.cells #[.bool false, .slice none 0 0] 45) = W0) := ⟨_, Lib.hid rfl⟩
    have HX : Hid (Bx W0 w.heap.size 45 #[.bool false, .slice none 0 0]) := Lib.hid (by rw [← HW.out]; exact Bx.new _ _ _)
    have HB0 : Hid (Below w.heap.size w W0) := Lib.hid (by rw [← HW.out]; exact (Below.refl _ _).alloc (Nat.le_refl _) _)
    clear hm hn
    go_enter Tryz.func211, Tryz.ntmps211
    go_wp2_with fail
    rw [HW.out]
    refine (rof_any m _ hm2).mono ?_
    rintro e w1 ⟨⟨v1, rfl, hv⟩, hb⟩
    have HV := Lib.hid hv
    have HB1 : Hid (Gr W0 w1) := Lib.hid hb
    clear hv hb
    go_wp2_with fail
    refine (zfrom_any false m n v1 w1 HN.out HV.out).mono ?_
    rintro e w2 ⟨⟨v2, rfl, hv⟩, hb⟩
    obtain ⟨ao, nn, cc, rfl⟩ := Rn.sl hv
    have HB2 : Hid (Gr W0 w2) := Lib.hid (Gr.trans HB1.out hb)
    have bx2 := HX.out.gr HB2.out
    have HV2 := Lib.hid hv
    have HNE := Lib.hid (Rn.ne hv bx2 (by decide))
    have lx := bx2.cells
    have fx := bx2.free
    have r0 := Gr.refl w2
    clear hv hb bx2 HV HX HW
    go_wp2
    exact bodyPost_ret (v := .agg #[.bool (decide (n < 0)), .slice ao nn cc]) (by simp [results, Tryz.results211, go_sem, lx _ r0, h]) rfl
      ⟨⟨_, rfl, (HV2.out.setOther HNE.out _).setOther HNE.out _⟩, ((Gr.trans HB0.out HB2.out).setCell (Nat.le_refl _) _).setCell (Nat.le_refl _) _⟩
end Go.Proofs.YtobojnodohjiaaaGreatDoor
/- gussetref03: one, Den, den, From, Int, Sign, Neg, Add, Mul, Sub. -/
namespace Go.Proofs.YtobojnodohjiaaaGreatDoor
open Go.RowKit
attribute [local go_sem ↓] Go.wp_at_zero Go.wp_at_succ
theorem rz_i64 {n : Int} (h1 : -9223372036854775808 ≤ n) (h2 : n ≤ 9223372036854775807) : rz (n : Rat) ≤ 5 := by
  rw [rz_int]
  have := tw_i64 h1 h2
  omega
set_option maxRecDepth 20000 in
set_option maxHeartbeats 2000000 in
theorem rone_any (w : World)  :
    Calls Tryz.prog 221 #[] w fun e w' => (∃ r1 : Value, e = .returned (r1) ∧ Rn w' r1 (1)) ∧ Below w.heap.size w w' := by
  go_enter Tryz.func221, Tryz.ntmps221
  have HF := Lib.hid (hp0 w)
  refine kS fun K hK => ?_
  refine wp_region_lit ?_
  go_wp2
  refine kO hK ?_; clear hK K
  refine fH (HF.out) fun Wx0 HG => ?_
  clear HF; have HF := HG; clear HG
  refine kS fun K hK => ?_
  have HG0 : Hid (Gr Wx0 Wx0) := Lib.hid (Gr.refl _)
  refine sq 2 [(false, 0), (true, 1)] fun T hT => ?_
  refine wpPlan_callE rfl (by rfl) Tryz.call179 (by rfl) (fun w' hw => (rof_any 1 _ (by decide)).mono ?_)
  rintro e vv1 ⟨⟨rv1, rfl, bx1⟩, hg0⟩
  obtain ⟨ao1, nn1, cc1, rfl⟩ := Rn.sl bx1
  refine ⟨_, rfl, hg0, ?_⟩
  replace hg0 := Gr.trans hw hg0; clear hw
  replace HG0 := Lib.hid (HG0.out.trans hg0)
  have HGS := Lib.hid hg0; clear hg0
  clear HGS
  have RN1 := Lib.hid bx1; clear bx1
  simp only [Act.put, lA, lB, lC]
  refine tk ?_
  refine wpPlan_nil (hT.out _ _ ?_)
  intro vw1 hg
  simp only [puts, Act.put, lA, lB, lC, lD, lE, ↓reduceIte, Nat.reduceEqDiff]
  have HG := Lib.hid ((HF.out.gr (HG0.out.trans hg)).ar (RN1.out.gr hg))
  simp only [zq1_, zq2_, zq3_, zq4_, lF, lG] at HG
  clear hT T HF hg HG0 RN1
  go_wp2
  refine kO hK ?_; clear hK K
  have HF := HG; clear HG
  refine wp_ret ?_
  try simp only [Exit.then, Exit.inBlock]
  exact bodyPost_ret (v := (.slice ao1 nn1 cc1)) (by simp [results, Tryz.results221, go_sem]) rfl ⟨⟨(.slice ao1 nn1 cc1), rfl, (HF.out.rn 0 rfl)⟩, HF.out.1⟩
set_option maxRecDepth 20000 in
set_option maxHeartbeats 2000000 in
theorem qDen_any (a : Rat) (z : Nat) (va1 va2 : Value) (w : World) (hz : a.den = z) (hs_a : rz a ≤ 400000000) (bx21 : Rn w va1 (Int.natAbs ((a).num))) (bx22 : Rn w va2 ((a).den - 1)) :
    Calls Tryz.prog 150 #[(Value.agg #[.bool (decide ((a).num < 0)), va1, va2])] w fun e w' => (∃ r1 : Value, e = .returned (r1) ∧ Rn w' r1 (z)) ∧ Below w.heap.size w w' := by
  replace hz := Lib.hid hz
  have hn_a := Nat.le_trans (rz_num a) hs_a
  have hd_a := Nat.le_trans (rz_den a) hs_a
  have he_a := Nat.le_trans (tw_mono (Nat.sub_le a.den 1)) hd_a
  have hp_a : 0 < a.den := a.den_pos
  obtain ⟨ao_va1, n_va1, c_va1, rfl⟩ := Rn.sl bx21
  obtain ⟨ao_va2, n_va2, c_va2, rfl⟩ := Rn.sl bx22
  go_enter Tryz.func150, Tryz.ntmps150
  have HF := Lib.hid (hp0 w)
  replace HF := Lib.hid ((HF.out.ar bx21).ar bx22)
  simp only [lF, lG] at HF
  clear bx21 bx22
  refine kS fun K hK => ?_
  refine wp_region_lit ?_
  go_wp2
  refine kO hK ?_; clear hK K
  refine fH ((HF.out).aL (w.heap.size)) fun Wx0 HG => ?_
  clear HF; have HF := HG; clear HG
  have hone : tw 1 ≤ 1 := tw_small (by decide)
  have HZ1 : Hid (((a).den - 1) + (1) = z) := Lib.hid (by rw [← hz.out]; exact Nat.sub_add_cancel hp_a)
  have lx23 := HF.out.c 2 rfl
  refine kS fun K hK => ?_
  have HG0 : Hid (Gr Wx0 Wx0) := Lib.hid (Gr.refl _)
  refine pd 4 [(true, 0), (true, 1), (false, 2), (false, 3)] fun T hT => ?_
  iterate 2 refine tk ?_
  refine wpPlan_callE rfl (by rfl) Tryz.call221 (by rfl) (fun w' hw => (rone_any _).mono ?_)
  rintro e vv25 ⟨⟨rv1, rfl, bx25⟩, hg0⟩
  obtain ⟨ao1, nn1, cc1, rfl⟩ := Rn.sl bx25
  refine ⟨_, rfl, hg0, ?_⟩
  replace hg0 := Gr.trans hw hg0; clear hw
  replace HG0 := Lib.hid (HG0.out.trans hg0)
  have HGS := Lib.hid hg0; clear hg0
  clear HGS
  have RN25 := Lib.hid bx25; clear bx25
  clear lx23; have lx23 := fun w' (h : Gr _ w') => HF.out.c 2 rfl w' (HG0.out.trans h)
  simp only [Act.put, lA, lB, lC]
  refine wpPlan_callE rfl (by rfl) Tryz.call220 (by rfl) (fun w' hw => (zradd _ _ ((a).den - 1) (1) (z) _ HZ1.out (HF.out.r 1 rfl (HG0.out.trans hw)) (RN25.out.gr hw) (by omega) (by omega)).mono ?_)
  rintro e vv26 ⟨⟨rv2, rfl, bx26⟩, hg0⟩
  obtain ⟨ao2, nn2, cc2, rfl⟩ := Rn.sl bx26
  refine ⟨_, rfl, hg0, ?_⟩
  replace hg0 := Gr.trans hw hg0; clear hw
  replace HG0 := Lib.hid (HG0.out.trans hg0)
  have HGS := Lib.hid hg0; clear hg0
  replace RN25 := Lib.hid (RN25.out.gr HGS.out)
  clear HGS
  have RN26 := Lib.hid bx26; clear bx26
  clear lx23; have lx23 := fun w' (h : Gr _ w') => HF.out.c 2 rfl w' (HG0.out.trans h)
  simp only [Act.put, lA, lB, lC]
  refine wpPlan_nil (hT.out _ _ ?_)
  intro G vw1 hg hf
  simp only [puts, Act.put, lA, lB, lC, lD, lE, ↓reduceIte, Nat.reduceEqDiff]
  have HG := Lib.hid (((HF.out.gr (HG0.out.trans hg)).ar (RN25.out.gr hg)).ar (RN26.out.gr hg))
  simp only [zq1_, zq2_, zq3_, zq4_, lF, lG] at HG
  clear hT T HF hg hf HG0 RN25 RN26 lx23
  go_wp2
  refine kO hK ?_; clear hK K
  refine fH (((((HG.out).er 3).er 2).er 1).er 0) fun Wx1 HF => ?_
  clear HG
  refine wp_ret ?_
  try simp only [Exit.then, Exit.inBlock]
  exact bodyPost_ret (v := (.slice ao2 nn2 cc2)) (by simp [results, Tryz.results150, go_sem]) rfl ⟨⟨(.slice ao2 nn2 cc2), rfl, (HF.out.rn 0 rfl)⟩, HF.out.1⟩
set_option maxRecDepth 20000 in
set_option maxHeartbeats 2000000 in
theorem qden_any (a : Rat) (z : Int) (va1 va2 : Value) (w : World) (hz : ((a.den : Nat) : Int) = z) (hs_a : rz a ≤ 400000000) (bx21 : Rn w va1 (Int.natAbs ((a).num))) (bx22 : Rn w va2 ((a).den - 1)) :
    Calls Tryz.prog 215 #[(Value.agg #[.bool (decide ((a).num < 0)), va1, va2])] w fun e w' => (∃ r1 : Value, e = .returned (.agg #[.bool (decide ((z) < 0)), r1]) ∧ Rn w' r1 (Int.natAbs (z))) ∧ Below w.heap.size w w' := by
  replace hz := Lib.hid hz
  have hn_a := Nat.le_trans (rz_num a) hs_a
  have hd_a := Nat.le_trans (rz_den a) hs_a
  have he_a := Nat.le_trans (tw_mono (Nat.sub_le a.den 1)) hd_a
  have hp_a : 0 < a.den := a.den_pos
  obtain ⟨ao_va1, n_va1, c_va1, rfl⟩ := Rn.sl bx21
  obtain ⟨ao_va2, n_va2, c_va2, rfl⟩ := Rn.sl bx22
  go_enter Tryz.func215, Tryz.ntmps215
  have HF := Lib.hid (hp0 w)
  replace HF := Lib.hid ((HF.out.ar bx21).ar bx22)
  simp only [lF, lG] at HF
  clear bx21 bx22
  refine kS fun K hK => ?_
  refine wp_region_lit ?_
  go_wp2
  refine kO hK ?_; clear hK K
  refine fH (((HF.out).aL (w.heap.size)).aL (w.heap.size + 1)) fun Wx0 HG => ?_
  clear HF; have HF := HG; clear HG
  generalize w.heap.size + 1 = gx24 at *
  obtain ⟨u1, HZ1⟩ : ∃ z, Hid ((a).den = z) := ⟨_, Lib.hid rfl⟩
  have su1 : tw u1 ≤ 400000000 := by rw [← HZ1.out]; have := rz_den (a); omega
  have HZ2 : Hid ((if false then -((u1 : Nat) : Int) else ((u1 : Nat) : Int)) = z) := Lib.hid (by rw [← hz.out, ← HZ1.out]; rfl)
  have lx23 := HF.out.c 2 rfl
  refine kS fun K hK => ?_
  have HG0 : Hid (Gr Wx0 Wx0) := Lib.hid (Gr.refl _)
  refine sq 3 [(true, 0), (false, 1), (false, 2)] fun T hT => ?_
  refine tk ?_
  refine wpPlan_callE rfl (by rfl) Tryz.call150 (by rfl) (fun w' hw => (qDen_any (a) (u1) _ _ _ HZ1.out (by omega) (HF.out.r 0 rfl (HG0.out.trans hw)) (HF.out.r 1 rfl (HG0.out.trans hw))).mono ?_)
  rintro e vv26 ⟨⟨rv1, rfl, bx26⟩, hg0⟩
  obtain ⟨ao1, nn1, cc1, rfl⟩ := Rn.sl bx26
  refine ⟨_, rfl, hg0, ?_⟩
  replace hg0 := Gr.trans hw hg0; clear hw
  replace HG0 := Lib.hid (HG0.out.trans hg0)
  have HGS := Lib.hid hg0; clear hg0
  clear HGS
  have RN26 := Lib.hid bx26; clear bx26
  clear lx23; have lx23 := fun w' (h : Gr _ w') => HF.out.c 2 rfl w' (HG0.out.trans h)
  simp only [Act.put, lA, lB, lC]
  refine wpPlan_callE rfl (by rfl) Tryz.call196 (by rfl) (fun w' hw => (zfrom_any (false) (u1) (z) _ _ HZ2.out (RN26.out.gr hw)).mono ?_)
  rintro e vv27 ⟨⟨rv2, rfl, bx27⟩, hg0⟩
  obtain ⟨ao2, nn2, cc2, rfl⟩ := Rn.sl bx27
  refine ⟨_, rfl, hg0, ?_⟩
  replace hg0 := Gr.trans hw hg0; clear hw
  replace HG0 := Lib.hid (HG0.out.trans hg0)
  have HGS := Lib.hid hg0; clear hg0
  replace RN26 := Lib.hid (RN26.out.gr HGS.out)
  clear HGS
  have RN27 := Lib.hid bx27; clear bx27
  clear lx23; have lx23 := fun w' (h : Gr _ w') => HF.out.c 2 rfl w' (HG0.out.trans h)
  simp only [Act.put, lA, lB, lC]
  refine wpPlan_nil (hT.out _ _ ?_)
  intro vw1 hg
  simp only [puts, Act.put, lA, lB, lC, lD, lE, ↓reduceIte, Nat.reduceEqDiff]
  have HG := Lib.hid (((HF.out.gr (HG0.out.trans hg)).ar (RN26.out.gr hg)).ar (RN27.out.gr hg))
  simp only [zq1_, zq2_, zq3_, zq4_, lF, lG] at HG
  clear hT T HF hg HG0 RN26 RN27 lx23
  have lx24 := HG.out.c 3 rfl; have fx24 := HG.out.f 3 rfl
  have r0 := Gr.refl vw1
  go_wp2
  refine kO hK ?_; clear hK K
  clear r0 lx24 fx24
  refine fH ((((((HG.out).put2 3 0 rfl).er 4).er 2).er 1).er 0) fun Wx1 HF => ?_
  clear HG
  refine wp_ret ?_
  try simp only [Exit.then, Exit.inBlock]
  have lx24 := HF.out.c 0 rfl
  have r0 := Gr.refl Wx1
  exact bodyPost_ret (v := .agg #[.bool (decide ((z) < 0)), (.slice ao2 nn2 cc2)]) (by simp [results, Tryz.results215, go_sem, lx24 _ r0]) rfl ⟨⟨(.slice ao2 nn2 cc2), rfl, (HF.out.rn 1 rfl)⟩, HF.out.1⟩
set_option maxRecDepth 20000 in
set_option maxHeartbeats 2000000 in
theorem qfrom_any (n : Int) (d : Nat) (z : Rat) (vn vd : Value) (w : World) (hz : mkRat n d = z) (hd0 : 0 < d) (hs_n : tw (Int.natAbs n) ≤ 400000000) (hs_d : tw d ≤ 400000000) (bx21 : Rn w vn (Int.natAbs (n))) (bx22 : Rn w vd (d)) :
    Calls Tryz.prog 195 #[(Value.agg #[.bool (decide ((n) < 0)), vn]), vd] w fun e w' => (∃ r1 r2 : Value, e = .returned (.agg #[.bool (decide ((z).num < 0)), r1, r2]) ∧ Rn w' r1 (Int.natAbs ((z).num)) ∧ Rn w' r2 ((z).den - 1)) ∧ Below w.heap.size w w' := by
  replace hz := Lib.hid hz
  obtain ⟨ao_vn, n_vn, c_vn, rfl⟩ := Rn.sl bx21
  obtain ⟨ao_vd, n_vd, c_vd, rfl⟩ := Rn.sl bx22
  go_enter Tryz.func195, Tryz.ntmps195
  have HF := Lib.hid (hp0 w)
  replace HF := Lib.hid ((HF.out.ar bx21).ar bx22)
  simp only [lF, lG] at HF
  clear bx21 bx22
  refine kS fun K hK => ?_
  refine wp_region_lit ?_
  go_wp2
  refine kO hK ?_; clear hK K
  refine fH (((HF.out).aL (w.heap.size)).aL (w.heap.size + 1)) fun Wx0 HG => ?_
  clear HF; have HF := HG; clear HG
  generalize w.heap.size + 1 = gx24 at *
  obtain ⟨u1, HZ1⟩ : ∃ z, Hid (Nat.gcd (Int.natAbs (n)) (d) = z) := ⟨_, Lib.hid rfl⟩
  have su1 : tw u1 ≤ 400000000 := by rw [← HZ1.out]; have := tw_gcd (Int.natAbs (n)) (d); omega
  have lx23 := HF.out.c 2 rfl
  refine kS fun K hK => ?_
  have HG0 : Hid (Gr Wx0 Wx0) := Lib.hid (Gr.refl _)
  refine sq 5 [(true, 0), (true, 1), (true, 2), (false, 3), (true, 4)] fun T hT => ?_
  iterate 3 refine tk ?_
  refine wpPlan_callE rfl (by rfl) Tryz.call248 (by rfl) (fun w' hw => (zrgcd _ _ (Int.natAbs (n)) (d) (u1) _ HZ1.out (HF.out.r 0 rfl (HG0.out.trans hw)) (HF.out.r 1 rfl (HG0.out.trans hw)) (by omega) (by omega)).mono ?_)
  rintro e vv26 ⟨⟨rv1, rfl, bx26⟩, hg0⟩
  obtain ⟨ao1, nn1, cc1, rfl⟩ := Rn.sl bx26
  refine ⟨_, rfl, hg0, ?_⟩
  replace hg0 := Gr.trans hw hg0; clear hw
  replace HG0 := Lib.hid (HG0.out.trans hg0)
  have HGS := Lib.hid hg0; clear hg0
  clear HGS
  have RN26 := Lib.hid bx26; clear bx26
  clear lx23; have lx23 := fun w' (h : Gr _ w') => HF.out.c 2 rfl w' (HG0.out.trans h)
  simp only [Act.put, lA, lB, lC]
  refine tk ?_
  refine wpPlan_nil (hT.out _ _ ?_)
  intro vw1 hg
  simp only [puts, Act.put, lA, lB, lC, lD, lE, ↓reduceIte, Nat.reduceEqDiff]
  have HG := Lib.hid ((HF.out.gr (HG0.out.trans hg)).ar (RN26.out.gr hg))
  simp only [zq1_, zq2_, zq3_, zq4_, lF, lG] at HG
  clear hT T HF hg HG0 RN26 lx23
  go_wp2
  refine kO hK ?_; clear hK K
  have HF := HG; clear HG
  obtain ⟨u2, HZ2⟩ : ∃ z, Hid ((Int.natAbs (n)) / (u1) = z) := ⟨_, Lib.hid rfl⟩
  have su2 : tw u2 ≤ 400000000 := by rw [← HZ2.out]; have := tw_div (Int.natAbs (n)) (u1); omega
  obtain ⟨u3, HZ3⟩ : ∃ z, Hid ((Int.natAbs (n)) % (u1) = z) := ⟨_, Lib.hid rfl⟩
  have su3 : tw u3 ≤ 400000000 := by rw [← HZ3.out]; have := tw_mod (Int.natAbs (n)) (u1); omega
  have lx23 := HF.out.c 2 rfl
  refine kS fun K hK => ?_
  have HG0 : Hid (Gr vw1 vw1) := Lib.hid (Gr.refl _)
  refine sq 9 [(true, 0), (true, 1), (true, 2), (false, 3), (true, 4), (true, 5), (true, 6), (true, 7), (true, 8)] fun T hT => ?_
  iterate 3 refine tk ?_
  refine wpPlan_callE rfl (by rfl) Tryz.call176 (by rfl) (fun w' hw => (zrdiv _ _ (Int.natAbs (n)) (u1) (u2) (u3) _ HZ2.out HZ3.out (HF.out.r 0 rfl (HG0.out.trans hw)) (HF.out.r 4 rfl (HG0.out.trans hw)) (by rw [← HZ1.out]; exact Nat.gcd_pos_of_pos_right _ hd0) (by omega) (by omega)).mono ?_)
  rintro e vv27 ⟨⟨rv2, rv3, rfl, bx27, bx28⟩, hg0⟩
  obtain ⟨ao2, nn2, cc2, rfl⟩ := Rn.sl bx27
  obtain ⟨ao3, nn3, cc3, rfl⟩ := Rn.sl bx28
  refine ⟨_, rfl, hg0, ?_⟩
  replace hg0 := Gr.trans hw hg0; clear hw
  replace HG0 := Lib.hid (HG0.out.trans hg0)
  have HGS := Lib.hid hg0; clear hg0
  clear HGS
  have RN27 := Lib.hid bx27; clear bx27
  have RN28 := Lib.hid bx28; clear bx28
  clear lx23; have lx23 := fun w' (h : Gr _ w') => HF.out.c 2 rfl w' (HG0.out.trans h)
  simp only [Act.put, lA, lB, lC]
  iterate 5 refine tk ?_
  refine wpPlan_nil (hT.out _ _ ?_)
  intro vw2 hg
  simp only [puts, Act.put, lA, lB, lC, lD, lE, ↓reduceIte, Nat.reduceEqDiff]
  have HG := Lib.hid (((HF.out.gr (HG0.out.trans hg)).ar (RN27.out.gr hg)).ar (RN28.out.gr hg))
  simp only [zq1_, zq2_, zq3_, zq4_, lF, lG] at HG
  clear hT T HF hg HG0 RN27 RN28 lx23
  go_wp2
  refine kO hK ?_; clear hK K
  refine fH ((HG.out).er 6) fun Wx2 HF => ?_
  clear HG
  obtain ⟨u4, HZ4⟩ : ∃ z, Hid ((d) / (u1) = z) := ⟨_, Lib.hid rfl⟩
  have su4 : tw u4 ≤ 400000000 := by rw [← HZ4.out]; have := tw_div (d) (u1); omega
  obtain ⟨u5, HZ5⟩ : ∃ z, Hid ((d) % (u1) = z) := ⟨_, Lib.hid rfl⟩
  have su5 : tw u5 ≤ 400000000 := by rw [← HZ5.out]; have := tw_mod (d) (u1); omega
  refine kS fun K hK => ?_
  have HG0 : Hid (Gr Wx2 Wx2) := Lib.hid (Gr.refl _)
  refine sq 8 [(true, 0), (true, 1), (false, 2), (true, 3), (true, 4), (true, 5), (true, 6), (true, 7)] fun T hT => ?_
  iterate 2 refine tk ?_
  refine wpPlan_callE rfl (by rfl) Tryz.call176 (by rfl) (fun w' hw => (zrdiv _ _ (d) (u1) (u4) (u5) _ HZ4.out HZ5.out (HF.out.r 1 rfl (HG0.out.trans hw)) (HF.out.r 4 rfl (HG0.out.trans hw)) (by rw [← HZ1.out]; exact Nat.gcd_pos_of_pos_right _ hd0) (by omega) (by omega)).mono ?_)
  rintro e vv29 ⟨⟨rv4, rv5, rfl, bx29, bx30⟩, hg0⟩
  obtain ⟨ao4, nn4, cc4, rfl⟩ := Rn.sl bx29
  obtain ⟨ao5, nn5, cc5, rfl⟩ := Rn.sl bx30
  refine ⟨_, rfl, hg0, ?_⟩
  replace hg0 := Gr.trans hw hg0; clear hw
  replace HG0 := Lib.hid (HG0.out.trans hg0)
  have HGS := Lib.hid hg0; clear hg0
  clear HGS
  have RN29 := Lib.hid bx29; clear bx29
  have RN30 := Lib.hid bx30; clear bx30
  simp only [Act.put, lA, lB, lC]
  iterate 5 refine tk ?_
  refine wpPlan_nil (hT.out _ _ ?_)
  intro vw3 hg
  simp only [puts, Act.put, lA, lB, lC, lD, lE, ↓reduceIte, Nat.reduceEqDiff]
  have HG := Lib.hid (((HF.out.gr (HG0.out.trans hg)).ar (RN29.out.gr hg)).ar (RN30.out.gr hg))
  simp only [zq1_, zq2_, zq3_, zq4_, lF, lG] at HG
  clear hT T HF hg HG0 RN29 RN30
  go_wp2
  refine kO hK ?_; clear hK K
  refine fH ((((HG.out).er 7).er 4).er 1) fun Wx3 HF => ?_
  clear HG
  have HZ6 : Hid ((if decide ((n) < 0) then -((u2 : Nat) : Int) else ((u2 : Nat) : Int)) = (z).num) := Lib.hid (by rw [← HZ2.out, ← HZ1.out, ← hz.out, ← low_num n d hd0]; simp only [decide_eq_true_eq])
  have hone : tw 1 ≤ 1 := tw_small (by decide)
  have HZ7 : Hid ((u4) - (1) = (z).den - 1) := Lib.hid (by rw [← HZ4.out, ← HZ1.out, ← hz.out, ← low_den n d hd0])
  have lx23 := HF.out.c 1 rfl
  refine kS fun K hK => ?_
  have HG0 : Hid (Gr Wx3 Wx3) := Lib.hid (Gr.refl _)
  refine sq 8 [(true, 0), (true, 1), (true, 2), (false, 3), (true, 4), (false, 5), (false, 6), (true, 7)] fun T hT => ?_
  iterate 3 refine tk ?_
  refine wpPlan_callE rfl (by rfl) Tryz.call196 (by rfl) (fun w' hw => (zfrom_any (decide ((n) < 0)) (u2) ((z).num) _ _ HZ6.out (HF.out.r 3 rfl (HG0.out.trans hw))).mono ?_)
  rintro e vv31 ⟨⟨rv6, rfl, bx31⟩, hg0⟩
  obtain ⟨ao6, nn6, cc6, rfl⟩ := Rn.sl bx31
  refine ⟨_, rfl, hg0, ?_⟩
  replace hg0 := Gr.trans hw hg0; clear hw
  replace HG0 := Lib.hid (HG0.out.trans hg0)
  have HGS := Lib.hid hg0; clear hg0
  clear HGS
  have RN31 := Lib.hid bx31; clear bx31
  clear lx23; have lx23 := fun w' (h : Gr _ w') => HF.out.c 1 rfl w' (HG0.out.trans h)
  simp only [Act.put, lA, lB, lC]
  refine tk ?_
  refine wpPlan_callE rfl (by rfl) Tryz.call221 (by rfl) (fun w' hw => (rone_any _).mono ?_)
  rintro e vv32 ⟨⟨rv7, rfl, bx32⟩, hg0⟩
  obtain ⟨ao7, nn7, cc7, rfl⟩ := Rn.sl bx32
  refine ⟨_, rfl, hg0, ?_⟩
  replace hg0 := Gr.trans hw hg0; clear hw
  replace HG0 := Lib.hid (HG0.out.trans hg0)
  have HGS := Lib.hid hg0; clear hg0
  replace RN31 := Lib.hid (RN31.out.gr HGS.out)
  clear HGS
  have RN32 := Lib.hid bx32; clear bx32
  clear lx23; have lx23 := fun w' (h : Gr _ w') => HF.out.c 1 rfl w' (HG0.out.trans h)
  simp only [Act.put, lA, lB, lC]
  refine wpPlan_callE rfl (by rfl) Tryz.call244 (by rfl) (fun w' hw => (zrsub _ _ (u4) (1) ((z).den - 1) _ HZ7.out (HF.out.r 4 rfl (HG0.out.trans hw)) (RN32.out.gr hw) (by rw [← HZ4.out, ← HZ1.out]; exact Nat.div_pos (Nat.gcd_le_right _ hd0) (Nat.gcd_pos_of_pos_right _ hd0)) (by omega) (by omega)).mono ?_)
  rintro e vv33 ⟨⟨rv8, rfl, bx33⟩, hg0⟩
  obtain ⟨ao8, nn8, cc8, rfl⟩ := Rn.sl bx33
  refine ⟨_, rfl, hg0, ?_⟩
  replace hg0 := Gr.trans hw hg0; clear hw
  replace HG0 := Lib.hid (HG0.out.trans hg0)
  have HGS := Lib.hid hg0; clear hg0
  replace RN31 := Lib.hid (RN31.out.gr HGS.out)
  replace RN32 := Lib.hid (RN32.out.gr HGS.out)
  clear HGS
  have RN33 := Lib.hid bx33; clear bx33
  clear lx23; have lx23 := fun w' (h : Gr _ w') => HF.out.c 1 rfl w' (HG0.out.trans h)
  simp only [Act.put, lA, lB, lC]
  refine tk ?_
  refine wpPlan_nil (hT.out _ _ ?_)
  intro vw4 hg
  simp only [puts, Act.put, lA, lB, lC, lD, lE, ↓reduceIte, Nat.reduceEqDiff]
  have HG := Lib.hid ((((HF.out.gr (HG0.out.trans hg)).ar (RN31.out.gr hg)).ar (RN32.out.gr hg)).ar (RN33.out.gr hg))
  simp only [zq1_, zq2_, zq3_, zq4_, lF, lG] at HG
  clear hT T HF hg HG0 RN31 RN32 RN33 lx23
  have lx24 := HG.out.c 2 rfl; have fx24 := HG.out.f 2 rfl
  have r0 := Gr.refl vw4
  go_wp2
  refine kO hK ?_; clear hK K
  clear r0 lx24 fx24
  refine fH ((((((((HG.out).put2 2 0 rfl).put 2 2 _ rfl).er 6).er 4).er 3).er 1).er 0) fun Wx4 HF => ?_
  clear HG
  refine wp_ret ?_
  try simp only [Exit.then, Exit.inBlock]
  have lx24 := HF.out.c 0 rfl
  have r0 := Gr.refl Wx4
  exact bodyPost_ret (v := .agg #[.bool (decide ((z).num < 0)), (.slice ao6 nn6 cc6), (.slice ao8 nn8 cc8)]) (by simp [results, Tryz.results195, go_sem, lx24 _ r0]) rfl ⟨⟨(.slice ao6 nn6 cc6), (.slice ao8 nn8 cc8), rfl, (HF.out.rn 1 rfl), (HF.out.rn 2 rfl)⟩, HF.out.1⟩
set_option maxRecDepth 20000 in
set_option maxHeartbeats 2000000 in
theorem qint_any (n : Int) (z : Rat) (w : World) (hz : (n : Rat) = z) (h1 : -9223372036854775808 ≤ n) (h2 : n ≤ 9223372036854775807)  :
    Calls Tryz.prog 173 #[.int .i64 (n)] w fun e w' => (∃ r1 r2 : Value, e = .returned (.agg #[.bool (decide ((z).num < 0)), r1, r2]) ∧ Rn w' r1 (Int.natAbs ((z).num)) ∧ Rn w' r2 ((z).den - 1)) ∧ Below w.heap.size w w' := by
  replace hz := Lib.hid hz
  go_enter Tryz.func173, Tryz.ntmps173
  have HF := Lib.hid (hp0 w)
  refine kS fun K hK => ?_
  refine wp_region_lit ?_
  go_wp2
  refine kO hK ?_; clear hK K
  refine fH ((HF.out).aL (w.heap.size)) fun Wx0 HG => ?_
  clear HF; have HF := HG; clear HG
  have HZ1 : Hid (n = (z).num) := Lib.hid (by rw [← hz.out]; rfl)
  refine kS fun K hK => ?_
  have HG0 : Hid (Gr Wx0 Wx0) := Lib.hid (Gr.refl _)
  refine sq 3 [(true, 0), (false, 1), (true, 2)] fun T hT => ?_
  refine tk ?_
  refine wpPlan_callE rfl (by rfl) Tryz.call211 (by rfl) (fun w' hw => (zof_any (n) ((z).num) _ HZ1.out (by omega) (by omega)).mono ?_)
  rintro e vv2 ⟨⟨rv1, rfl, bx2⟩, hg0⟩
  obtain ⟨ao1, nn1, cc1, rfl⟩ := Rn.sl bx2
  refine ⟨_, rfl, hg0, ?_⟩
  replace hg0 := Gr.trans hw hg0; clear hw
  replace HG0 := Lib.hid (HG0.out.trans hg0)
  have HGS := Lib.hid hg0; clear hg0
  clear HGS
  have RN2 := Lib.hid bx2; clear bx2
  simp only [Act.put, lA, lB, lC]
  refine tk ?_
  refine wpPlan_nil (hT.out _ _ ?_)
  intro vw1 hg
  simp only [puts, Act.put, lA, lB, lC, lD, lE, ↓reduceIte, Nat.reduceEqDiff]
  have HG := Lib.hid ((HF.out.gr (HG0.out.trans hg)).ar (RN2.out.gr hg))
  simp only [zq1_, zq2_, zq3_, zq4_, lF, lG] at HG
  clear hT T HF hg HG0 RN2
  have lx0 := HG.out.c 0 rfl; have fx0 := HG.out.f 0 rfl
  have r0 := Gr.refl vw1
  go_wp2
  refine kO hK ?_; clear hK K
  clear r0 lx0 fx0
  refine fH (((HG.out).put2 0 0 rfl).put 0 2 _ rfl) fun Wx1 HF => ?_
  clear HG
  refine wp_ret ?_
  try simp only [Exit.then, Exit.inBlock]
  have lx0 := HF.out.c 0 rfl
  have r0 := Gr.refl Wx1
  exact bodyPost_ret (v := .agg #[.bool (decide ((z).num < 0)), (.slice ao1 nn1 cc1), .slice none 0 0]) (by simp [results, Tryz.results173, go_sem, lx0 _ r0]) rfl ⟨⟨(.slice ao1 nn1 cc1), .slice none 0 0, rfl, (HF.out.rn 1 rfl), (by rw [show (z).den - 1 = 0 from by rw [← hz.out]; rfl]; exact Rn.zero _)⟩, HF.out.1⟩
set_option maxRecDepth 20000 in
set_option maxHeartbeats 2000000 in
theorem qsign_any (a : Rat) (t : Int) (va1 va2 : Value) (w : World) (ht : sgQ a = t) (bx21 : Rn w va1 (Int.natAbs ((a).num))) (bx22 : Rn w va2 ((a).den - 1)) :
    Calls Tryz.prog 88 #[(Value.agg #[.bool (decide ((a).num < 0)), va1, va2])] w fun e w' => e = .returned (.int .i64 (t)) ∧ Below w.heap.size w w' := by
  replace ht := Lib.hid ht
  obtain ⟨ao_va1, n_va1, c_va1, rfl⟩ := Rn.sl bx21
  obtain ⟨ao_va2, n_va2, c_va2, rfl⟩ := Rn.sl bx22
  go_enter Tryz.func88, Tryz.ntmps88
  have HF := Lib.hid (hp0 w)
  replace HF := Lib.hid ((HF.out.ar bx21).ar bx22)
  simp only [lF, lG] at HF
  clear bx21 bx22
  refine kS fun K hK => ?_
  refine wp_region_lit ?_
  go_wp2
  refine kO hK ?_; clear hK K
  refine fH ((HF.out).aL (w.heap.size)) fun Wx0 HG => ?_
  clear HF; have HF := HG; clear HG
  have lx23 := HF.out.c 2 rfl
  refine kS fun K hK => ?_
  refine sq 4 [(true, 0), (true, 1), (true, 2), (true, 3)] fun T hT => ?_
  iterate 2 refine tk ?_
  refine ck Tryz.call194 (fun w' hw => zsign_any ((a).num) (t) _ _ (by rw [← ht.out, sgQ_num]; rfl) (HF.out.r 0 rfl hw)) ?_
  refine tk ?_
  refine nlS hT HF fun vw1 HG => ?_
  clear hT T HF lx23
  go_wp2
  refine kO hK ?_; clear hK K
  refine fH ((((HG.out).er 2).er 1).er 0) fun Wx1 HF => ?_
  clear HG
  refine wp_ret ?_
  try simp only [Exit.then, Exit.inBlock]
  exact bodyPost_ret (v := .int .i64 (t)) (by simp [results, Tryz.results88, go_sem]) rfl ⟨rfl, HF.out.1⟩
set_option maxRecDepth 20000 in
set_option maxHeartbeats 2000000 in
theorem qneg_any (a z : Rat) (va1 va2 : Value) (w : World) (hz : -a = z) (bx21 : Rn w va1 (Int.natAbs ((a).num))) (bx22 : Rn w va2 ((a).den - 1)) :
    Calls Tryz.prog 136 #[(Value.agg #[.bool (decide ((a).num < 0)), va1, va2])] w fun e w' => (∃ r1 r2 : Value, e = .returned (.agg #[.bool (decide ((z).num < 0)), r1, r2]) ∧ Rn w' r1 (Int.natAbs ((z).num)) ∧ Rn w' r2 ((z).den - 1)) ∧ Below w.heap.size w w' := by
  replace hz := Lib.hid hz
  obtain ⟨ao_va1, n_va1, c_va1, rfl⟩ := Rn.sl bx21
  obtain ⟨ao_va2, n_va2, c_va2, rfl⟩ := Rn.sl bx22
  go_enter Tryz.func136, Tryz.ntmps136
  have HF := Lib.hid (hp0 w)
  replace HF := Lib.hid ((HF.out.ar bx21).ar bx22)
  simp only [lF, lG] at HF
  clear bx21 bx22
  refine kS fun K hK => ?_
  refine wp_region_lit ?_
  go_wp2
  refine kO hK ?_; clear hK K
  refine fH (((HF.out).aL (w.heap.size)).aL (w.heap.size + 1)) fun Wx0 HG => ?_
  clear HF; have HF := HG; clear HG
  generalize w.heap.size + 1 = gx24 at *
  have HZ1 : Hid (-((a).num) = (z).num) := Lib.hid (by rw [← hz.out, Rat.neg_num])
  have lx23 := HF.out.c 2 rfl
  refine kS fun K hK => ?_
  have HG0 : Hid (Gr Wx0 Wx0) := Lib.hid (Gr.refl _)
  refine pd 6 [(true, 0), (true, 1), (true, 3), (true, 4), (false, 2), (true, 5)] fun T hT => ?_
  iterate 4 refine tk ?_
  refine wpPlan_callE rfl (by rfl) Tryz.call216 (by rfl) (fun w' hw => (zneg_any ((a).num) ((z).num) _ _ HZ1.out (HF.out.r 0 rfl (HG0.out.trans hw))).mono ?_)
  rintro e vv26 ⟨⟨rv1, rfl, bx26⟩, hg0⟩
  obtain ⟨ao1, nn1, cc1, rfl⟩ := Rn.sl bx26
  refine ⟨_, rfl, hg0, ?_⟩
  replace hg0 := Gr.trans hw hg0; clear hw
  replace HG0 := Lib.hid (HG0.out.trans hg0)
  have HGS := Lib.hid hg0; clear hg0
  clear HGS
  have RN26 := Lib.hid bx26; clear bx26
  clear lx23; have lx23 := fun w' (h : Gr _ w') => HF.out.c 2 rfl w' (HG0.out.trans h)
  simp only [Act.put, lA, lB, lC]
  refine tk ?_
  refine wpPlan_nil (hT.out _ _ ?_)
  intro G vw1 hg hf
  simp only [puts, Act.put, lA, lB, lC, lD, lE, ↓reduceIte, Nat.reduceEqDiff]
  have HG := Lib.hid ((HF.out.gr (HG0.out.trans hg)).ar (RN26.out.gr hg))
  simp only [zq1_, zq2_, zq3_, zq4_, lF, lG] at HG
  clear hT T HF hg hf HG0 RN26 lx23
  have lx24 := HG.out.c 3 rfl; have fx24 := HG.out.f 3 rfl
  have r0 := Gr.refl vw1
  go_wp2
  refine kO hK ?_; clear hK K
  clear r0 lx24 fx24
  refine fH (((((HG.out).put2 3 0 rfl).put 3 2 _ rfl).er 2).er 0) fun Wx1 HF => ?_
  clear HG
  refine wp_ret ?_
  try simp only [Exit.then, Exit.inBlock]
  have lx24 := HF.out.c 1 rfl
  have r0 := Gr.refl Wx1
  exact bodyPost_ret (v := .agg #[.bool (decide ((z).num < 0)), (.slice ao1 nn1 cc1), (.slice ao_va2 n_va2 c_va2)]) (by simp [results, Tryz.results136, go_sem, lx24 _ r0]) rfl ⟨⟨(.slice ao1 nn1 cc1), (.slice ao_va2 n_va2 c_va2), rfl, (HF.out.rn 2 rfl), (by rw [show (z).den - 1 = (a).den - 1 from by rw [← hz.out, Rat.neg_den]]; exact (HF.out.rn 0 rfl))⟩, HF.out.1⟩
set_option maxRecDepth 20000 in
set_option maxHeartbeats 2000000 in
theorem qadd_any (a b z : Rat) (va1 va2 vb1 vb2 : Value) (w : World) (hz : a + b = z) (hs_a : rz a ≤ 100000000) (hs_b : rz b ≤ 100000000) (bx21 : Rn w va1 (Int.natAbs ((a).num))) (bx22 : Rn w va2 ((a).den - 1)) (bx23 : Rn w vb1 (Int.natAbs ((b).num))) (bx24 : Rn w vb2 ((b).den - 1)) :
    Calls Tryz.prog 131 #[(Value.agg #[.bool (decide ((a).num < 0)), va1, va2]), (Value.agg #[.bool (decide ((b).num < 0)), vb1, vb2])] w fun e w' => (∃ r1 r2 : Value, e = .returned (.agg #[.bool (decide ((z).num < 0)), r1, r2]) ∧ Rn w' r1 (Int.natAbs ((z).num)) ∧ Rn w' r2 ((z).den - 1)) ∧ Below w.heap.size w w' := by
  replace hz := Lib.hid hz
  have hn_a := Nat.le_trans (rz_num a) hs_a
  have hd_a := Nat.le_trans (rz_den a) hs_a
  have he_a := Nat.le_trans (tw_mono (Nat.sub_le a.den 1)) hd_a
  have hp_a : 0 < a.den := a.den_pos
  have hn_b := Nat.le_trans (rz_num b) hs_b
  have hd_b := Nat.le_trans (rz_den b) hs_b
  have he_b := Nat.le_trans (tw_mono (Nat.sub_le b.den 1)) hd_b
  have hp_b : 0 < b.den := b.den_pos
  obtain ⟨ao_va1, n_va1, c_va1, rfl⟩ := Rn.sl bx21
  obtain ⟨ao_va2, n_va2, c_va2, rfl⟩ := Rn.sl bx22
  obtain ⟨ao_vb1, n_vb1, c_vb1, rfl⟩ := Rn.sl bx23
  obtain ⟨ao_vb2, n_vb2, c_vb2, rfl⟩ := Rn.sl bx24
  go_enter Tryz.func131, Tryz.ntmps131
  have HF := Lib.hid (hp0 w)
  replace HF := Lib.hid ((((HF.out.ar bx21).ar bx22).ar bx23).ar bx24)
  simp only [lF, lG] at HF
  clear bx21 bx22 bx23 bx24
  refine kS fun K hK => ?_
  refine wp_region_lit ?_
  go_wp2
  refine kO hK ?_; clear hK K
  refine fH ((((HF.out).aL (w.heap.size)).aL (w.heap.size + 1)).aL (w.heap.size + 1 + 1)) fun Wx0 HG => ?_
  clear HF; have HF := HG; clear HG
  generalize w.heap.size + 1 + 1 = gx27 at *
  generalize w.heap.size + 1 = gx26 at *
  obtain ⟨u1, HZ1⟩ : ∃ z, Hid ((((b).den : Nat) : Int) = z) := ⟨_, Lib.hid rfl⟩
  have su1 : tw (Int.natAbs u1) ≤ 100000000 := by rw [← HZ1.out]; have := rz_den (b); rw [Int.natAbs_natCast]; omega
  obtain ⟨u2, HZ2⟩ : ∃ z, Hid (((a).num) * (u1) = z) := ⟨_, Lib.hid rfl⟩
  have su2 : tw (Int.natAbs u2) ≤ 200000000 := by rw [← HZ2.out]; have := tw_imul ((a).num) (u1); omega
  obtain ⟨u3, HZ3⟩ : ∃ z, Hid ((((a).den : Nat) : Int) = z) := ⟨_, Lib.hid rfl⟩
  have su3 : tw (Int.natAbs u3) ≤ 100000000 := by rw [← HZ3.out]; have := rz_den (a); rw [Int.natAbs_natCast]; omega
  obtain ⟨u4, HZ4⟩ : ∃ z, Hid (((b).num) * (u3) = z) := ⟨_, Lib.hid rfl⟩
  have su4 : tw (Int.natAbs u4) ≤ 200000000 := by rw [← HZ4.out]; have := tw_imul ((b).num) (u3); omega
  obtain ⟨u5, HZ5⟩ : ∃ z, Hid ((u2) + (u4) = z) := ⟨_, Lib.hid rfl⟩
  have su5 : tw (Int.natAbs u5) ≤ 200000001 := by rw [← HZ5.out]; have := tw_iadd (u2) (u4); omega
  obtain ⟨u6, HZ6⟩ : ∃ z, Hid ((a).den = z) := ⟨_, Lib.hid rfl⟩
  have su6 : tw u6 ≤ 100000000 := by rw [← HZ6.out]; have := rz_den (a); omega
  obtain ⟨u7, HZ7⟩ : ∃ z, Hid ((b).den = z) := ⟨_, Lib.hid rfl⟩
  have su7 : tw u7 ≤ 100000000 := by rw [← HZ7.out]; have := rz_den (b); omega
  obtain ⟨u8, HZ8⟩ : ∃ z, Hid ((u6) * (u7) = z) := ⟨_, Lib.hid rfl⟩
  have su8 : tw u8 ≤ 200000000 := by rw [← HZ8.out]; have := tw_mul (u6) (u7); omega
  have HZ9 : Hid (mkRat (u5) (u8) = z) := Lib.hid (by simp only [← HZ8.out, ← HZ7.out, ← HZ6.out, ← HZ5.out, ← HZ4.out, ← HZ3.out, ← HZ2.out, ← HZ1.out]; rw [← hz.out]; exact (Rat.add_def' a b).symm)
  have lx25 := HF.out.c 4 rfl
  have lx26 := HF.out.c 5 rfl
  refine kS fun K hK => ?_
  have HG0 : Hid (Gr Wx0 Wx0) := Lib.hid (Gr.refl _)
  refine pd 17 [(true, 0), (true, 1), (true, 2), (true, 5), (true, 6), (true, 7), (true, 11), (true, 13), (false, 3), (false, 4), (false, 8), (false, 9), (false, 10), (false, 12), (false, 14), (false, 15), (false, 16)] fun T hT => ?_
  iterate 8 refine tk ?_
  refine wpPlan_callE rfl (by rfl) Tryz.call215 (by rfl) (fun w' hw => (qden_any (b) (u1) _ _ _ HZ1.out (by omega) (HF.out.r 2 rfl (HG0.out.trans hw)) (HF.out.r 3 rfl (HG0.out.trans hw))).mono ?_)
  rintro e vv29 ⟨⟨rv1, rfl, bx29⟩, hg0⟩
  obtain ⟨ao1, nn1, cc1, rfl⟩ := Rn.sl bx29
  refine ⟨_, rfl, hg0, ?_⟩
  replace hg0 := Gr.trans hw hg0; clear hw
  replace HG0 := Lib.hid (HG0.out.trans hg0)
  have HGS := Lib.hid hg0; clear hg0
  clear HGS
  have RN29 := Lib.hid bx29; clear bx29
  clear lx25; have lx25 := fun w' (h : Gr _ w') => HF.out.c 4 rfl w' (HG0.out.trans h)
  clear lx26; have lx26 := fun w' (h : Gr _ w') => HF.out.c 5 rfl w' (HG0.out.trans h)
  simp only [Act.put, lA, lB, lC]
  refine wpPlan_callE rfl (by rfl) Tryz.call214 (by rfl) (fun w' hw => (zmul_any ((a).num) (u1) (u2) _ _ _ HZ2.out (by omega) (by omega) (HF.out.r 0 rfl (HG0.out.trans hw)) (RN29.out.gr hw)).mono ?_)
  rintro e vv30 ⟨⟨rv2, rfl, bx30⟩, hg0⟩
  obtain ⟨ao2, nn2, cc2, rfl⟩ := Rn.sl bx30
  refine ⟨_, rfl, hg0, ?_⟩
  replace hg0 := Gr.trans hw hg0; clear hw
  replace HG0 := Lib.hid (HG0.out.trans hg0)
  have HGS := Lib.hid hg0; clear hg0
  replace RN29 := Lib.hid (RN29.out.gr HGS.out)
  clear HGS
  have RN30 := Lib.hid bx30; clear bx30
  clear lx25; have lx25 := fun w' (h : Gr _ w') => HF.out.c 4 rfl w' (HG0.out.trans h)
  clear lx26; have lx26 := fun w' (h : Gr _ w') => HF.out.c 5 rfl w' (HG0.out.trans h)
  simp only [Act.put, lA, lB, lC]
  refine wpPlan_callE rfl (by rfl) Tryz.call215 (by rfl) (fun w' hw => (qden_any (a) (u3) _ _ _ HZ3.out (by omega) (HF.out.r 0 rfl (HG0.out.trans hw)) (HF.out.r 1 rfl (HG0.out.trans hw))).mono ?_)
  rintro e vv31 ⟨⟨rv3, rfl, bx31⟩, hg0⟩
  obtain ⟨ao3, nn3, cc3, rfl⟩ := Rn.sl bx31
  refine ⟨_, rfl, hg0, ?_⟩
  replace hg0 := Gr.trans hw hg0; clear hw
  replace HG0 := Lib.hid (HG0.out.trans hg0)
  have HGS := Lib.hid hg0; clear hg0
  replace RN29 := Lib.hid (RN29.out.gr HGS.out)
  replace RN30 := Lib.hid (RN30.out.gr HGS.out)
  clear HGS
  have RN31 := Lib.hid bx31; clear bx31
  clear lx25; have lx25 := fun w' (h : Gr _ w') => HF.out.c 4 rfl w' (HG0.out.trans h)
  clear lx26; have lx26 := fun w' (h : Gr _ w') => HF.out.c 5 rfl w' (HG0.out.trans h)
  simp only [Act.put, lA, lB, lC]
  refine wpPlan_callE rfl (by rfl) Tryz.call214 (by rfl) (fun w' hw => (zmul_any ((b).num) (u3) (u4) _ _ _ HZ4.out (by omega) (by omega) (HF.out.r 2 rfl (HG0.out.trans hw)) (RN31.out.gr hw)).mono ?_)
  rintro e vv32 ⟨⟨rv4, rfl, bx32⟩, hg0⟩
  obtain ⟨ao4, nn4, cc4, rfl⟩ := Rn.sl bx32
  refine ⟨_, rfl, hg0, ?_⟩
  replace hg0 := Gr.trans hw hg0; clear hw
  replace HG0 := Lib.hid (HG0.out.trans hg0)
  have HGS := Lib.hid hg0; clear hg0
  replace RN29 := Lib.hid (RN29.out.gr HGS.out)
  replace RN30 := Lib.hid (RN30.out.gr HGS.out)
  replace RN31 := Lib.hid (RN31.out.gr HGS.out)
  clear HGS
  have RN32 := Lib.hid bx32; clear bx32
  clear lx25; have lx25 := fun w' (h : Gr _ w') => HF.out.c 4 rfl w' (HG0.out.trans h)
  clear lx26; have lx26 := fun w' (h : Gr _ w') => HF.out.c 5 rfl w' (HG0.out.trans h)
  simp only [Act.put, lA, lB, lC]
  refine wpPlan_callE rfl (by rfl) Tryz.call210 (by rfl) (fun w' hw => (zadd_any (u2) (u4) (u5) _ _ _ HZ5.out (by omega) (by omega) (RN30.out.gr hw) (RN32.out.gr hw)).mono ?_)
  rintro e vv33 ⟨⟨rv5, rfl, bx33⟩, hg0⟩
  obtain ⟨ao5, nn5, cc5, rfl⟩ := Rn.sl bx33
  refine ⟨_, rfl, hg0, ?_⟩
  replace hg0 := Gr.trans hw hg0; clear hw
  replace HG0 := Lib.hid (HG0.out.trans hg0)
  have HGS := Lib.hid hg0; clear hg0
  replace RN29 := Lib.hid (RN29.out.gr HGS.out)
  replace RN30 := Lib.hid (RN30.out.gr HGS.out)
  replace RN31 := Lib.hid (RN31.out.gr HGS.out)
  replace RN32 := Lib.hid (RN32.out.gr HGS.out)
  clear HGS
  have RN33 := Lib.hid bx33; clear bx33
  clear lx25; have lx25 := fun w' (h : Gr _ w') => HF.out.c 4 rfl w' (HG0.out.trans h)
  clear lx26; have lx26 := fun w' (h : Gr _ w') => HF.out.c 5 rfl w' (HG0.out.trans h)
  simp only [Act.put, lA, lB, lC]
  refine wpPlan_callE rfl (by rfl) Tryz.call150 (by rfl) (fun w' hw => (qDen_any (a) (u6) _ _ _ HZ6.out (by omega) (HF.out.r 0 rfl (HG0.out.trans hw)) (HF.out.r 1 rfl (HG0.out.trans hw))).mono ?_)
  rintro e vv34 ⟨⟨rv6, rfl, bx34⟩, hg0⟩
  obtain ⟨ao6, nn6, cc6, rfl⟩ := Rn.sl bx34
  refine ⟨_, rfl, hg0, ?_⟩
  replace hg0 := Gr.trans hw hg0; clear hw
  replace HG0 := Lib.hid (HG0.out.trans hg0)
  have HGS := Lib.hid hg0; clear hg0
  replace RN29 := Lib.hid (RN29.out.gr HGS.out)
  replace RN30 := Lib.hid (RN30.out.gr HGS.out)
  replace RN31 := Lib.hid (RN31.out.gr HGS.out)
  replace RN32 := Lib.hid (RN32.out.gr HGS.out)
  replace RN33 := Lib.hid (RN33.out.gr HGS.out)
  clear HGS
  have RN34 := Lib.hid bx34; clear bx34
  clear lx25; have lx25 := fun w' (h : Gr _ w') => HF.out.c 4 rfl w' (HG0.out.trans h)
  clear lx26; have lx26 := fun w' (h : Gr _ w') => HF.out.c 5 rfl w' (HG0.out.trans h)
  simp only [Act.put, lA, lB, lC]
  refine wpPlan_callE rfl (by rfl) Tryz.call150 (by rfl) (fun w' hw => (qDen_any (b) (u7) _ _ _ HZ7.out (by omega) (HF.out.r 2 rfl (HG0.out.trans hw)) (HF.out.r 3 rfl (HG0.out.trans hw))).mono ?_)
  rintro e vv35 ⟨⟨rv7, rfl, bx35⟩, hg0⟩
  obtain ⟨ao7, nn7, cc7, rfl⟩ := Rn.sl bx35
  refine ⟨_, rfl, hg0, ?_⟩
  replace hg0 := Gr.trans hw hg0; clear hw
  replace HG0 := Lib.hid (HG0.out.trans hg0)
  have HGS := Lib.hid hg0; clear hg0
  replace RN29 := Lib.hid (RN29.out.gr HGS.out)
  replace RN30 := Lib.hid (RN30.out.gr HGS.out)
  replace RN31 := Lib.hid (RN31.out.gr HGS.out)
  replace RN32 := Lib.hid (RN32.out.gr HGS.out)
  replace RN33 := Lib.hid (RN33.out.gr HGS.out)
  replace RN34 := Lib.hid (RN34.out.gr HGS.out)
  clear HGS
  have RN35 := Lib.hid bx35; clear bx35
  clear lx25; have lx25 := fun w' (h : Gr _ w') => HF.out.c 4 rfl w' (HG0.out.trans h)
  clear lx26; have lx26 := fun w' (h : Gr _ w') => HF.out.c 5 rfl w' (HG0.out.trans h)
  simp only [Act.put, lA, lB, lC]
  refine wpPlan_callE rfl (by rfl) Tryz.call178 (by rfl) (fun w' hw => (zrmul _ _ (u6) (u7) (u8) _ HZ8.out (RN34.out.gr hw) (RN35.out.gr hw) (by omega) (by omega)).mono ?_)
  rintro e vv36 ⟨⟨rv8, rfl, bx36⟩, hg0⟩
  obtain ⟨ao8, nn8, cc8, rfl⟩ := Rn.sl bx36
  refine ⟨_, rfl, hg0, ?_⟩
  replace hg0 := Gr.trans hw hg0; clear hw
  replace HG0 := Lib.hid (HG0.out.trans hg0)
  have HGS := Lib.hid hg0; clear hg0
  replace RN29 := Lib.hid (RN29.out.gr HGS.out)
  replace RN30 := Lib.hid (RN30.out.gr HGS.out)
  replace RN31 := Lib.hid (RN31.out.gr HGS.out)
  replace RN32 := Lib.hid (RN32.out.gr HGS.out)
  replace RN33 := Lib.hid (RN33.out.gr HGS.out)
  replace RN34 := Lib.hid (RN34.out.gr HGS.out)
  replace RN35 := Lib.hid (RN35.out.gr HGS.out)
  clear HGS
  have RN36 := Lib.hid bx36; clear bx36
  clear lx25; have lx25 := fun w' (h : Gr _ w') => HF.out.c 4 rfl w' (HG0.out.trans h)
  clear lx26; have lx26 := fun w' (h : Gr _ w') => HF.out.c 5 rfl w' (HG0.out.trans h)
  simp only [Act.put, lA, lB, lC]
  refine wpPlan_callE rfl (by rfl) Tryz.call195 (by rfl) (fun w' hw => (qfrom_any (u5) (u8) (z) _ _ _ HZ9.out (by simp only [← HZ8.out, ← HZ7.out, ← HZ6.out, ← HZ5.out, ← HZ4.out, ← HZ3.out, ← HZ2.out, ← HZ1.out]; exact Nat.mul_pos hp_a hp_b) (by omega) (by omega) (RN33.out.gr hw) (RN36.out.gr hw)).mono ?_)
  rintro e vv37 ⟨⟨rv9, rv10, rfl, bx37, bx38⟩, hg0⟩
  obtain ⟨ao9, nn9, cc9, rfl⟩ := Rn.sl bx37
  obtain ⟨ao10, nn10, cc10, rfl⟩ := Rn.sl bx38
  refine ⟨_, rfl, hg0, ?_⟩
  replace hg0 := Gr.trans hw hg0; clear hw
  replace HG0 := Lib.hid (HG0.out.trans hg0)
  have HGS := Lib.hid hg0; clear hg0
  replace RN29 := Lib.hid (RN29.out.gr HGS.out)
  replace RN30 := Lib.hid (RN30.out.gr HGS.out)
  replace RN31 := Lib.hid (RN31.out.gr HGS.out)
  replace RN32 := Lib.hid (RN32.out.gr HGS.out)
  replace RN33 := Lib.hid (RN33.out.gr HGS.out)
  replace RN34 := Lib.hid (RN34.out.gr HGS.out)
  replace RN35 := Lib.hid (RN35.out.gr HGS.out)
  replace RN36 := Lib.hid (RN36.out.gr HGS.out)
  clear HGS
  have RN37 := Lib.hid bx37; clear bx37
  have RN38 := Lib.hid bx38; clear bx38
  clear lx25; have lx25 := fun w' (h : Gr _ w') => HF.out.c 4 rfl w' (HG0.out.trans h)
  clear lx26; have lx26 := fun w' (h : Gr _ w') => HF.out.c 5 rfl w' (HG0.out.trans h)
  simp only [Act.put, lA, lB, lC]
  refine wpPlan_nil (hT.out _ _ ?_)
  intro G vw1 hg hf
  simp only [puts, Act.put, lA, lB, lC, lD, lE, ↓reduceIte, Nat.reduceEqDiff]
  have HG := Lib.hid (((((((((((HF.out.gr (HG0.out.trans hg)).ar (RN29.out.gr hg)).ar (RN30.out.gr hg)).ar (RN31.out.gr hg)).ar (RN32.out.gr hg)).ar (RN33.out.gr hg)).ar (RN34.out.gr hg)).ar (RN35.out.gr hg)).ar (RN36.out.gr hg)).ar (RN37.out.gr hg)).ar (RN38.out.gr hg))
  simp only [zq1_, zq2_, zq3_, zq4_, lF, lG] at HG
  clear hT T HF hg hf HG0 RN29 RN30 RN31 RN32 RN33 RN34 RN35 RN36 RN37 RN38 lx25 lx26
  have lx27 := HG.out.c 6 rfl; have fx27 := HG.out.f 6 rfl
  have r0 := Gr.refl vw1
  go_wp2
  refine kO hK ?_; clear hK K
  clear r0 lx27 fx27
  refine fH (((((((((((((((((HG.out).put2 6 0 rfl).put 6 2 _ rfl).er 14).er 13).er 12).er 11).er 10).er 9).er 8).er 7).er 5).er 4).er 3).er 2).er 1).er 0) fun Wx1 HF => ?_
  clear HG
  refine wp_ret ?_
  try simp only [Exit.then, Exit.inBlock]
  have lx27 := HF.out.c 0 rfl
  have r0 := Gr.refl Wx1
  exact bodyPost_ret (v := .agg #[.bool (decide ((z).num < 0)), (.slice ao9 nn9 cc9), (.slice ao10 nn10 cc10)]) (by simp [results, Tryz.results131, go_sem, lx27 _ r0]) rfl ⟨⟨(.slice ao9 nn9 cc9), (.slice ao10 nn10 cc10), rfl, (HF.out.rn 1 rfl), (HF.out.rn 2 rfl)⟩, HF.out.1⟩
set_option maxRecDepth 20000 in
set_option maxHeartbeats 2000000 in
theorem qmul_any (a b z : Rat) (va1 va2 vb1 vb2 : Value) (w : World) (hz : a * b = z) (hs_a : rz a ≤ 100000000) (hs_b : rz b ≤ 100000000) (bx21 : Rn w va1 (Int.natAbs ((a).num))) (bx22 : Rn w va2 ((a).den - 1)) (bx23 : Rn w vb1 (Int.natAbs ((b).num))) (bx24 : Rn w vb2 ((b).den - 1)) :
    Calls Tryz.prog 135 #[(Value.agg #[.bool (decide ((a).num < 0)), va1, va2]), (Value.agg #[.bool (decide ((b).num < 0)), vb1, vb2])] w fun e w' => (∃ r1 r2 : Value, e = .returned (.agg #[.bool (decide ((z).num < 0)), r1, r2]) ∧ Rn w' r1 (Int.natAbs ((z).num)) ∧ Rn w' r2 ((z).den - 1)) ∧ Below w.heap.size w w' := by
  replace hz := Lib.hid hz
  have hn_a := Nat.le_trans (rz_num a) hs_a
  have hd_a := Nat.le_trans (rz_den a) hs_a
  have he_a := Nat.le_trans (tw_mono (Nat.sub_le a.den 1)) hd_a
  have hp_a : 0 < a.den := a.den_pos
  have hn_b := Nat.le_trans (rz_num b) hs_b
  have hd_b := Nat.le_trans (rz_den b) hs_b
  have he_b := Nat.le_trans (tw_mono (Nat.sub_le b.den 1)) hd_b
  have hp_b : 0 < b.den := b.den_pos
  obtain ⟨ao_va1, n_va1, c_va1, rfl⟩ := Rn.sl bx21
  obtain ⟨ao_va2, n_va2, c_va2, rfl⟩ := Rn.sl bx22
  obtain ⟨ao_vb1, n_vb1, c_vb1, rfl⟩ := Rn.sl bx23
  obtain ⟨ao_vb2, n_vb2, c_vb2, rfl⟩ := Rn.sl bx24
  go_enter Tryz.func135, Tryz.ntmps135
  have HF := Lib.hid (hp0 w)
  replace HF := Lib.hid ((((HF.out.ar bx21).ar bx22).ar bx23).ar bx24)
  simp only [lF, lG] at HF
  clear bx21 bx22 bx23 bx24
  refine kS fun K hK => ?_
  refine wp_region_lit ?_
  go_wp2
  refine kO hK ?_; clear hK K
  refine fH ((((HF.out).aL (w.heap.size)).aL (w.heap.size + 1)).aL (w.heap.size + 1 + 1)) fun Wx0 HG => ?_
  clear HF; have HF := HG; clear HG
  generalize w.heap.size + 1 + 1 = gx27 at *
  generalize w.heap.size + 1 = gx26 at *
  obtain ⟨u1, HZ1⟩ : ∃ z, Hid (((a).num) * ((b).num) = z) := ⟨_, Lib.hid rfl⟩
  have su1 : tw (Int.natAbs u1) ≤ 200000000 := by rw [← HZ1.out]; have := tw_imul ((a).num) ((b).num); omega
  obtain ⟨u2, HZ2⟩ : ∃ z, Hid ((a).den = z) := ⟨_, Lib.hid rfl⟩
  have su2 : tw u2 ≤ 100000000 := by rw [← HZ2.out]; have := rz_den (a); omega
  obtain ⟨u3, HZ3⟩ : ∃ z, Hid ((b).den = z) := ⟨_, Lib.hid rfl⟩
  have su3 : tw u3 ≤ 100000000 := by rw [← HZ3.out]; have := rz_den (b); omega
  obtain ⟨u4, HZ4⟩ : ∃ z, Hid ((u2) * (u3) = z) := ⟨_, Lib.hid rfl⟩
  have su4 : tw u4 ≤ 200000000 := by rw [← HZ4.out]; have := tw_mul (u2) (u3); omega
  have HZ5 : Hid (mkRat (u1) (u4) = z) := Lib.hid (by simp only [← HZ4.out, ← HZ3.out, ← HZ2.out, ← HZ1.out]; rw [← hz.out]; exact (Rat.mul_def' a b).symm)
  have lx25 := HF.out.c 4 rfl
  have lx26 := HF.out.c 5 rfl
  refine kS fun K hK => ?_
  have HG0 : Hid (Gr Wx0 Wx0) := Lib.hid (Gr.refl _)
  refine pd 11 [(true, 0), (true, 1), (true, 2), (true, 3), (true, 5), (true, 7), (false, 4), (false, 6), (false, 8), (false, 9), (false, 10)] fun T hT => ?_
  iterate 6 refine tk ?_
  refine wpPlan_callE rfl (by rfl) Tryz.call214 (by rfl) (fun w' hw => (zmul_any ((a).num) ((b).num) (u1) _ _ _ HZ1.out (by omega) (by omega) (HF.out.r 0 rfl (HG0.out.trans hw)) (HF.out.r 2 rfl (HG0.out.trans hw))).mono ?_)
  rintro e vv29 ⟨⟨rv1, rfl, bx29⟩, hg0⟩
  obtain ⟨ao1, nn1, cc1, rfl⟩ := Rn.sl bx29
  refine ⟨_, rfl, hg0, ?_⟩
  replace hg0 := Gr.trans hw hg0; clear hw
  replace HG0 := Lib.hid (HG0.out.trans hg0)
  have HGS := Lib.hid hg0; clear hg0
  clear HGS
  have RN29 := Lib.hid bx29; clear bx29
  clear lx25; have lx25 := fun w' (h : Gr _ w') => HF.out.c 4 rfl w' (HG0.out.trans h)
  clear lx26; have lx26 := fun w' (h : Gr _ w') => HF.out.c 5 rfl w' (HG0.out.trans h)
  simp only [Act.put, lA, lB, lC]
  refine wpPlan_callE rfl (by rfl) Tryz.call150 (by rfl) (fun w' hw => (qDen_any (a) (u2) _ _ _ HZ2.out (by omega) (HF.out.r 0 rfl (HG0.out.trans hw)) (HF.out.r 1 rfl (HG0.out.trans hw))).mono ?_)
  rintro e vv30 ⟨⟨rv2, rfl, bx30⟩, hg0⟩
  obtain ⟨ao2, nn2, cc2, rfl⟩ := Rn.sl bx30
  refine ⟨_, rfl, hg0, ?_⟩
  replace hg0 := Gr.trans hw hg0; clear hw
  replace HG0 := Lib.hid (HG0.out.trans hg0)
  have HGS := Lib.hid hg0; clear hg0
  replace RN29 := Lib.hid (RN29.out.gr HGS.out)
  clear HGS
  have RN30 := Lib.hid bx30; clear bx30
  clear lx25; have lx25 := fun w' (h : Gr _ w') => HF.out.c 4 rfl w' (HG0.out.trans h)
  clear lx26; have lx26 := fun w' (h : Gr _ w') => HF.out.c 5 rfl w' (HG0.out.trans h)
  simp only [Act.put, lA, lB, lC]
  refine wpPlan_callE rfl (by rfl) Tryz.call150 (by rfl) (fun w' hw => (qDen_any (b) (u3) _ _ _ HZ3.out (by omega) (HF.out.r 2 rfl (HG0.out.trans hw)) (HF.out.r 3 rfl (HG0.out.trans hw))).mono ?_)
  rintro e vv31 ⟨⟨rv3, rfl, bx31⟩, hg0⟩
  obtain ⟨ao3, nn3, cc3, rfl⟩ := Rn.sl bx31
  refine ⟨_, rfl, hg0, ?_⟩
  replace hg0 := Gr.trans hw hg0; clear hw
  replace HG0 := Lib.hid (HG0.out.trans hg0)
  have HGS := Lib.hid hg0; clear hg0
  replace RN29 := Lib.hid (RN29.out.gr HGS.out)
  replace RN30 := Lib.hid (RN30.out.gr HGS.out)
  clear HGS
  have RN31 := Lib.hid bx31; clear bx31
  clear lx25; have lx25 := fun w' (h : Gr _ w') => HF.out.c 4 rfl w' (HG0.out.trans h)
  clear lx26; have lx26 := fun w' (h : Gr _ w') => HF.out.c 5 rfl w' (HG0.out.trans h)
  simp only [Act.put, lA, lB, lC]
  refine wpPlan_callE rfl (by rfl) Tryz.call178 (by rfl) (fun w' hw => (zrmul _ _ (u2) (u3) (u4) _ HZ4.out (RN30.out.gr hw) (RN31.out.gr hw) (by omega) (by omega)).mono ?_)
  rintro e vv32 ⟨⟨rv4, rfl, bx32⟩, hg0⟩
  obtain ⟨ao4, nn4, cc4, rfl⟩ := Rn.sl bx32
  refine ⟨_, rfl, hg0, ?_⟩
  replace hg0 := Gr.trans hw hg0; clear hw
  replace HG0 := Lib.hid (HG0.out.trans hg0)
  have HGS := Lib.hid hg0; clear hg0
  replace RN29 := Lib.hid (RN29.out.gr HGS.out)
  replace RN30 := Lib.hid (RN30.out.gr HGS.out)
  replace RN31 := Lib.hid (RN31.out.gr HGS.out)
  clear HGS
  have RN32 := Lib.hid bx32; clear bx32
  clear lx25; have lx25 := fun w' (h : Gr _ w') => HF.out.c 4 rfl w' (HG0.out.trans h)
  clear lx26; have lx26 := fun w' (h : Gr _ w') => HF.out.c 5 rfl w' (HG0.out.trans h)
  simp only [Act.put, lA, lB, lC]
  refine wpPlan_callE rfl (by rfl) Tryz.call195 (by rfl) (fun w' hw => (qfrom_any (u1) (u4) (z) _ _ _ HZ5.out (by simp only [← HZ4.out, ← HZ3.out, ← HZ2.out, ← HZ1.out]; exact Nat.mul_pos hp_a hp_b) (by omega) (by omega) (RN29.out.gr hw) (RN32.out.gr hw)).mono ?_)
  rintro e vv33 ⟨⟨rv5, rv6, rfl, bx33, bx34⟩, hg0⟩
  obtain ⟨ao5, nn5, cc5, rfl⟩ := Rn.sl bx33
  obtain ⟨ao6, nn6, cc6, rfl⟩ := Rn.sl bx34
  refine ⟨_, rfl, hg0, ?_⟩
  replace hg0 := Gr.trans hw hg0; clear hw
  replace HG0 := Lib.hid (HG0.out.trans hg0)
  have HGS := Lib.hid hg0; clear hg0
  replace RN29 := Lib.hid (RN29.out.gr HGS.out)
  replace RN30 := Lib.hid (RN30.out.gr HGS.out)
  replace RN31 := Lib.hid (RN31.out.gr HGS.out)
  replace RN32 := Lib.hid (RN32.out.gr HGS.out)
  clear HGS
  have RN33 := Lib.hid bx33; clear bx33
  have RN34 := Lib.hid bx34; clear bx34
  clear lx25; have lx25 := fun w' (h : Gr _ w') => HF.out.c 4 rfl w' (HG0.out.trans h)
  clear lx26; have lx26 := fun w' (h : Gr _ w') => HF.out.c 5 rfl w' (HG0.out.trans h)
  simp only [Act.put, lA, lB, lC]
  refine wpPlan_nil (hT.out _ _ ?_)
  intro G vw1 hg hf
  simp only [puts, Act.put, lA, lB, lC, lD, lE, ↓reduceIte, Nat.reduceEqDiff]
  have HG := Lib.hid (((((((HF.out.gr (HG0.out.trans hg)).ar (RN29.out.gr hg)).ar (RN30.out.gr hg)).ar (RN31.out.gr hg)).ar (RN32.out.gr hg)).ar (RN33.out.gr hg)).ar (RN34.out.gr hg))
  simp only [zq1_, zq2_, zq3_, zq4_, lF, lG] at HG
  clear hT T HF hg hf HG0 RN29 RN30 RN31 RN32 RN33 RN34 lx25 lx26
  have lx27 := HG.out.c 6 rfl; have fx27 := HG.out.f 6 rfl
  have r0 := Gr.refl vw1
  go_wp2
  refine kO hK ?_; clear hK K
  clear r0 lx27 fx27
  refine fH (((((((((((((HG.out).put2 6 0 rfl).put 6 2 _ rfl).er 10).er 9).er 8).er 7).er 5).er 4).er 3).er 2).er 1).er 0) fun Wx1 HF => ?_
  clear HG
  refine wp_ret ?_
  try simp only [Exit.then, Exit.inBlock]
  have lx27 := HF.out.c 0 rfl
  have r0 := Gr.refl Wx1
  exact bodyPost_ret (v := .agg #[.bool (decide ((z).num < 0)), (.slice ao5 nn5 cc5), (.slice ao6 nn6 cc6)]) (by simp [results, Tryz.results135, go_sem, lx27 _ r0]) rfl ⟨⟨(.slice ao5 nn5 cc5), (.slice ao6 nn6 cc6), rfl, (HF.out.rn 1 rfl), (HF.out.rn 2 rfl)⟩, HF.out.1⟩
set_option maxRecDepth 20000 in
set_option maxHeartbeats 2000000 in
theorem qsub_any (a b z : Rat) (va1 va2 vb1 vb2 : Value) (w : World) (hz : a - b = z) (hs_a : rz a ≤ 40000000) (hs_b : rz b ≤ 40000000) (bx21 : Rn w va1 (Int.natAbs ((a).num))) (bx22 : Rn w va2 ((a).den - 1)) (bx23 : Rn w vb1 (Int.natAbs ((b).num))) (bx24 : Rn w vb2 ((b).den - 1)) :
    Calls Tryz.prog 133 #[(Value.agg #[.bool (decide ((a).num < 0)), va1, va2]), (Value.agg #[.bool (decide ((b).num < 0)), vb1, vb2])] w fun e w' => (∃ r1 r2 : Value, e = .returned (.agg #[.bool (decide ((z).num < 0)), r1, r2]) ∧ Rn w' r1 (Int.natAbs ((z).num)) ∧ Rn w' r2 ((z).den - 1)) ∧ Below w.heap.size w w' := by
  replace hz := Lib.hid hz
  have hn_a := Nat.le_trans (rz_num a) hs_a
  have hd_a := Nat.le_trans (rz_den a) hs_a
  have he_a := Nat.le_trans (tw_mono (Nat.sub_le a.den 1)) hd_a
  have hp_a : 0 < a.den := a.den_pos
  have hn_b := Nat.le_trans (rz_num b) hs_b
  have hd_b := Nat.le_trans (rz_den b) hs_b
  have he_b := Nat.le_trans (tw_mono (Nat.sub_le b.den 1)) hd_b
  have hp_b : 0 < b.den := b.den_pos
  obtain ⟨ao_va1, n_va1, c_va1, rfl⟩ := Rn.sl bx21
  obtain ⟨ao_va2, n_va2, c_va2, rfl⟩ := Rn.sl bx22
  obtain ⟨ao_vb1, n_vb1, c_vb1, rfl⟩ := Rn.sl bx23
  obtain ⟨ao_vb2, n_vb2, c_vb2, rfl⟩ := Rn.sl bx24
  go_enter Tryz.func133, Tryz.ntmps133
  have HF := Lib.hid (hp0 w)
  replace HF := Lib.hid ((((HF.out.ar bx21).ar bx22).ar bx23).ar bx24)
  simp only [lF, lG] at HF
  clear bx21 bx22 bx23 bx24
  refine kS fun K hK => ?_
  refine wp_region_lit ?_
  go_wp2
  refine kO hK ?_; clear hK K
  refine fH ((((HF.out).aL (w.heap.size)).aL (w.heap.size + 1)).aL (w.heap.size + 1 + 1)) fun Wx0 HG => ?_
  clear HF; have HF := HG; clear HG
  generalize w.heap.size + 1 + 1 = gx27 at *
  generalize w.heap.size + 1 = gx26 at *
  obtain ⟨u1, HZ1⟩ : ∃ z, Hid (-(b) = z) := ⟨_, Lib.hid rfl⟩
  have su1 : rz u1 ≤ 40000000 := by rw [← HZ1.out]; rw [rz_neg]; omega
  have HZ2 : Hid ((a) + (u1) = z) := Lib.hid (by rw [← HZ1.out, ← hz.out, Rat.sub_eq_add_neg])
  have lx25 := HF.out.c 4 rfl
  have lx26 := HF.out.c 5 rfl
  refine kS fun K hK => ?_
  have HG0 : Hid (Gr Wx0 Wx0) := Lib.hid (Gr.refl _)
  refine pd 4 [(true, 0), (true, 1), (false, 2), (false, 3)] fun T hT => ?_
  iterate 2 refine tk ?_
  refine wpPlan_callE rfl (by rfl) Tryz.call136 (by rfl) (fun w' hw => (qneg_any (b) (u1) _ _ _ HZ1.out (HF.out.r 2 rfl (HG0.out.trans hw)) (HF.out.r 3 rfl (HG0.out.trans hw))).mono ?_)
  rintro e vv29 ⟨⟨rv1, rv2, rfl, bx29, bx30⟩, hg0⟩
  obtain ⟨ao1, nn1, cc1, rfl⟩ := Rn.sl bx29
  obtain ⟨ao2, nn2, cc2, rfl⟩ := Rn.sl bx30
  refine ⟨_, rfl, hg0, ?_⟩
  replace hg0 := Gr.trans hw hg0; clear hw
  replace HG0 := Lib.hid (HG0.out.trans hg0)
  have HGS := Lib.hid hg0; clear hg0
  clear HGS
  have RN29 := Lib.hid bx29; clear bx29
  have RN30 := Lib.hid bx30; clear bx30
  clear lx25; have lx25 := fun w' (h : Gr _ w') => HF.out.c 4 rfl w' (HG0.out.trans h)
  clear lx26; have lx26 := fun w' (h : Gr _ w') => HF.out.c 5 rfl w' (HG0.out.trans h)
  simp only [Act.put, lA, lB, lC]
  refine wpPlan_callE rfl (by rfl) Tryz.call131 (by rfl) (fun w' hw => (qadd_any (a) (u1) (z) _ _ _ _ _ HZ2.out (by omega) (by omega) (HF.out.r 0 rfl (HG0.out.trans hw)) (HF.out.r 1 rfl (HG0.out.trans hw)) (RN29.out.gr hw) (RN30.out.gr hw)).mono ?_)
  rintro e vv31 ⟨⟨rv3, rv4, rfl, bx31, bx32⟩, hg0⟩
  obtain ⟨ao3, nn3, cc3, rfl⟩ := Rn.sl bx31
  obtain ⟨ao4, nn4, cc4, rfl⟩ := Rn.sl bx32
  refine ⟨_, rfl, hg0, ?_⟩
  replace hg0 := Gr.trans hw hg0; clear hw
  replace HG0 := Lib.hid (HG0.out.trans hg0)
  have HGS := Lib.hid hg0; clear hg0
  replace RN29 := Lib.hid (RN29.out.gr HGS.out)
  replace RN30 := Lib.hid (RN30.out.gr HGS.out)
  clear HGS
  have RN31 := Lib.hid bx31; clear bx31
  have RN32 := Lib.hid bx32; clear bx32
  clear lx25; have lx25 := fun w' (h : Gr _ w') => HF.out.c 4 rfl w' (HG0.out.trans h)
  clear lx26; have lx26 := fun w' (h : Gr _ w') => HF.out.c 5 rfl w' (HG0.out.trans h)
  simp only [Act.put, lA, lB, lC]
  refine wpPlan_nil (hT.out _ _ ?_)
  intro G vw1 hg hf
  simp only [puts, Act.put, lA, lB, lC, lD, lE, ↓reduceIte, Nat.reduceEqDiff]
  have HG := Lib.hid (((((HF.out.gr (HG0.out.trans hg)).ar (RN29.out.gr hg)).ar (RN30.out.gr hg)).ar (RN31.out.gr hg)).ar (RN32.out.gr hg))
  simp only [zq1_, zq2_, zq3_, zq4_, lF, lG] at HG
  clear hT T HF hg hf HG0 RN29 RN30 RN31 RN32 lx25 lx26
  have lx27 := HG.out.c 6 rfl; have fx27 := HG.out.f 6 rfl
  have r0 := Gr.refl vw1
  go_wp2
  refine kO hK ?_; clear hK K
  clear r0 lx27 fx27
  refine fH (((((((((((HG.out).put2 6 0 rfl).put 6 2 _ rfl).er 8).er 7).er 5).er 4).er 3).er 2).er 1).er 0) fun Wx1 HF => ?_
  clear HG
  refine wp_ret ?_
  try simp only [Exit.then, Exit.inBlock]
  have lx27 := HF.out.c 0 rfl
  have r0 := Gr.refl Wx1
  exact bodyPost_ret (v := .agg #[.bool (decide ((z).num < 0)), (.slice ao3 nn3 cc3), (.slice ao4 nn4 cc4)]) (by simp [results, Tryz.results133, go_sem, lx27 _ r0]) rfl ⟨⟨(.slice ao3 nn3 cc3), (.slice ao4 nn4 cc4), rfl, (HF.out.rn 1 rfl), (HF.out.rn 2 rfl)⟩, HF.out.1⟩
end Go.Proofs.YtobojnodohjiaaaGreatDoor
/- gussetref03: Div, Cmp, Of. -/
namespace Go.Proofs.YtobojnodohjiaaaGreatDoor
open Go.RowKit
attribute [local go_sem ↓] Go.wp_at_zero Go.wp_at_succ
theorem inv_mk' (b : Rat) (h : b.num ≠ 0) : mkRat (if decide (b.num < 0) then -((b.den : Nat) : Int) else ((b.den : Nat) : Int)) b.num.natAbs = b⁻¹ := by
  rw [Rat.inv_def]
  by_cases h2 : b.num < 0
  · rw [if_pos (by simpa using h2), ← Rat.divInt_ofNat, show ((b.num.natAbs : Nat) : Int) = -b.num by omega, Rat.neg_divInt_neg]
  · rw [if_neg (by simpa using h2), ← Rat.divInt_ofNat, show ((b.num.natAbs : Nat) : Int) = b.num by omega]
set_option maxRecDepth 20000 in
set_option maxHeartbeats 2000000 in
theorem qdiv_zero (a b : Rat) (t : Int) (va1 va2 vb1 vb2 : Value) (w : World) (ht : Hid (sgQ b = t)) (h0 : (t == 0) = true) (bx21 : Rn w va1 (Int.natAbs ((a).num))) (bx22 : Rn w va2 ((a).den - 1)) (bx23 : Rn w vb1 (Int.natAbs ((b).num))) (bx24 : Rn w vb2 ((b).den - 1)) :
    Calls Tryz.prog 89 #[(Value.agg #[.bool (decide ((a).num < 0)), va1, va2]), (Value.agg #[.bool (decide ((b).num < 0)), vb1, vb2])] w fun e w' => e = .returned (.agg #[.bool false, .slice none 0 0, .slice none 0 0]) ∧ Below w.heap.size w w' := by
  obtain ⟨ao_va1, n_va1, c_va1, rfl⟩ := Rn.sl bx21
  obtain ⟨ao_va2, n_va2, c_va2, rfl⟩ := Rn.sl bx22
  obtain ⟨ao_vb1, n_vb1, c_vb1, rfl⟩ := Rn.sl bx23
  obtain ⟨ao_vb2, n_vb2, c_vb2, rfl⟩ := Rn.sl bx24
  go_enter Tryz.func89, Tryz.ntmps89
  have HF := Lib.hid (hp0 w)
  replace HF := Lib.hid ((((HF.out.ar bx21).ar bx22).ar bx23).ar bx24)
  simp only [lF, lG] at HF
  clear bx21 bx22 bx23 bx24
  refine kS fun K hK => ?_
  refine wp_region_lit ?_
  go_wp2
  refine kO hK ?_; clear hK K
  refine fH ((((HF.out).aL (w.heap.size)).aL (w.heap.size + 1)).aL (w.heap.size + 1 + 1)) fun Wx0 HG => ?_
  clear HF; have HF := HG; clear HG
  generalize w.heap.size + 1 + 1 = gx27 at *
  generalize w.heap.size + 1 = gx26 at *
  refine wp_seq ?_
  have lx26 := HF.out.c 5 rfl
  refine kS fun K hK => ?_
  refine sq 3 [(true, 0), (true, 1), (true, 2)] fun T hT => ?_
  refine tk ?_
  refine ck Tryz.call88 (fun w' hw => qsign_any (b) (t) _ _ _ (ht.out) (HF.out.r 2 rfl hw) (HF.out.r 3 rfl hw)) ?_
  refine tk ?_
  refine nlS hT HF fun vw1 HG => ?_
  clear hT T HF lx26
  go_wp2
  refine kO hK ?_; clear hK K
  have HF := HG; clear HG
  refine wp_cond_true (by rfl) ?_
  refine kS fun K hK => ?_
  refine sq 1 [(true, 0)] fun T hT => ?_
  refine tk ?_
  refine nlS hT HF fun vw2 HG => ?_
  clear hT T HF
  have lx27 := HG.out.c 6 rfl; have fx27 := HG.out.f 6 rfl
  have r0 := Gr.refl vw2
  go_wp2
  refine kO hK ?_; clear hK K
  clear r0 lx27 fx27
  refine fH (((HG.out).put2 6 0 rfl).put 6 2 _ rfl) fun Wx2 HF => ?_
  clear HG
  refine wp_ret ?_
  try simp only [Exit.then, Exit.inBlock]
  have lx27 := HF.out.c 6 rfl
  have r0 := Gr.refl Wx2
  exact bodyPost_ret (v := .agg #[.bool false, .slice none 0 0, .slice none 0 0]) (by simp [results, Tryz.results89, go_sem, lx27 _ r0]) rfl ⟨rfl, HF.out.1⟩
set_option maxRecDepth 20000 in
set_option maxHeartbeats 2000000 in
theorem qdiv_ne (a b z : Rat) (t : Int) (va1 va2 vb1 vb2 : Value) (w : World) (hz : a / b = z) (ht : Hid (sgQ b = t)) (h0 : (t == 0) = false) (hb : Hid (b.num ≠ 0)) (hs_a : rz a ≤ 40000000) (hs_b : rz b ≤ 40000000) (bx21 : Rn w va1 (Int.natAbs ((a).num))) (bx22 : Rn w va2 ((a).den - 1)) (bx23 : Rn w vb1 (Int.natAbs ((b).num))) (bx24 : Rn w vb2 ((b).den - 1)) :
    Calls Tryz.prog 89 #[(Value.agg #[.bool (decide ((a).num < 0)), va1, va2]), (Value.agg #[.bool (decide ((b).num < 0)), vb1, vb2])] w fun e w' => (∃ r1 r2 : Value, e = .returned (.agg #[.bool (decide ((z).num < 0)), r1, r2]) ∧ Rn w' r1 (Int.natAbs ((z).num)) ∧ Rn w' r2 ((z).den - 1)) ∧ Below w.heap.size w w' := by
  replace hz := Lib.hid hz
  have hn_a := Nat.le_trans (rz_num a) hs_a
  have hd_a := Nat.le_trans (rz_den a) hs_a
  have he_a := Nat.le_trans (tw_mono (Nat.sub_le a.den 1)) hd_a
  have hp_a : 0 < a.den := a.den_pos
  have hn_b := Nat.le_trans (rz_num b) hs_b
  have hd_b := Nat.le_trans (rz_den b) hs_b
  have he_b := Nat.le_trans (tw_mono (Nat.sub_le b.den 1)) hd_b
  have hp_b : 0 < b.den := b.den_pos
  have hiv := Nat.le_trans (rz_inv b) hs_b
  obtain ⟨ao_va1, n_va1, c_va1, rfl⟩ := Rn.sl bx21
  obtain ⟨ao_va2, n_va2, c_va2, rfl⟩ := Rn.sl bx22
  obtain ⟨ao_vb1, n_vb1, c_vb1, rfl⟩ := Rn.sl bx23
  obtain ⟨ao_vb2, n_vb2, c_vb2, rfl⟩ := Rn.sl bx24
  go_enter Tryz.func89, Tryz.ntmps89
  have HF := Lib.hid (hp0 w)
  replace HF := Lib.hid ((((HF.out.ar bx21).ar bx22).ar bx23).ar bx24)
  simp only [lF, lG] at HF
  clear bx21 bx22 bx23 bx24
  refine kS fun K hK => ?_
  refine wp_region_lit ?_
  go_wp2
  refine kO hK ?_; clear hK K
  refine fH ((((HF.out).aL (w.heap.size)).aL (w.heap.size + 1)).aL (w.heap.size + 1 + 1)) fun Wx0 HG => ?_
  clear HF; have HF := HG; clear HG
  generalize w.heap.size + 1 + 1 = gx27 at *
  generalize w.heap.size + 1 = gx26 at *
  refine wp_seq ?_
  have lx26 := HF.out.c 5 rfl
  refine kS fun K hK => ?_
  refine sq 3 [(true, 0), (true, 1), (true, 2)] fun T hT => ?_
  refine tk ?_
  refine ck Tryz.call88 (fun w' hw => qsign_any (b) (t) _ _ _ (ht.out) (HF.out.r 2 rfl hw) (HF.out.r 3 rfl hw)) ?_
  refine tk ?_
  refine nlS hT HF fun vw1 HG => ?_
  clear hT T HF lx26
  go_wp2
  refine kO hK ?_; clear hK K
  have HF := HG; clear HG
  refine wp_cond_false (by rfl) ?_
  refine wp_skip ?_
  show Code.wp _ _ _ _ _
  obtain ⟨u1, HZ1⟩ : ∃ z, Hid ((b).den = z) := ⟨_, Lib.hid rfl⟩
  have su1 : tw u1 ≤ 40000000 := by rw [← HZ1.out]; have := rz_den (b); omega
  obtain ⟨u2, HZ2⟩ : ∃ z, Hid ((if decide (((b).num) < 0) then -((u1 : Nat) : Int) else ((u1 : Nat) : Int)) = z) := ⟨_, Lib.hid rfl⟩
  have su2 : tw (Int.natAbs u2) ≤ 40000000 := by rw [← HZ2.out]; split <;> simp <;> omega
  have HZ3 : Hid (mkRat (u2) (Int.natAbs ((b).num)) = b⁻¹) := Lib.hid (by simp only [← HZ2.out, ← HZ1.out]; exact inv_mk' b hb.out)
  have HZ4 : Hid ((a) * (b⁻¹) = z) := Lib.hid (by rw [← hz.out, Rat.div_def])
  have lx25 := HF.out.c 4 rfl
  have lx26 := HF.out.c 5 rfl
  refine kS fun K hK => ?_
  have HG0 : Hid (Gr vw1 vw1) := Lib.hid (Gr.refl _)
  refine pd 12 [(true, 0), (true, 1), (true, 2), (true, 3), (true, 4), (true, 7), (true, 8), (true, 9), (false, 5), (false, 6), (false, 10), (false, 11)] fun T hT => ?_
  iterate 8 refine tk ?_
  refine wpPlan_callE rfl (by rfl) Tryz.call150 (by rfl) (fun w' hw => (qDen_any (b) (u1) _ _ _ HZ1.out (by omega) (HF.out.r 2 rfl (HG0.out.trans hw)) (HF.out.r 3 rfl (HG0.out.trans hw))).mono ?_)
  rintro e vv29 ⟨⟨rv1, rfl, bx29⟩, hg0⟩
  obtain ⟨ao1, nn1, cc1, rfl⟩ := Rn.sl bx29
  refine ⟨_, rfl, hg0, ?_⟩
  replace hg0 := Gr.trans hw hg0; clear hw
  replace HG0 := Lib.hid (HG0.out.trans hg0)
  have HGS := Lib.hid hg0; clear hg0
  clear HGS
  have RN29 := Lib.hid bx29; clear bx29
  clear lx25; have lx25 := fun w' (h : Gr _ w') => HF.out.c 4 rfl w' (HG0.out.trans h)
  clear lx26; have lx26 := fun w' (h : Gr _ w') => HF.out.c 5 rfl w' (HG0.out.trans h)
  simp only [Act.put, lA, lB, lC]
  refine wpPlan_callE rfl (by rfl) Tryz.call196 (by rfl) (fun w' hw => (zfrom_any (decide (((b).num) < 0)) (u1) (u2) _ _ HZ2.out (RN29.out.gr hw)).mono ?_)
  rintro e vv30 ⟨⟨rv2, rfl, bx30⟩, hg0⟩
  obtain ⟨ao2, nn2, cc2, rfl⟩ := Rn.sl bx30
  refine ⟨_, rfl, hg0, ?_⟩
  replace hg0 := Gr.trans hw hg0; clear hw
  replace HG0 := Lib.hid (HG0.out.trans hg0)
  have HGS := Lib.hid hg0; clear hg0
  replace RN29 := Lib.hid (RN29.out.gr HGS.out)
  clear HGS
  have RN30 := Lib.hid bx30; clear bx30
  clear lx25; have lx25 := fun w' (h : Gr _ w') => HF.out.c 4 rfl w' (HG0.out.trans h)
  clear lx26; have lx26 := fun w' (h : Gr _ w') => HF.out.c 5 rfl w' (HG0.out.trans h)
  simp only [Act.put, lA, lB, lC]
  refine wpPlan_callE rfl (by rfl) Tryz.call195 (by rfl) (fun w' hw => (qfrom_any (u2) (Int.natAbs ((b).num)) (b⁻¹) _ _ _ HZ3.out (by have := hb.out; omega) (by omega) (by omega) (RN30.out.gr hw) (HF.out.r 2 rfl (HG0.out.trans hw))).mono ?_)
  rintro e vv31 ⟨⟨rv3, rv4, rfl, bx31, bx32⟩, hg0⟩
  obtain ⟨ao3, nn3, cc3, rfl⟩ := Rn.sl bx31
  obtain ⟨ao4, nn4, cc4, rfl⟩ := Rn.sl bx32
  refine ⟨_, rfl, hg0, ?_⟩
  replace hg0 := Gr.trans hw hg0; clear hw
  replace HG0 := Lib.hid (HG0.out.trans hg0)
  have HGS := Lib.hid hg0; clear hg0
  replace RN29 := Lib.hid (RN29.out.gr HGS.out)
  replace RN30 := Lib.hid (RN30.out.gr HGS.out)
  clear HGS
  have RN31 := Lib.hid bx31; clear bx31
  have RN32 := Lib.hid bx32; clear bx32
  clear lx25; have lx25 := fun w' (h : Gr _ w') => HF.out.c 4 rfl w' (HG0.out.trans h)
  clear lx26; have lx26 := fun w' (h : Gr _ w') => HF.out.c 5 rfl w' (HG0.out.trans h)
  simp only [Act.put, lA, lB, lC]
  refine wpPlan_callE rfl (by rfl) Tryz.call135 (by rfl) (fun w' hw => (qmul_any (a) (b⁻¹) (z) _ _ _ _ _ HZ4.out (by omega) (by omega) (HF.out.r 0 rfl (HG0.out.trans hw)) (HF.out.r 1 rfl (HG0.out.trans hw)) (RN31.out.gr hw) (RN32.out.gr hw)).mono ?_)
  rintro e vv33 ⟨⟨rv5, rv6, rfl, bx33, bx34⟩, hg0⟩
  obtain ⟨ao5, nn5, cc5, rfl⟩ := Rn.sl bx33
  obtain ⟨ao6, nn6, cc6, rfl⟩ := Rn.sl bx34
  refine ⟨_, rfl, hg0, ?_⟩
  replace hg0 := Gr.trans hw hg0; clear hw
  replace HG0 := Lib.hid (HG0.out.trans hg0)
  have HGS := Lib.hid hg0; clear hg0
  replace RN29 := Lib.hid (RN29.out.gr HGS.out)
  replace RN30 := Lib.hid (RN30.out.gr HGS.out)
  replace RN31 := Lib.hid (RN31.out.gr HGS.out)
  replace RN32 := Lib.hid (RN32.out.gr HGS.out)
  clear HGS
  have RN33 := Lib.hid bx33; clear bx33
  have RN34 := Lib.hid bx34; clear bx34
  clear lx25; have lx25 := fun w' (h : Gr _ w') => HF.out.c 4 rfl w' (HG0.out.trans h)
  clear lx26; have lx26 := fun w' (h : Gr _ w') => HF.out.c 5 rfl w' (HG0.out.trans h)
  simp only [Act.put, lA, lB, lC]
  refine wpPlan_nil (hT.out _ _ ?_)
  intro G vw2 hg hf
  simp only [puts, Act.put, lA, lB, lC, lD, lE, ↓reduceIte, Nat.reduceEqDiff]
  have HG := Lib.hid (((((((HF.out.gr (HG0.out.trans hg)).ar (RN29.out.gr hg)).ar (RN30.out.gr hg)).ar (RN31.out.gr hg)).ar (RN32.out.gr hg)).ar (RN33.out.gr hg)).ar (RN34.out.gr hg))
  simp only [zq1_, zq2_, zq3_, zq4_, lF, lG] at HG
  clear hT T HF hg hf HG0 RN29 RN30 RN31 RN32 RN33 RN34 lx25 lx26
  have lx27 := HG.out.c 6 rfl; have fx27 := HG.out.f 6 rfl
  have r0 := Gr.refl vw2
  go_wp2
  refine kO hK ?_; clear hK K
  clear r0 lx27 fx27
  refine fH (((((((((((((HG.out).put2 6 0 rfl).put 6 2 _ rfl).er 10).er 9).er 8).er 7).er 5).er 4).er 3).er 2).er 1).er 0) fun Wx3 HF => ?_
  clear HG
  refine wp_ret ?_
  try simp only [Exit.then, Exit.inBlock]
  have lx27 := HF.out.c 0 rfl
  have r0 := Gr.refl Wx3
  exact bodyPost_ret (v := .agg #[.bool (decide ((z).num < 0)), (.slice ao5 nn5 cc5), (.slice ao6 nn6 cc6)]) (by simp [results, Tryz.results89, go_sem, lx27 _ r0]) rfl ⟨⟨(.slice ao5 nn5 cc5), (.slice ao6 nn6 cc6), rfl, (HF.out.rn 1 rfl), (HF.out.rn 2 rfl)⟩, HF.out.1⟩
theorem qdiv_any (a b z : Rat) (va1 va2 vb1 vb2 : Value) (w : World) (hz : a / b = z) (hs_a : rz a ≤ 40000000) (hs_b : rz b ≤ 40000000) (bx21 : Rn w va1 (Int.natAbs ((a).num))) (bx22 : Rn w va2 ((a).den - 1)) (bx23 : Rn w vb1 (Int.natAbs ((b).num))) (bx24 : Rn w vb2 ((b).den - 1)) :
    Calls Tryz.prog 89 #[(Value.agg #[.bool (decide ((a).num < 0)), va1, va2]), (Value.agg #[.bool (decide ((b).num < 0)), vb1, vb2])] w fun e w' => (∃ r1 r2 : Value, e = .returned (.agg #[.bool (decide ((z).num < 0)), r1, r2]) ∧ Rn w' r1 (Int.natAbs ((z).num)) ∧ Rn w' r2 ((z).den - 1)) ∧ Below w.heap.size w w' := by
  cases h : (sgQ b == 0)
  · have hb : b.num ≠ 0 := fun e => by
      have : sgQ b = 0 := by rw [sgQ_num, if_pos e]
      rw [this] at h
      exact absurd h (by decide)
    exact qdiv_ne a b z _ va1 va2 vb1 vb2 w hz (Lib.hid rfl) h (Lib.hid hb) hs_a hs_b bx21 bx22 bx23 bx24
  · have hb : b = 0 := by
      have h2 : sgQ b = 0 := beq_iff_eq.1 h
      rw [sgQ_num] at h2
      split at h2
      · exact num_zero.1 (by assumption)
      · split at h2 <;> simp at h2
    have hz0 : z = 0 := by rw [← hz, hb, Rat.div_def, Rat.inv_zero, Rat.mul_zero]
    subst hz0
    refine (qdiv_zero a b _ va1 va2 vb1 vb2 w (Lib.hid rfl) h bx21 bx22 bx23 bx24).mono ?_
    rintro e w' ⟨rfl, hb'⟩
    exact ⟨⟨_, _, rfl, Rn.zero _, Rn.zero _⟩, hb'⟩
set_option maxRecDepth 20000 in
set_option maxHeartbeats 2000000 in
theorem qcmp_any (a b : Rat) (t : Int) (va1 va2 vb1 vb2 : Value) (w : World) (ht : sgQ (a - b) = t) (hs_a : rz a ≤ 10000000) (hs_b : rz b ≤ 10000000) (bx21 : Rn w va1 (Int.natAbs ((a).num))) (bx22 : Rn w va2 ((a).den - 1)) (bx23 : Rn w vb1 (Int.natAbs ((b).num))) (bx24 : Rn w vb2 ((b).den - 1)) :
    Calls Tryz.prog 129 #[(Value.agg #[.bool (decide ((a).num < 0)), va1, va2]), (Value.agg #[.bool (decide ((b).num < 0)), vb1, vb2])] w fun e w' => e = .returned (.int .i64 (t)) ∧ Below w.heap.size w w' := by
  replace ht := Lib.hid ht
  obtain ⟨ao_va1, n_va1, c_va1, rfl⟩ := Rn.sl bx21
  obtain ⟨ao_va2, n_va2, c_va2, rfl⟩ := Rn.sl bx22
  obtain ⟨ao_vb1, n_vb1, c_vb1, rfl⟩ := Rn.sl bx23
  obtain ⟨ao_vb2, n_vb2, c_vb2, rfl⟩ := Rn.sl bx24
  go_enter Tryz.func129, Tryz.ntmps129
  have HF := Lib.hid (hp0 w)
  replace HF := Lib.hid ((((HF.out.ar bx21).ar bx22).ar bx23).ar bx24)
  simp only [lF, lG] at HF
  clear bx21 bx22 bx23 bx24
  refine kS fun K hK => ?_
  refine wp_region_lit ?_
  go_wp2
  refine kO hK ?_; clear hK K
  refine fH (((HF.out).aL (w.heap.size)).aL (w.heap.size + 1)) fun Wx0 HG => ?_
  clear HF; have HF := HG; clear HG
  generalize w.heap.size + 1 = gx26 at *
  obtain ⟨u1, HZ1⟩ : ∃ z, Hid ((a) - (b) = z) := ⟨_, Lib.hid rfl⟩
  have su1 : rz u1 ≤ 20000001 := by rw [← HZ1.out]; have := rz_sub (a) (b); omega
  have lx25 := HF.out.c 4 rfl
  have lx26 := HF.out.c 5 rfl
  refine kS fun K hK => ?_
  have HG0 : Hid (Gr Wx0 Wx0) := Lib.hid (Gr.refl _)
  refine sq 5 [(true, 0), (true, 1), (false, 2), (true, 3), (true, 4)] fun T hT => ?_
  iterate 2 refine tk ?_
  refine wpPlan_callE rfl (by rfl) Tryz.call133 (by rfl) (fun w' hw => (qsub_any (a) (b) (u1) _ _ _ _ _ HZ1.out (by omega) (by omega) (HF.out.r 0 rfl (HG0.out.trans hw)) (HF.out.r 1 rfl (HG0.out.trans hw)) (HF.out.r 2 rfl (HG0.out.trans hw)) (HF.out.r 3 rfl (HG0.out.trans hw))).mono ?_)
  rintro e vv28 ⟨⟨rv1, rv2, rfl, bx28, bx29⟩, hg0⟩
  obtain ⟨ao1, nn1, cc1, rfl⟩ := Rn.sl bx28
  obtain ⟨ao2, nn2, cc2, rfl⟩ := Rn.sl bx29
  refine ⟨_, rfl, hg0, ?_⟩
  replace hg0 := Gr.trans hw hg0; clear hw
  replace HG0 := Lib.hid (HG0.out.trans hg0)
  have HGS := Lib.hid hg0; clear hg0
  clear HGS
  have RN28 := Lib.hid bx28; clear bx28
  have RN29 := Lib.hid bx29; clear bx29
  clear lx25; have lx25 := fun w' (h : Gr _ w') => HF.out.c 4 rfl w' (HG0.out.trans h)
  clear lx26; have lx26 := fun w' (h : Gr _ w') => HF.out.c 5 rfl w' (HG0.out.trans h)
  simp only [Act.put, lA, lB, lC]
  refine ck Tryz.call88 (fun w' hw => qsign_any (u1) (t) _ _ _ (by rw [← HZ1.out]; exact ht.out) (RN28.out.gr hw) (RN29.out.gr hw)) ?_
  refine tk ?_
  refine wpPlan_nil (hT.out _ _ ?_)
  intro vw1 hg
  simp only [puts, Act.put, lA, lB, lC, lD, lE, ↓reduceIte, Nat.reduceEqDiff]
  have HG := Lib.hid (((HF.out.gr (HG0.out.trans hg)).ar (RN28.out.gr hg)).ar (RN29.out.gr hg))
  simp only [zq1_, zq2_, zq3_, zq4_, lF, lG] at HG
  clear hT T HF hg HG0 RN28 RN29 lx25 lx26
  go_wp2
  refine kO hK ?_; clear hK K
  refine fH (((((((((HG.out).er 7).er 6).er 5).er 4).er 3).er 2).er 1).er 0) fun Wx1 HF => ?_
  clear HG
  refine wp_ret ?_
  try simp only [Exit.then, Exit.inBlock]
  exact bodyPost_ret (v := .int .i64 (t)) (by simp [results, Tryz.results129, go_sem]) rfl ⟨rfl, HF.out.1⟩
set_option maxRecDepth 20000 in
set_option maxHeartbeats 2000000 in
theorem qof_ref (n d : Int) (z : Rat) (w : World) (hz : (n : Rat) / (d : Rat) = z) (h1 : -9223372036854775808 ≤ n) (h2 : n ≤ 9223372036854775807) (h3 : -9223372036854775808 ≤ d) (h4 : d ≤ 9223372036854775807)  :
    Calls Tryz.prog 180 #[.int .i64 (n), .int .i64 (d)] w fun e w' => (∃ r1 r2 : Value, e = .returned (.agg #[.bool (decide ((z).num < 0)), r1, r2]) ∧ Rn w' r1 (Int.natAbs ((z).num)) ∧ Rn w' r2 ((z).den - 1)) ∧ Below w.heap.size w w' := by
  replace hz := Lib.hid hz
  go_enter Tryz.func180, Tryz.ntmps180
  have HF := Lib.hid (hp0 w)
  refine kS fun K hK => ?_
  refine wp_region_lit ?_
  go_wp2
  refine kO hK ?_; clear hK K
  refine fH ((HF.out).aL (w.heap.size)) fun Wx0 HG => ?_
  clear HF; have HF := HG; clear HG
  obtain ⟨u1, HZ1⟩ : ∃ z, Hid (((n : Int) : Rat) = z) := ⟨_, Lib.hid rfl⟩
  have su1 : rz u1 ≤ 5 := by rw [← HZ1.out]; exact rz_i64 (by omega) (by omega)
  obtain ⟨u2, HZ2⟩ : ∃ z, Hid (((d : Int) : Rat) = z) := ⟨_, Lib.hid rfl⟩
  have su2 : rz u2 ≤ 5 := by rw [← HZ2.out]; exact rz_i64 (by omega) (by omega)
  have HZ3 : Hid ((u1) / (u2) = z) := Lib.hid (by rw [← HZ1.out, ← HZ2.out]; exact hz.out)
  refine kS fun K hK => ?_
  have HG0 : Hid (Gr Wx0 Wx0) := Lib.hid (Gr.refl _)
  refine sq 5 [(true, 0), (false, 1), (true, 2), (false, 3), (false, 4)] fun T hT => ?_
  refine tk ?_
  refine wpPlan_callE rfl (by rfl) Tryz.call173 (by rfl) (fun w' hw => (qint_any (n) (u1) _ HZ1.out (by omega) (by omega)).mono ?_)
  rintro e vv2 ⟨⟨rv1, rv2, rfl, bx2, bx3⟩, hg0⟩
  obtain ⟨ao1, nn1, cc1, rfl⟩ := Rn.sl bx2
  obtain ⟨ao2, nn2, cc2, rfl⟩ := Rn.sl bx3
  refine ⟨_, rfl, hg0, ?_⟩
  replace hg0 := Gr.trans hw hg0; clear hw
  replace HG0 := Lib.hid (HG0.out.trans hg0)
  have HGS := Lib.hid hg0; clear hg0
  clear HGS
  have RN2 := Lib.hid bx2; clear bx2
  have RN3 := Lib.hid bx3; clear bx3
  simp only [Act.put, lA, lB, lC]
  refine tk ?_
  refine wpPlan_callE rfl (by rfl) Tryz.call173 (by rfl) (fun w' hw => (qint_any (d) (u2) _ HZ2.out (by omega) (by omega)).mono ?_)
  rintro e vv4 ⟨⟨rv3, rv4, rfl, bx4, bx5⟩, hg0⟩
  obtain ⟨ao3, nn3, cc3, rfl⟩ := Rn.sl bx4
  obtain ⟨ao4, nn4, cc4, rfl⟩ := Rn.sl bx5
  refine ⟨_, rfl, hg0, ?_⟩
  replace hg0 := Gr.trans hw hg0; clear hw
  replace HG0 := Lib.hid (HG0.out.trans hg0)
  have HGS := Lib.hid hg0; clear hg0
  replace RN2 := Lib.hid (RN2.out.gr HGS.out)
  replace RN3 := Lib.hid (RN3.out.gr HGS.out)
  clear HGS
  have RN4 := Lib.hid bx4; clear bx4
  have RN5 := Lib.hid bx5; clear bx5
  simp only [Act.put, lA, lB, lC]
  refine wpPlan_callE rfl (by rfl) Tryz.call89 (by rfl) (fun w' hw => (qdiv_any (u1) (u2) (z) _ _ _ _ _ HZ3.out (by omega) (by omega) (RN2.out.gr hw) (RN3.out.gr hw) (RN4.out.gr hw) (RN5.out.gr hw)).mono ?_)
  rintro e vv6 ⟨⟨rv5, rv6, rfl, bx6, bx7⟩, hg0⟩
  obtain ⟨ao5, nn5, cc5, rfl⟩ := Rn.sl bx6
  obtain ⟨ao6, nn6, cc6, rfl⟩ := Rn.sl bx7
  refine ⟨_, rfl, hg0, ?_⟩
  replace hg0 := Gr.trans hw hg0; clear hw
  replace HG0 := Lib.hid (HG0.out.trans hg0)
  have HGS := Lib.hid hg0; clear hg0
  replace RN2 := Lib.hid (RN2.out.gr HGS.out)
  replace RN3 := Lib.hid (RN3.out.gr HGS.out)
  replace RN4 := Lib.hid (RN4.out.gr HGS.out)
  replace RN5 := Lib.hid (RN5.out.gr HGS.out)
  clear HGS
  have RN6 := Lib.hid bx6; clear bx6
  have RN7 := Lib.hid bx7; clear bx7
  simp only [Act.put, lA, lB, lC]
  refine wpPlan_nil (hT.out _ _ ?_)
  intro vw1 hg
  simp only [puts, Act.put, lA, lB, lC, lD, lE, ↓reduceIte, Nat.reduceEqDiff]
  have HG := Lib.hid (((((((HF.out.gr (HG0.out.trans hg)).ar (RN2.out.gr hg)).ar (RN3.out.gr hg)).ar (RN4.out.gr hg)).ar (RN5.out.gr hg)).ar (RN6.out.gr hg)).ar (RN7.out.gr hg))
  simp only [zq1_, zq2_, zq3_, zq4_, lF, lG] at HG
  clear hT T HF hg HG0 RN2 RN3 RN4 RN5 RN6 RN7
  have lx0 := HG.out.c 0 rfl; have fx0 := HG.out.f 0 rfl
  have r0 := Gr.refl vw1
  go_wp2
  refine kO hK ?_; clear hK K
  clear r0 lx0 fx0
  refine fH (((((((HG.out).put2 0 0 rfl).put 0 2 _ rfl).er 4).er 3).er 2).er 1) fun Wx1 HF => ?_
  clear HG
  refine wp_ret ?_
  try simp only [Exit.then, Exit.inBlock]
  have lx0 := HF.out.c 0 rfl
  have r0 := Gr.refl Wx1
  exact bodyPost_ret (v := .agg #[.bool (decide ((z).num < 0)), (.slice ao5 nn5 cc5), (.slice ao6 nn6 cc6)]) (by simp [results, Tryz.results180, go_sem, lx0 _ r0]) rfl ⟨⟨(.slice ao5 nn5 cc5), (.slice ao6 nn6 cc6), rfl, (HF.out.rn 1 rfl), (HF.out.rn 2 rfl)⟩, HF.out.1⟩
end Go.Proofs.YtobojnodohjiaaaGreatDoor
