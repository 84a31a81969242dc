/- A pack of texts: RefT2, RefT3, RefU, RefV. No condition but those stated. -/
import Derived.Test.YtpcfncbcpknobaaGreatDoorPI
import Derived.Test.YtpcfncbcpknobaaGreatDoorHp
set_option linter.unusedVariables false
set_option linter.unusedSimpArgs false

/- gussetref02: Neg, Sign, Mul. -/
namespace Go.Proofs.YtpcfncbcpknobaaGreatDoor
open Go.RowKit
set_option linter.unusedSimpArgs false
set_option linter.unusedVariables false
attribute [local go_sem ↓] Go.wp_at_zero Go.wp_at_succ
set_option maxRecDepth 20000 in
set_option maxHeartbeats 2000000 in
theorem zneg_any (a z : Int) (va : Value) (w : World) (hz : -a = z) (bx21 : Rn w va (Int.natAbs (a))) :
    Calls Tryz.prog 113 #[(Value.agg #[.bool (decide ((a) < 0)), va])] w fun e w' => (∃ r1 : Value, e = .returned (.agg #[.bool (decide ((z) < 0)), r1]) ∧ Rn w' r1 (Int.natAbs (z))) ∧ Below w.heap.size w w' := by
  replace hz := Lib.hid hz
  obtain ⟨ao_va, n_va, c_va, rfl⟩ := Rn.sl bx21
  go_enter Tryz.func113, Tryz.ntmps113
  have HF := Lib.hid (hp0 w)
  replace HF := Lib.hid (HF.out.ar bx21)
  simp only [lF, lG] at HF
  clear bx21
  refine kS fun K hK => ?_
  refine wp_region_lit ?_
  go_wp2
  refine hK.out _ _ ?_; clear hK K
  show Code.wp _ _ _ _ _
  refine fH (((HF.out).al (b := w.heap.size) (by first | rfl | simp) (by decide)).al (b := w.heap.size + 1) (by first | rfl | simp) (by decide)) fun Wx0 HG => ?_
  clear HF; have HF := HG; clear HG
  generalize w.heap.size + 1 = gx23 at *
  have HZ1 : Hid ((if !decide ((a) < 0) then -((Int.natAbs (a) : Nat) : Int) else ((Int.natAbs (a) : Nat) : Int)) = z) := Lib.hid (by rw [← hz.out]; by_cases h : a < 0 <;> simp [h] <;> omega)
  have lx22 := HF.out.c 1 rfl
  refine kS fun K hK => ?_
  have HG0 : Hid (Gr Wx0 Wx0) := Lib.hid (Gr.refl _)
  refine sq 6 [(true, 0), (true, 1), (true, 2), (true, 3), (true, 4), (false, 5)] fun T hT => ?_
  iterate 5 refine tk ?_
  refine wpPlan_callE rfl (by rfl) Tryz.call165 (by rfl) (fun w' hw => (zfrom_any (!decide ((a) < 0)) (Int.natAbs (a)) (z) _ _ HZ1.out (HF.out.r 0 rfl (HG0.out.trans hw))).mono ?_)
  rintro e vv25 ⟨⟨rv1, rfl, bx25⟩, hg0⟩
  obtain ⟨ao1, nn1, cc1, rfl⟩ := Rn.sl bx25
  refine ⟨_, rfl, hg0, ?_⟩
  replace hg0 := Gr.trans hw hg0; clear hw
  replace HG0 := Lib.hid (HG0.out.trans hg0)
  have HGS := Lib.hid hg0; clear hg0
  clear HGS
  have RN25 := Lib.hid bx25; clear bx25
  clear lx22; have lx22 := fun w' (h : Gr _ w') => HF.out.c 1 rfl w' (HG0.out.trans h)
  simp only [Act.put, lA, lB, lC]
  refine wpPlan_nil (hT.out _ _ ?_)
  intro vw1 hg
  simp only [puts, Act.put, lA, lB, lC, lD, lE, ↓reduceIte, Nat.reduceEqDiff]
  have HG := Lib.hid ((HF.out.gr (HG0.out.trans hg)).ar (RN25.out.gr hg))
  simp only [List.zip_cons_cons, List.zip_nil_right, List.map_cons, List.map_nil, lF, lG] at HG
  clear hT T HF hg HG0 RN25 lx22
  have lx23 := HG.out.c 2 rfl; have fx23 := HG.out.f 2 rfl
  have r0 := Gr.refl vw1
  go_wp2
  refine hK.out _ _ ?_; clear hK K
  show Code.wp _ _ _ _ _
  clear r0 lx23 fx23
  refine fH ((((HG.out).put2 2 0 rfl).er 1).er 0) fun Wx1 HF => ?_
  clear HG
  refine wp_ret ?_
  try simp only [Exit.then, Exit.inBlock]
  have lx23 := HF.out.c 0 rfl
  have r0 := Gr.refl Wx1
  exact bodyPost_ret (v := .agg #[.bool (decide ((z) < 0)), (.slice ao1 nn1 cc1)]) (by simp [results, Tryz.results113, go_sem, lx23 _ r0]) rfl ⟨⟨(.slice ao1 nn1 cc1), rfl, (HF.out.rn 1 rfl)⟩, HF.out.1⟩

theorem sg_mul (a b : Int) : (if (decide (a < 0) != decide (b < 0)) then -((a.natAbs * b.natAbs : Nat) : Int) else ((a.natAbs * b.natAbs : Nat) : Int)) = a * b := by
  have h : ((a.natAbs * b.natAbs : Nat) : Int) = (a.natAbs : Int) * (b.natAbs : Int) := Int.natCast_mul _ _
  rw [h]
  by_cases h1 : a < 0 <;> by_cases h2 : b < 0
  · rw [Int.ofNat_natAbs_of_nonpos (by omega), Int.ofNat_natAbs_of_nonpos (by omega)]; simp [h1, h2, Int.neg_mul, Int.mul_neg]
  · rw [Int.ofNat_natAbs_of_nonpos (by omega), Int.natAbs_of_nonneg (by omega)]; simp [h1, h2, Int.neg_mul, Int.mul_neg]
  · rw [Int.natAbs_of_nonneg (by omega), Int.ofNat_natAbs_of_nonpos (by omega)]; simp [h1, h2, Int.neg_mul, Int.mul_neg]
  · rw [Int.natAbs_of_nonneg (by omega), Int.natAbs_of_nonneg (by omega)]; simp [h1, h2, Int.neg_mul, Int.mul_neg]
/-- the sign of an integer -/
def sgZ (a : Int) : Int := if a = 0 then 0 else if a < 0 then -1 else 1
theorem zsign_any (a s : Int) (va : Value) (w : World) (hs : sgZ a = s) (h : Rn w va a.natAbs) :
    Calls Tryz.prog 115 #[.agg #[.bool (decide (a < 0)), va]] w fun e w' => e = .returned (.int .i64 s) ∧ Below w.heap.size w w' := by
  obtain ⟨ao, c, rfl, hc, hc2⟩ := Dr.slice h
  obtain ⟨k, hk⟩ : ∃ k, tw a.natAbs = k := ⟨_, rfl⟩
  rw [hk] at hc ⊢
  have HS := Lib.hid hs
  clear h hs
  by_cases h0 : a = 0
  · subst h0
    have hk0 : k = 0 := by rw [← hk]; exact tw_zero
    subst hk0
    obtain rfl : s = 0 := by rw [← HS.out]; rfl
    clear hk
    go_enter Tryz.func115, Tryz.ntmps115
    go_wp2
    go_ret
    exact ⟨rfl, (Below.refl _ _).alloc (Nat.le_refl _) _⟩
  · have hk0 : 0 < k := by rw [← hk]; exact tw_pos (by omega)
    have hkz : ¬ (k = 0) := by omega
    clear hk
    by_cases h1 : a < 0
    · obtain rfl : s = -1 := by rw [← HS.out]; unfold sgZ; rw [if_neg h0, if_pos h1]
      go_enter Tryz.func115, Tryz.ntmps115
      go_wp2
      go_ret
      exact ⟨rfl, (Below.refl _ _).alloc (Nat.le_refl _) _⟩
    · obtain rfl : s = 1 := by rw [← HS.out]; unfold sgZ; rw [if_neg h0, if_neg h1]
      go_enter Tryz.func115, Tryz.ntmps115
      go_wp2
      go_ret
      exact ⟨rfl, (Below.refl _ _).alloc (Nat.le_refl _) _⟩

set_option maxRecDepth 20000 in
set_option maxHeartbeats 2000000 in
theorem zmul_any (a b z : Int) (va vb : Value) (w : World) (hz : a * b = z) (hs_a : tw (Int.natAbs a) ≤ 400000000) (hs_b : tw (Int.natAbs b) ≤ 400000000) (bx21 : Rn w va (Int.natAbs (a))) (bx22 : Rn w vb (Int.natAbs (b))) :
    Calls Tryz.prog 111 #[(Value.agg #[.bool (decide ((a) < 0)), va]), (Value.agg #[.bool (decide ((b) < 0)), vb])] w fun e w' => (∃ r1 : Value, e = .returned (.agg #[.bool (decide ((z) < 0)), r1]) ∧ Rn w' r1 (Int.natAbs (z))) ∧ Below w.heap.size w w' := by
  replace hz := Lib.hid hz
  obtain ⟨ao_va, n_va, c_va, rfl⟩ := Rn.sl bx21
  obtain ⟨ao_vb, n_vb, c_vb, rfl⟩ := Rn.sl bx22
  go_enter Tryz.func111, Tryz.ntmps111
  have HF := Lib.hid (hp0 w)
  replace HF := Lib.hid ((HF.out.ar bx21).ar bx22)
  simp only [lF, lG] at HF
  clear bx21 bx22
  refine kS fun K hK => ?_
  refine wp_region_lit ?_
  go_wp2
  refine hK.out _ _ ?_; clear hK K
  show Code.wp _ _ _ _ _
  refine fH ((((HF.out).al (b := w.heap.size) (by first | rfl | simp) (by decide)).al (b := w.heap.size + 1) (by first | rfl | simp) (by decide)).al (b := w.heap.size + 1 + 1) (by first | rfl | simp) (by decide)) fun Wx0 HG => ?_
  clear HF; have HF := HG; clear HG
  generalize w.heap.size + 1 + 1 = gx25 at *
  generalize w.heap.size + 1 = gx24 at *
  obtain ⟨u1, HZ1⟩ : ∃ z, Hid ((Int.natAbs (a)) * (Int.natAbs (b)) = z) := ⟨_, Lib.hid rfl⟩
  have su1 : tw u1 ≤ 800000000 := by rw [← HZ1.out]; have := tw_mul (Int.natAbs (a)) (Int.natAbs (b)); omega
  have HZ2 : Hid ((if decide (a < 0) != decide (b < 0) then -((u1 : Nat) : Int) else ((u1 : Nat) : Int)) = z) := Lib.hid (by rw [← hz.out, ← HZ1.out]; exact sg_mul a b)
  have lx23 := HF.out.c 2 rfl
  have lx24 := HF.out.c 3 rfl
  refine kS fun K hK => ?_
  have HG0 : Hid (Gr Wx0 Wx0) := Lib.hid (Gr.refl _)
  refine pd 11 [(true, 0), (true, 1), (true, 2), (true, 3), (true, 4), (true, 5), (true, 6), (true, 7), (true, 8), (false, 9), (false, 10)] fun T hT => ?_
  iterate 9 refine tk ?_
  refine wpPlan_callE rfl (by rfl) Tryz.call164 (by rfl) (fun w' hw => (zrmul _ _ (Int.natAbs (a)) (Int.natAbs (b)) (u1) _ HZ1.out (HF.out.r 0 rfl (HG0.out.trans hw)) (HF.out.r 1 rfl (HG0.out.trans hw)) (by omega) (by omega)).mono ?_)
  rintro e vv27 ⟨⟨rv1, rfl, bx27⟩, hg0⟩
  obtain ⟨ao1, nn1, cc1, rfl⟩ := Rn.sl bx27
  refine ⟨_, rfl, hg0, ?_⟩
  replace hg0 := Gr.trans hw hg0; clear hw
  replace HG0 := Lib.hid (HG0.out.trans hg0)
  have HGS := Lib.hid hg0; clear hg0
  clear HGS
  have RN27 := Lib.hid bx27; clear bx27
  clear lx23; have lx23 := fun w' (h : Gr _ w') => HF.out.c 2 rfl w' (HG0.out.trans h)
  clear lx24; have lx24 := fun w' (h : Gr _ w') => HF.out.c 3 rfl w' (HG0.out.trans h)
  simp only [Act.put, lA, lB, lC]
  refine wpPlan_callE rfl (by rfl) Tryz.call165 (by rfl) (fun w' hw => (zfrom_any (decide (a < 0) != decide (b < 0)) (u1) (z) _ _ HZ2.out (RN27.out.gr hw)).mono ?_)
  rintro e vv28 ⟨⟨rv2, rfl, bx28⟩, hg0⟩
  obtain ⟨ao2, nn2, cc2, rfl⟩ := Rn.sl bx28
  refine ⟨_, rfl, hg0, ?_⟩
  replace hg0 := Gr.trans hw hg0; clear hw
  replace HG0 := Lib.hid (HG0.out.trans hg0)
  have HGS := Lib.hid hg0; clear hg0
  replace RN27 := Lib.hid (RN27.out.gr HGS.out)
  clear HGS
  have RN28 := Lib.hid bx28; clear bx28
  clear lx23; have lx23 := fun w' (h : Gr _ w') => HF.out.c 2 rfl w' (HG0.out.trans h)
  clear lx24; have lx24 := fun w' (h : Gr _ w') => HF.out.c 3 rfl w' (HG0.out.trans h)
  simp only [Act.put, lA, lB, lC]
  refine wpPlan_nil (hT.out _ _ ?_)
  intro G vw1 hg hf
  simp only [puts, Act.put, lA, lB, lC, lD, lE, ↓reduceIte, Nat.reduceEqDiff]
  have HG := Lib.hid (((HF.out.gr (HG0.out.trans hg)).ar (RN27.out.gr hg)).ar (RN28.out.gr hg))
  simp only [List.zip_cons_cons, List.zip_nil_right, List.map_cons, List.map_nil, lF, lG] at HG
  clear hT T HF hg hf HG0 RN27 RN28 lx23 lx24
  have lx25 := HG.out.c 4 rfl; have fx25 := HG.out.f 4 rfl
  have r0 := Gr.refl vw1
  go_wp2
  refine hK.out _ _ ?_; clear hK K
  show Code.wp _ _ _ _ _
  clear r0 lx25 fx25
  refine fH (((((((HG.out).put2 4 0 rfl).er 5).er 3).er 2).er 1).er 0) fun Wx1 HF => ?_
  clear HG
  refine wp_ret ?_
  try simp only [Exit.then, Exit.inBlock]
  have lx25 := HF.out.c 0 rfl
  have r0 := Gr.refl Wx1
  exact bodyPost_ret (v := .agg #[.bool (decide ((z) < 0)), (.slice ao2 nn2 cc2)]) (by simp [results, Tryz.results111, go_sem, lx25 _ r0]) rfl ⟨⟨(.slice ao2 nn2 cc2), rfl, (HF.out.rn 1 rfl)⟩, HF.out.1⟩

end Go.Proofs.YtpcfncbcpknobaaGreatDoor


/- gussetref02: Add, Of. -/
namespace Go.Proofs.YtpcfncbcpknobaaGreatDoor
open Go.RowKit
set_option linter.unusedSimpArgs false
set_option linter.unusedVariables false
attribute [local go_sem ↓] Go.wp_at_zero Go.wp_at_succ
theorem cmpI_ge {x y : Nat} (h : 0 ≤ cmpI (x : Int) (y : Int)) : y ≤ x := by
  unfold cmpI at h
  split at h
  · omega
  · omega
theorem cmpI_lt' {x y : Nat} (h : ¬ 0 ≤ cmpI (x : Int) (y : Int)) : x ≤ y := by
  unfold cmpI at h
  split at h
  · omega
  · split at h <;> omega
theorem sg_add {a b : Int} (h : (decide (a < 0) == decide (b < 0)) = true) : (if decide (a < 0) then -((a.natAbs + b.natAbs : Nat) : Int) else ((a.natAbs + b.natAbs : Nat) : Int)) = a + b := by
  have e := beq_iff_eq.1 h
  have e2 := decide_eq_decide.1 e
  by_cases h1 : a < 0
  · have := e2.1 h1; simp only [h1, decide_true, if_true]; omega
  · have : ¬ b < 0 := fun h => h1 (e2.2 h)
    simp only [h1, decide_false, Bool.false_eq_true, if_false]; omega
theorem sg_sub {a b : Int} (h : (decide (a < 0) == decide (b < 0)) = false) (hl : b.natAbs ≤ a.natAbs) : (if decide (a < 0) then -((a.natAbs - b.natAbs : Nat) : Int) else ((a.natAbs - b.natAbs : Nat) : Int)) = a + b := by
  by_cases h1 : a < 0
  · have h2 : ¬ b < 0 := fun h2 => by simp [h1, h2] at h
    simp only [h1, decide_true, if_true]; omega
  · have h2 : b < 0 := by
      rcases Int.lt_or_le b 0 with h2 | h2
      · exact h2
      · simp [h1, show ¬ b < 0 by omega] at h
    simp only [h1, decide_false, Bool.false_eq_true, if_false]; omega
theorem sg_bus {a b : Int} (h : (decide (a < 0) == decide (b < 0)) = false) (hl : a.natAbs ≤ b.natAbs) : (if decide (b < 0) then -((b.natAbs - a.natAbs : Nat) : Int) else ((b.natAbs - a.natAbs : Nat) : Int)) = a + b := by
  have h' : (decide (b < 0) == decide (a < 0)) = false := by rw [← h]; exact Bool.beq_comm
  rw [sg_sub h' hl, Int.add_comm]

set_option maxRecDepth 20000 in
set_option maxHeartbeats 2000000 in
theorem zadd_same (a b z : Int) (va vb : Value) (w : World) (hz : a + b = z) (h : (decide (a < 0) == decide (b < 0)) = true) (hs_a : tw (Int.natAbs a) ≤ 400000000) (hs_b : tw (Int.natAbs b) ≤ 400000000) (bx21 : Rn w va (Int.natAbs (a))) (bx22 : Rn w vb (Int.natAbs (b))) :
    Calls Tryz.prog 108 #[(Value.agg #[.bool (decide ((a) < 0)), va]), (Value.agg #[.bool (decide ((b) < 0)), vb])] w fun e w' => (∃ r1 : Value, e = .returned (.agg #[.bool (decide ((z) < 0)), r1]) ∧ Rn w' r1 (Int.natAbs (z))) ∧ Below w.heap.size w w' := by
  replace hz := Lib.hid hz
  have HS := Lib.hid h
  obtain ⟨ao_va, n_va, c_va, rfl⟩ := Rn.sl bx21
  obtain ⟨ao_vb, n_vb, c_vb, rfl⟩ := Rn.sl bx22
  go_enter Tryz.func108, Tryz.ntmps108
  have HF := Lib.hid (hp0 w)
  replace HF := Lib.hid ((HF.out.ar bx21).ar bx22)
  simp only [lF, lG] at HF
  clear bx21 bx22
  refine kS fun K hK => ?_
  refine wp_region_lit ?_
  go_wp2
  refine hK.out _ _ ?_; clear hK K
  show Code.wp _ _ _ _ _
  refine fH ((((HF.out).al (b := w.heap.size) (by first | rfl | simp) (by decide)).al (b := w.heap.size + 1) (by first | rfl | simp) (by decide)).al (b := w.heap.size + 1 + 1) (by first | rfl | simp) (by decide)) fun Wx0 HG => ?_
  clear HF; have HF := HG; clear HG
  generalize w.heap.size + 1 + 1 = gx25 at *
  generalize w.heap.size + 1 = gx24 at *
  refine wp_seq ?_
  have lx23 := HF.out.c 2 rfl
  have lx24 := HF.out.c 3 rfl
  refine kS fun K hK => ?_
  refine sq 5 [(true, 0), (true, 1), (true, 2), (true, 3), (true, 4)] fun T hT => ?_
  iterate 5 refine tk ?_
  refine nlS hT HF fun vw1 HG => ?_
  clear hT T HF lx23 lx24
  go_wp2
  refine hK.out _ _ ?_; clear hK K
  show Code.wp _ _ _ _ _
  have HF := HG; clear HG
  refine wp_cond_true (by rfl) ?_
  obtain ⟨u1, HZ1⟩ : ∃ z, Hid ((Int.natAbs (a)) + (Int.natAbs (b)) = z) := ⟨_, Lib.hid rfl⟩
  have su1 : tw u1 ≤ 400000001 := by rw [← HZ1.out]; have := tw_add (Int.natAbs (a)) (Int.natAbs (b)); omega
  have HZ2 : Hid ((if decide ((a) < 0) then -((u1 : Nat) : Int) else ((u1 : Nat) : Int)) = z) := Lib.hid (by rw [← hz.out, ← HZ1.out]; exact sg_add HS.out)
  have lx23 := HF.out.c 2 rfl
  have lx24 := HF.out.c 3 rfl
  refine kS fun K hK => ?_
  have HG0 : Hid (Gr vw1 vw1) := Lib.hid (Gr.refl _)
  refine pd 8 [(true, 0), (true, 1), (true, 2), (true, 3), (true, 4), (true, 5), (false, 6), (false, 7)] fun T hT => ?_
  iterate 6 refine tk ?_
  refine wpPlan_callE rfl (by rfl) Tryz.call148 (by rfl) (fun w' hw => (zradd _ _ (Int.natAbs (a)) (Int.natAbs (b)) (u1) _ HZ1.out (HF.out.r 0 rfl (HG0.out.trans hw)) (HF.out.r 1 rfl (HG0.out.trans hw)) (by omega) (by omega)).mono ?_)
  rintro e vv27 ⟨⟨rv1, rfl, bx27⟩, hg0⟩
  obtain ⟨ao1, nn1, cc1, rfl⟩ := Rn.sl bx27
  refine ⟨_, rfl, hg0, ?_⟩
  replace hg0 := Gr.trans hw hg0; clear hw
  replace HG0 := Lib.hid (HG0.out.trans hg0)
  have HGS := Lib.hid hg0; clear hg0
  clear HGS
  have RN27 := Lib.hid bx27; clear bx27
  clear lx23; have lx23 := fun w' (h : Gr _ w') => HF.out.c 2 rfl w' (HG0.out.trans h)
  clear lx24; have lx24 := fun w' (h : Gr _ w') => HF.out.c 3 rfl w' (HG0.out.trans h)
  simp only [Act.put, lA, lB, lC]
  refine wpPlan_callE rfl (by rfl) Tryz.call165 (by rfl) (fun w' hw => (zfrom_any (decide ((a) < 0)) (u1) (z) _ _ HZ2.out (RN27.out.gr hw)).mono ?_)
  rintro e vv28 ⟨⟨rv2, rfl, bx28⟩, hg0⟩
  obtain ⟨ao2, nn2, cc2, rfl⟩ := Rn.sl bx28
  refine ⟨_, rfl, hg0, ?_⟩
  replace hg0 := Gr.trans hw hg0; clear hw
  replace HG0 := Lib.hid (HG0.out.trans hg0)
  have HGS := Lib.hid hg0; clear hg0
  replace RN27 := Lib.hid (RN27.out.gr HGS.out)
  clear HGS
  have RN28 := Lib.hid bx28; clear bx28
  clear lx23; have lx23 := fun w' (h : Gr _ w') => HF.out.c 2 rfl w' (HG0.out.trans h)
  clear lx24; have lx24 := fun w' (h : Gr _ w') => HF.out.c 3 rfl w' (HG0.out.trans h)
  simp only [Act.put, lA, lB, lC]
  refine wpPlan_nil (hT.out _ _ ?_)
  intro G vw2 hg hf
  simp only [puts, Act.put, lA, lB, lC, lD, lE, ↓reduceIte, Nat.reduceEqDiff]
  have HG := Lib.hid (((HF.out.gr (HG0.out.trans hg)).ar (RN27.out.gr hg)).ar (RN28.out.gr hg))
  simp only [List.zip_cons_cons, List.zip_nil_right, List.map_cons, List.map_nil, lF, lG] at HG
  clear hT T HF hg hf HG0 RN27 RN28 lx23 lx24
  have lx25 := HG.out.c 4 rfl; have fx25 := HG.out.f 4 rfl
  have r0 := Gr.refl vw2
  go_wp2
  refine hK.out _ _ ?_; clear hK K
  show Code.wp _ _ _ _ _
  clear r0 lx25 fx25
  refine fH (((HG.out).put2 4 0 rfl).er 5) fun Wx2 HF => ?_
  clear HG
  refine wp_ret ?_
  try simp only [Exit.then, Exit.inBlock]
  have lx25 := HF.out.c 4 rfl
  have r0 := Gr.refl Wx2
  exact bodyPost_ret (v := .agg #[.bool (decide ((z) < 0)), (.slice ao2 nn2 cc2)]) (by simp [results, Tryz.results108, go_sem, lx25 _ r0]) rfl ⟨⟨(.slice ao2 nn2 cc2), rfl, (HF.out.rn 5 rfl)⟩, HF.out.1⟩

set_option maxRecDepth 20000 in
set_option maxHeartbeats 2000000 in
theorem zadd_sub (a b z : Int) (c : Int) (va vb : Value) (w : World) (hz : a + b = z) (h : (decide (a < 0) == decide (b < 0)) = false) (hc : Hid (cmpI (a.natAbs : Int) (b.natAbs : Int) = c)) (hc0 : decide (0 ≤ c) = true) (hs_a : tw (Int.natAbs a) ≤ 400000000) (hs_b : tw (Int.natAbs b) ≤ 400000000) (bx21 : Rn w va (Int.natAbs (a))) (bx22 : Rn w vb (Int.natAbs (b))) :
    Calls Tryz.prog 108 #[(Value.agg #[.bool (decide ((a) < 0)), va]), (Value.agg #[.bool (decide ((b) < 0)), vb])] w fun e w' => (∃ r1 : Value, e = .returned (.agg #[.bool (decide ((z) < 0)), r1]) ∧ Rn w' r1 (Int.natAbs (z))) ∧ Below w.heap.size w w' := by
  replace hz := Lib.hid hz
  have HS := Lib.hid h
  have HLE : Hid (b.natAbs ≤ a.natAbs) := Lib.hid (cmpI_ge (by rw [hc.out]; exact of_decide_eq_true hc0))
  obtain ⟨ao_va, n_va, c_va, rfl⟩ := Rn.sl bx21
  obtain ⟨ao_vb, n_vb, c_vb, rfl⟩ := Rn.sl bx22
  go_enter Tryz.func108, Tryz.ntmps108
  have HF := Lib.hid (hp0 w)
  replace HF := Lib.hid ((HF.out.ar bx21).ar bx22)
  simp only [lF, lG] at HF
  clear bx21 bx22
  refine kS fun K hK => ?_
  refine wp_region_lit ?_
  go_wp2
  refine hK.out _ _ ?_; clear hK K
  show Code.wp _ _ _ _ _
  refine fH ((((HF.out).al (b := w.heap.size) (by first | rfl | simp) (by decide)).al (b := w.heap.size + 1) (by first | rfl | simp) (by decide)).al (b := w.heap.size + 1 + 1) (by first | rfl | simp) (by decide)) fun Wx0 HG => ?_
  clear HF; have HF := HG; clear HG
  generalize w.heap.size + 1 + 1 = gx25 at *
  generalize w.heap.size + 1 = gx24 at *
  refine wp_seq ?_
  have lx23 := HF.out.c 2 rfl
  have lx24 := HF.out.c 3 rfl
  refine kS fun K hK => ?_
  refine sq 5 [(true, 0), (true, 1), (true, 2), (true, 3), (true, 4)] fun T hT => ?_
  iterate 5 refine tk ?_
  refine nlS hT HF fun vw1 HG => ?_
  clear hT T HF lx23 lx24
  go_wp2
  refine hK.out _ _ ?_; clear hK K
  show Code.wp _ _ _ _ _
  have HF := HG; clear HG
  refine wp_cond_false (by rfl) ?_
  refine wp_skip ?_
  show Code.wp _ _ _ _ _
  refine wp_seq ?_
  have lx23 := HF.out.c 2 rfl
  have lx24 := HF.out.c 3 rfl
  refine kS fun K hK => ?_
  refine sq 6 [(true, 0), (true, 1), (true, 2), (true, 3), (true, 4), (true, 5)] fun T hT => ?_
  iterate 4 refine tk ?_
  refine ck Tryz.call147 (fun w' hw => zrcmp _ _ (Int.natAbs (a)) (Int.natAbs (b)) (c) _ (hc.out) (HF.out.r 0 rfl hw) (HF.out.r 1 rfl hw) (by omega) (by omega)) ?_
  refine tk ?_
  refine nlS hT HF fun vw2 HG => ?_
  clear hT T HF lx23 lx24
  go_wp2
  refine hK.out _ _ ?_; clear hK K
  show Code.wp _ _ _ _ _
  have HF := HG; clear HG
  refine wp_cond_true (by rfl) ?_
  obtain ⟨u1, HZ1⟩ : ∃ z, Hid ((Int.natAbs (a)) - (Int.natAbs (b)) = z) := ⟨_, Lib.hid rfl⟩
  have su1 : tw u1 ≤ 400000000 := by rw [← HZ1.out]; have := tw_sub (Int.natAbs (a)) (Int.natAbs (b)); omega
  have HZ2 : Hid ((if decide ((a) < 0) then -((u1 : Nat) : Int) else ((u1 : Nat) : Int)) = z) := Lib.hid (by rw [← hz.out, ← HZ1.out]; exact sg_sub HS.out HLE.out)
  have lx23 := HF.out.c 2 rfl
  have lx24 := HF.out.c 3 rfl
  refine kS fun K hK => ?_
  have HG0 : Hid (Gr vw2 vw2) := Lib.hid (Gr.refl _)
  refine pd 8 [(true, 0), (true, 1), (true, 2), (true, 3), (true, 4), (true, 5), (false, 6), (false, 7)] fun T hT => ?_
  iterate 6 refine tk ?_
  refine wpPlan_callE rfl (by rfl) Tryz.call179 (by rfl) (fun w' hw => (zrsub _ _ (Int.natAbs (a)) (Int.natAbs (b)) (u1) _ HZ1.out (HF.out.r 0 rfl (HG0.out.trans hw)) (HF.out.r 1 rfl (HG0.out.trans hw)) HLE.out (by omega) (by omega)).mono ?_)
  rintro e vv27 ⟨⟨rv1, rfl, bx27⟩, hg0⟩
  obtain ⟨ao1, nn1, cc1, rfl⟩ := Rn.sl bx27
  refine ⟨_, rfl, hg0, ?_⟩
  replace hg0 := Gr.trans hw hg0; clear hw
  replace HG0 := Lib.hid (HG0.out.trans hg0)
  have HGS := Lib.hid hg0; clear hg0
  clear HGS
  have RN27 := Lib.hid bx27; clear bx27
  clear lx23; have lx23 := fun w' (h : Gr _ w') => HF.out.c 2 rfl w' (HG0.out.trans h)
  clear lx24; have lx24 := fun w' (h : Gr _ w') => HF.out.c 3 rfl w' (HG0.out.trans h)
  simp only [Act.put, lA, lB, lC]
  refine wpPlan_callE rfl (by rfl) Tryz.call165 (by rfl) (fun w' hw => (zfrom_any (decide ((a) < 0)) (u1) (z) _ _ HZ2.out (RN27.out.gr hw)).mono ?_)
  rintro e vv28 ⟨⟨rv2, rfl, bx28⟩, hg0⟩
  obtain ⟨ao2, nn2, cc2, rfl⟩ := Rn.sl bx28
  refine ⟨_, rfl, hg0, ?_⟩
  replace hg0 := Gr.trans hw hg0; clear hw
  replace HG0 := Lib.hid (HG0.out.trans hg0)
  have HGS := Lib.hid hg0; clear hg0
  replace RN27 := Lib.hid (RN27.out.gr HGS.out)
  clear HGS
  have RN28 := Lib.hid bx28; clear bx28
  clear lx23; have lx23 := fun w' (h : Gr _ w') => HF.out.c 2 rfl w' (HG0.out.trans h)
  clear lx24; have lx24 := fun w' (h : Gr _ w') => HF.out.c 3 rfl w' (HG0.out.trans h)
  simp only [Act.put, lA, lB, lC]
  refine wpPlan_nil (hT.out _ _ ?_)
  intro G vw3 hg hf
  simp only [puts, Act.put, lA, lB, lC, lD, lE, ↓reduceIte, Nat.reduceEqDiff]
  have HG := Lib.hid (((HF.out.gr (HG0.out.trans hg)).ar (RN27.out.gr hg)).ar (RN28.out.gr hg))
  simp only [List.zip_cons_cons, List.zip_nil_right, List.map_cons, List.map_nil, lF, lG] at HG
  clear hT T HF hg hf HG0 RN27 RN28 lx23 lx24
  have lx25 := HG.out.c 4 rfl; have fx25 := HG.out.f 4 rfl
  have r0 := Gr.refl vw3
  go_wp2
  refine hK.out _ _ ?_; clear hK K
  show Code.wp _ _ _ _ _
  clear r0 lx25 fx25
  refine fH (((HG.out).put2 4 0 rfl).er 5) fun Wx4 HF => ?_
  clear HG
  refine wp_ret ?_
  try simp only [Exit.then, Exit.inBlock]
  have lx25 := HF.out.c 4 rfl
  have r0 := Gr.refl Wx4
  exact bodyPost_ret (v := .agg #[.bool (decide ((z) < 0)), (.slice ao2 nn2 cc2)]) (by simp [results, Tryz.results108, go_sem, lx25 _ r0]) rfl ⟨⟨(.slice ao2 nn2 cc2), rfl, (HF.out.rn 5 rfl)⟩, HF.out.1⟩

set_option maxRecDepth 20000 in
set_option maxHeartbeats 2000000 in
theorem zadd_bus (a b z : Int) (c : Int) (va vb : Value) (w : World) (hz : a + b = z) (h : (decide (a < 0) == decide (b < 0)) = false) (hc : Hid (cmpI (a.natAbs : Int) (b.natAbs : Int) = c)) (hc0 : decide (0 ≤ c) = false) (hs_a : tw (Int.natAbs a) ≤ 400000000) (hs_b : tw (Int.natAbs b) ≤ 400000000) (bx21 : Rn w va (Int.natAbs (a))) (bx22 : Rn w vb (Int.natAbs (b))) :
    Calls Tryz.prog 108 #[(Value.agg #[.bool (decide ((a) < 0)), va]), (Value.agg #[.bool (decide ((b) < 0)), vb])] w fun e w' => (∃ r1 : Value, e = .returned (.agg #[.bool (decide ((z) < 0)), r1]) ∧ Rn w' r1 (Int.natAbs (z))) ∧ Below w.heap.size w w' := by
  replace hz := Lib.hid hz
  have HS := Lib.hid h
  have HLE : Hid (a.natAbs ≤ b.natAbs) := Lib.hid (cmpI_lt' (by rw [hc.out]; exact of_decide_eq_false hc0))
  obtain ⟨ao_va, n_va, c_va, rfl⟩ := Rn.sl bx21
  obtain ⟨ao_vb, n_vb, c_vb, rfl⟩ := Rn.sl bx22
  go_enter Tryz.func108, Tryz.ntmps108
  have HF := Lib.hid (hp0 w)
  replace HF := Lib.hid ((HF.out.ar bx21).ar bx22)
  simp only [lF, lG] at HF
  clear bx21 bx22
  refine kS fun K hK => ?_
  refine wp_region_lit ?_
  go_wp2
  refine hK.out _ _ ?_; clear hK K
  show Code.wp _ _ _ _ _
  refine fH ((((HF.out).al (b := w.heap.size) (by first | rfl | simp) (by decide)).al (b := w.heap.size + 1) (by first | rfl | simp) (by decide)).al (b := w.heap.size + 1 + 1) (by first | rfl | simp) (by decide)) fun Wx0 HG => ?_
  clear HF; have HF := HG; clear HG
  generalize w.heap.size + 1 + 1 = gx25 at *
  generalize w.heap.size + 1 = gx24 at *
  refine wp_seq ?_
  have lx23 := HF.out.c 2 rfl
  have lx24 := HF.out.c 3 rfl
  refine kS fun K hK => ?_
  refine sq 5 [(true, 0), (true, 1), (true, 2), (true, 3), (true, 4)] fun T hT => ?_
  iterate 5 refine tk ?_
  refine nlS hT HF fun vw1 HG => ?_
  clear hT T HF lx23 lx24
  go_wp2
  refine hK.out _ _ ?_; clear hK K
  show Code.wp _ _ _ _ _
  have HF := HG; clear HG
  refine wp_cond_false (by rfl) ?_
  refine wp_skip ?_
  show Code.wp _ _ _ _ _
  refine wp_seq ?_
  have lx23 := HF.out.c 2 rfl
  have lx24 := HF.out.c 3 rfl
  refine kS fun K hK => ?_
  refine sq 6 [(true, 0), (true, 1), (true, 2), (true, 3), (true, 4), (true, 5)] fun T hT => ?_
  iterate 4 refine tk ?_
  refine ck Tryz.call147 (fun w' hw => zrcmp _ _ (Int.natAbs (a)) (Int.natAbs (b)) (c) _ (hc.out) (HF.out.r 0 rfl hw) (HF.out.r 1 rfl hw) (by omega) (by omega)) ?_
  refine tk ?_
  refine nlS hT HF fun vw2 HG => ?_
  clear hT T HF lx23 lx24
  go_wp2
  refine hK.out _ _ ?_; clear hK K
  show Code.wp _ _ _ _ _
  have HF := HG; clear HG
  refine wp_cond_false (by rfl) ?_
  refine wp_skip ?_
  show Code.wp _ _ _ _ _
  obtain ⟨u1, HZ1⟩ : ∃ z, Hid ((Int.natAbs (b)) - (Int.natAbs (a)) = z) := ⟨_, Lib.hid rfl⟩
  have su1 : tw u1 ≤ 400000000 := by rw [← HZ1.out]; have := tw_sub (Int.natAbs (b)) (Int.natAbs (a)); omega
  have HZ2 : Hid ((if decide ((b) < 0) then -((u1 : Nat) : Int) else ((u1 : Nat) : Int)) = z) := Lib.hid (by rw [← hz.out, ← HZ1.out]; exact sg_bus HS.out HLE.out)
  have lx23 := HF.out.c 2 rfl
  have lx24 := HF.out.c 3 rfl
  refine kS fun K hK => ?_
  have HG0 : Hid (Gr vw2 vw2) := Lib.hid (Gr.refl _)
  refine pd 8 [(true, 0), (true, 1), (true, 2), (true, 3), (true, 4), (true, 5), (false, 6), (false, 7)] fun T hT => ?_
  iterate 6 refine tk ?_
  refine wpPlan_callE rfl (by rfl) Tryz.call179 (by rfl) (fun w' hw => (zrsub _ _ (Int.natAbs (b)) (Int.natAbs (a)) (u1) _ HZ1.out (HF.out.r 1 rfl (HG0.out.trans hw)) (HF.out.r 0 rfl (HG0.out.trans hw)) HLE.out (by omega) (by omega)).mono ?_)
  rintro e vv27 ⟨⟨rv1, rfl, bx27⟩, hg0⟩
  obtain ⟨ao1, nn1, cc1, rfl⟩ := Rn.sl bx27
  refine ⟨_, rfl, hg0, ?_⟩
  replace hg0 := Gr.trans hw hg0; clear hw
  replace HG0 := Lib.hid (HG0.out.trans hg0)
  have HGS := Lib.hid hg0; clear hg0
  clear HGS
  have RN27 := Lib.hid bx27; clear bx27
  clear lx23; have lx23 := fun w' (h : Gr _ w') => HF.out.c 2 rfl w' (HG0.out.trans h)
  clear lx24; have lx24 := fun w' (h : Gr _ w') => HF.out.c 3 rfl w' (HG0.out.trans h)
  simp only [Act.put, lA, lB, lC]
  refine wpPlan_callE rfl (by rfl) Tryz.call165 (by rfl) (fun w' hw => (zfrom_any (decide ((b) < 0)) (u1) (z) _ _ HZ2.out (RN27.out.gr hw)).mono ?_)
  rintro e vv28 ⟨⟨rv2, rfl, bx28⟩, hg0⟩
  obtain ⟨ao2, nn2, cc2, rfl⟩ := Rn.sl bx28
  refine ⟨_, rfl, hg0, ?_⟩
  replace hg0 := Gr.trans hw hg0; clear hw
  replace HG0 := Lib.hid (HG0.out.trans hg0)
  have HGS := Lib.hid hg0; clear hg0
  replace RN27 := Lib.hid (RN27.out.gr HGS.out)
  clear HGS
  have RN28 := Lib.hid bx28; clear bx28
  clear lx23; have lx23 := fun w' (h : Gr _ w') => HF.out.c 2 rfl w' (HG0.out.trans h)
  clear lx24; have lx24 := fun w' (h : Gr _ w') => HF.out.c 3 rfl w' (HG0.out.trans h)
  simp only [Act.put, lA, lB, lC]
  refine wpPlan_nil (hT.out _ _ ?_)
  intro G vw3 hg hf
  simp only [puts, Act.put, lA, lB, lC, lD, lE, ↓reduceIte, Nat.reduceEqDiff]
  have HG := Lib.hid (((HF.out.gr (HG0.out.trans hg)).ar (RN27.out.gr hg)).ar (RN28.out.gr hg))
  simp only [List.zip_cons_cons, List.zip_nil_right, List.map_cons, List.map_nil, lF, lG] at HG
  clear hT T HF hg hf HG0 RN27 RN28 lx23 lx24
  have lx25 := HG.out.c 4 rfl; have fx25 := HG.out.f 4 rfl
  have r0 := Gr.refl vw3
  go_wp2
  refine hK.out _ _ ?_; clear hK K
  show Code.wp _ _ _ _ _
  clear r0 lx25 fx25
  refine fH (((((((HG.out).put2 4 0 rfl).er 5).er 3).er 2).er 1).er 0) fun Wx5 HF => ?_
  clear HG
  refine wp_ret ?_
  try simp only [Exit.then, Exit.inBlock]
  have lx25 := HF.out.c 0 rfl
  have r0 := Gr.refl Wx5
  exact bodyPost_ret (v := .agg #[.bool (decide ((z) < 0)), (.slice ao2 nn2 cc2)]) (by simp [results, Tryz.results108, go_sem, lx25 _ r0]) rfl ⟨⟨(.slice ao2 nn2 cc2), rfl, (HF.out.rn 1 rfl)⟩, HF.out.1⟩

theorem zadd_any (a b z : Int) (va vb : Value) (w : World) (hz : a + b = z) (hs_a : tw (Int.natAbs a) ≤ 400000000) (hs_b : tw (Int.natAbs b) ≤ 400000000) (bx21 : Rn w va (Int.natAbs (a))) (bx22 : Rn w vb (Int.natAbs (b))) :
    Calls Tryz.prog 108 #[(Value.agg #[.bool (decide ((a) < 0)), va]), (Value.agg #[.bool (decide ((b) < 0)), vb])] w fun e w' => (∃ r1 : Value, e = .returned (.agg #[.bool (decide ((z) < 0)), r1]) ∧ Rn w' r1 (Int.natAbs (z))) ∧ Below w.heap.size w w' := by
  cases h : (decide (a < 0) == decide (b < 0))
  · cases hc : decide (0 ≤ cmpI (a.natAbs : Int) (b.natAbs : Int))
    · exact zadd_bus a b z _ va vb w hz h (Lib.hid rfl) hc hs_a hs_b bx21 bx22
    · exact zadd_sub a b z _ va vb w hz h (Lib.hid rfl) hc hs_a hs_b bx21 bx22
  · exact zadd_same a b z va vb w hz h hs_a hs_b bx21 bx22
theorem zof_any (n z : Int) (w : World) (hz : n = z) (h1 : -9223372036854775808 ≤ n) (h2 : n ≤ 9223372036854775807) :
    Calls Tryz.prog 145 #[.int .i64 n] w fun e w' => (∃ v', e = .returned (.agg #[.bool (decide (z < 0)), v']) ∧ Rn w' v' z.natAbs) ∧ Below w.heap.size w w' := by
  subst hz
  obtain ⟨m, hm⟩ : ∃ m, n.natAbs = m := ⟨_, rfl⟩
  have hm2 : m < 18446744073709551616 := by omega
  by_cases h : n < 0
  · have hn : n = -((m : Nat) : Int) := by omega
    have HN : Hid ((if true then -((m : Nat) : Int) else ((m : Nat) : Int)) = n) := Lib.hid (by simp; omega)
    have e1 : IntKind.u64.wrap (IntKind.u64.wrap (IntKind.i64.wrap (-IntKind.i64.wrap (n + 1))) + 1) = ((m : Nat) : Int) := by
      rw [IntKind.wrap_i64, IntKind.wrap_i64, IntKind.wrap_u64, IntKind.wrap_u64]; omega
    have e2 : IntKind.u64.wrap (-(n + 1) + 1) = ((m : Nat) : Int) := by rw [IntKind.wrap_u64]; omega
    have e3 : -(n + 1) + 1 = ((m : Nat) : Int) := by omega
    obtain ⟨W0, HW⟩ : ∃ W0, Hid (w.alloc (.cells #[.bool false, .slice none 0 0] 60) = W0) := ⟨_, Lib.hid rfl⟩
    have HX : Hid (Bx W0 w.heap.size 60 #[.bool false, .slice none 0 0]) := Lib.hid (by rw [← HW.out]; exact Bx.new _ _ _)
    have HB0 : Hid (Below w.heap.size w W0) := Lib.hid (by rw [← HW.out]; exact (Below.refl _ _).alloc (Nat.le_refl _) _)
    clear hm hn
    go_enter Tryz.func145, Tryz.ntmps145
    go_wp2_with fail
    rw [HW.out]
    refine (rof_any m _ hm2).mono ?_
    rintro e w1 ⟨⟨v1, rfl, hv⟩, hb⟩
    have HV := Lib.hid hv
    have HB1 : Hid (Gr W0 w1) := Lib.hid hb
    clear hv hb
    go_wp2_with fail
    refine (zfrom_any true m n v1 w1 HN.out HV.out).mono ?_
    rintro e w2 ⟨⟨v2, rfl, hv⟩, hb⟩
    obtain ⟨ao, nn, cc, rfl⟩ := Rn.sl hv
    have HB2 : Hid (Gr W0 w2) := Lib.hid (Gr.trans HB1.out hb)
    have bx2 := HX.out.gr HB2.out
    have HV2 := Lib.hid hv
    have HNE := Lib.hid (Rn.ne hv bx2 (by decide))
    have lx := bx2.cells
    have fx := bx2.free
    have r0 := Gr.refl w2
    clear hv hb bx2 HV HX HW
    go_wp2
    exact bodyPost_ret (v := .agg #[.bool (decide (n < 0)), .slice ao nn cc]) (by simp [results, Tryz.results145, go_sem, lx _ r0, h]) rfl
      ⟨⟨_, rfl, (HV2.out.setOther HNE.out _).setOther HNE.out _⟩, ((Gr.trans HB0.out HB2.out).setCell (Nat.le_refl _) _).setCell (Nat.le_refl _) _⟩
  · have hn : n = ((m : Nat) : Int) := by omega
    have HN : Hid ((if false then -((m : Nat) : Int) else ((m : Nat) : Int)) = n) := Lib.hid (by simp; omega)
    have e1 : IntKind.u64.wrap n = ((m : Nat) : Int) := by rw [IntKind.wrap_u64]; omega
    obtain ⟨W0, HW⟩ : ∃ W0, Hid (w.alloc (.cells #[.bool false, .slice none 0 0] 60) = W0) := ⟨_, Lib.hid rfl⟩
    have HX : Hid (Bx W0 w.heap.size 60 #[.bool false, .slice none 0 0]) := Lib.hid (by rw [← HW.out]; exact Bx.new _ _ _)
    have HB0 : Hid (Below w.heap.size w W0) := Lib.hid (by rw [← HW.out]; exact (Below.refl _ _).alloc (Nat.le_refl _) _)
    clear hm hn
    go_enter Tryz.func145, Tryz.ntmps145
    go_wp2_with fail
    rw [HW.out]
    refine (rof_any m _ hm2).mono ?_
    rintro e w1 ⟨⟨v1, rfl, hv⟩, hb⟩
    have HV := Lib.hid hv
    have HB1 : Hid (Gr W0 w1) := Lib.hid hb
    clear hv hb
    go_wp2_with fail
    refine (zfrom_any false m n v1 w1 HN.out HV.out).mono ?_
    rintro e w2 ⟨⟨v2, rfl, hv⟩, hb⟩
    obtain ⟨ao, nn, cc, rfl⟩ := Rn.sl hv
    have HB2 : Hid (Gr W0 w2) := Lib.hid (Gr.trans HB1.out hb)
    have bx2 := HX.out.gr HB2.out
    have HV2 := Lib.hid hv
    have HNE := Lib.hid (Rn.ne hv bx2 (by decide))
    have lx := bx2.cells
    have fx := bx2.free
    have r0 := Gr.refl w2
    clear hv hb bx2 HV HX HW
    go_wp2
    exact bodyPost_ret (v := .agg #[.bool (decide (n < 0)), .slice ao nn cc]) (by simp [results, Tryz.results145, go_sem, lx _ r0, h]) rfl
      ⟨⟨_, rfl, (HV2.out.setOther HNE.out _).setOther HNE.out _⟩, ((Gr.trans HB0.out HB2.out).setCell (Nat.le_refl _) _).setCell (Nat.le_refl _) _⟩

end Go.Proofs.YtpcfncbcpknobaaGreatDoor


/- gussetref03: one, Den, den, From, Int, Sign, Neg, Add, Mul, Sub. -/
namespace Go.Proofs.YtpcfncbcpknobaaGreatDoor
open Go.RowKit
set_option linter.unusedSimpArgs false
set_option linter.unusedVariables false
attribute [local go_sem ↓] Go.wp_at_zero Go.wp_at_succ
end Go.Proofs.YtpcfncbcpknobaaGreatDoor


/- gussetref03: Div, Cmp, Of. -/
namespace Go.Proofs.YtpcfncbcpknobaaGreatDoor
open Go.RowKit
set_option linter.unusedSimpArgs false
set_option linter.unusedVariables false
attribute [local go_sem ↓] Go.wp_at_zero Go.wp_at_succ
end Go.Proofs.YtpcfncbcpknobaaGreatDoor
