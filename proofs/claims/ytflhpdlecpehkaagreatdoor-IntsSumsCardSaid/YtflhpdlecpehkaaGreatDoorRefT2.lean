
/- gussetref02: Neg, Sign, Mul. -/
import Derived.Test.YtflhpdlecpehkaaGreatDoorSh
import Derived.Test.YtflhpdlecpehkaaGreatDoorPI
namespace Go.Proofs.YtflhpdlecpehkaaGreatDoor
open Go.RowKit
set_option linter.unusedSimpArgs false
set_option linter.unusedVariables false
attribute [local go_sem ↓] Go.wp_at_zero Go.wp_at_succ
set_option maxRecDepth 20000 in
set_option maxHeartbeats 2000000 in
theorem zneg_any (a z : Int) (va : Value) (w : World) (hz : -a = z) (bx21 : Rn w va (Int.natAbs (a))) :
    Calls Tryz.prog 25 #[(Value.agg #[.bool (decide ((a) < 0)), va])] w fun e w' => (∃ r1 : Value, e = .returned (.agg #[.bool (decide ((z) < 0)), r1]) ∧ Rn w' r1 (Int.natAbs (z))) ∧ Below w.heap.size w w' := by
  replace hz := Lib.hid hz
  obtain ⟨ao_va, n_va, c_va, rfl⟩ := Rn.sl bx21
  go_enter Tryz.func25, Tryz.ntmps25
  refine sK fun K hK => ?_
  refine wp_region_lit ?_
  go_wp2
  refine hK.out _ _ ?_; clear hK K
  show Code.wp _ _ _ _ _
  refine forgetW (fun w2 => Rn w2 (.slice ao_va n_va c_va) (Int.natAbs (a)) ∧ Bx w2 (w.heap.size) 38 #[.bool (decide ((a) < 0)), (.slice ao_va n_va c_va)] ∧ Bx w2 (w.heap.size + 1) 38 #[.bool false, .slice none 0 0] ∧ Below w.heap.size w w2) ⟨((bx21).alloc _).alloc _, (Bx.at rfl).alloc _, Bx.at (by simp), ((Below.refl _ _).alloc (Nat.le_refl _) _).alloc (by simp) _⟩ ?_
  clear bx21
  rintro Wx ⟨bx21, bx22, bx23, HB⟩
  replace HB := Lib.hid HB
  have HZ1 : Hid ((if !decide ((a) < 0) then -((Int.natAbs (a) : Nat) : Int) else ((Int.natAbs (a) : Nat) : Int)) = z) := Lib.hid (by rw [← hz.out]; by_cases h : a < 0 <;> simp [h] <;> omega)
  have lx22 := bx22.cells
  have BX21 := Lib.hid bx21
  have BX22 := Lib.hid bx22
  have BX23 := Lib.hid bx23
  clear bx21 bx22 bx23
  refine sK fun K hK => ?_
  have HS0 := Lib.hid (HB.out.size)
  have MX22 : w.heap.size < Wx.heap.size := BX22.out.lt
  have MX23 : w.heap.size + 1 < Wx.heap.size := BX23.out.lt
  refine wp_region_seqplan 6 [(true, 0), (true, 1), (true, 2), (true, 3), (true, 4), (false, 5)] (by rfl) (by simp) (fun T hT => ?_)
  iterate 5 (refine wpPlan_takeL (v := ?_) rfl (by rfl) (fun w' hw => ?_) ?_; rotate_left; go_simp; with_reducible rfl; simp only [Act.put, rA, rB, rC])
  refine wpPlan_callE rfl (by rfl) Tryz.call42 (by rfl) (fun w' hw => (zfrom_any (!decide ((a) < 0)) (Int.natAbs (a)) (z) _ _ HZ1.out (BX21.out.gr hw)).mono ?_)
  rintro e vv1 ⟨⟨rv1, rfl, bx24⟩, hg0⟩
  obtain ⟨ao1, nn1, cc1, rfl⟩ := Rn.sl bx24
  refine ⟨_, rfl, hg0, ?_⟩
  replace hg0 := Gr.trans hw hg0; clear hw
  have HG0 := Lib.hid hg0; clear hg0
  replace BX21 := rG BX21 HG0
  replace BX22 := bG BX22 HG0
  replace BX23 := bG BX23 HG0
  replace HB := Lib.hid (HB.out.trans (HG0.out.mono HB.out.size))
  have BX24 := Lib.hid bx24; clear bx24
  clear HG0
  clear lx22; have lx22 := BX22.out.cells
  simp only [Act.put, rA, rB, rC]
  refine wpPlan_nil (hT.out _ _ ?_); clear hT T
  intro vw1 hg
  simp only [puts, Act.put, rA, rB, rC, rD, rE, ↓reduceIte, Nat.reduceEqDiff]
  clear lx22
  have HG := Lib.hid (hg)
  clear hg
  replace BX21 := rG BX21 HG
  replace BX22 := bG BX22 HG
  replace BX23 := bG BX23 HG
  replace BX24 := rG BX24 HG
  have lx23 := BX23.out.cells; have fx23 := BX23.out.free
  have r0 := Gr.refl vw1
  go_wp2
  refine hK.out _ _ ?_; clear hK K
  show Code.wp _ _ _ _ _
  clear lx23 fx23
  clear r0
  refine forgetW (fun w2 => Bx w2 (w.heap.size + 1) 38 #[.bool (decide ((z) < 0)), (.slice ao1 nn1 cc1)] ∧ Rn w2 (.slice ao1 nn1 cc1) (Int.natAbs (z)) ∧ Below w.heap.size w w2) ⟨(((BX23.out).set 0 _).set 1 _).eq (by simp only [rA, rB, rC]), ro2 (BX24.out) (Rn.ne BX24.out BX23.out (by decide)), sc2 (HB.out.trans (HG.out.mono HB.out.size)) (by show w.heap.size ≤ w.heap.size + 1; omega)⟩ ?_
  clear HB HG BX21 BX22 BX23 BX24
  rintro Wx1 ⟨bx23, bx24, HB⟩
  replace HB := Lib.hid HB
  refine wp_ret ?_
  try simp only [Exit.then, Exit.inBlock]
  have lx23 := bx23.cells
  have r0 := Gr.refl Wx1
  exact bodyPost_ret (v := .agg #[.bool (decide ((z) < 0)), (.slice ao1 nn1 cc1)]) (by simp [results, Tryz.results25, go_sem, lx23 _ r0]) rfl ⟨⟨(.slice ao1 nn1 cc1), rfl, bx24⟩, HB.out⟩

theorem sg_mul (a b : Int) : (if (decide (a < 0) != decide (b < 0)) then -((a.natAbs * b.natAbs : Nat) : Int) else ((a.natAbs * b.natAbs : Nat) : Int)) = a * b := by
  have h : ((a.natAbs * b.natAbs : Nat) : Int) = (a.natAbs : Int) * (b.natAbs : Int) := Int.natCast_mul _ _
  rw [h]
  by_cases h1 : a < 0 <;> by_cases h2 : b < 0
  · rw [Int.ofNat_natAbs_of_nonpos (by omega), Int.ofNat_natAbs_of_nonpos (by omega)]; simp [h1, h2, Int.neg_mul, Int.mul_neg]
  · rw [Int.ofNat_natAbs_of_nonpos (by omega), Int.natAbs_of_nonneg (by omega)]; simp [h1, h2, Int.neg_mul, Int.mul_neg]
  · rw [Int.natAbs_of_nonneg (by omega), Int.ofNat_natAbs_of_nonpos (by omega)]; simp [h1, h2, Int.neg_mul, Int.mul_neg]
  · rw [Int.natAbs_of_nonneg (by omega), Int.natAbs_of_nonneg (by omega)]; simp [h1, h2, Int.neg_mul, Int.mul_neg]
/-- the sign of an integer -/
def sgZ (a : Int) : Int := if a = 0 then 0 else if a < 0 then -1 else 1
theorem zsign_any (a s : Int) (va : Value) (w : World) (hs : sgZ a = s) (h : Rn w va a.natAbs) :
    Calls Tryz.prog 14 #[.agg #[.bool (decide (a < 0)), va]] w fun e w' => e = .returned (.int .i64 s) ∧ Below w.heap.size w w' := by
  obtain ⟨ao, c, rfl, hc, hc2⟩ := Dr.slice h
  obtain ⟨k, hk⟩ : ∃ k, tw a.natAbs = k := ⟨_, rfl⟩
  rw [hk] at hc ⊢
  have HS := Lib.hid hs
  clear h hs
  by_cases h0 : a = 0
  · subst h0
    have hk0 : k = 0 := by rw [← hk]; exact tw_zero
    subst hk0
    obtain rfl : s = 0 := by rw [← HS.out]; rfl
    clear hk
    go_enter Tryz.func14, Tryz.ntmps14
    go_wp2
    go_ret
    exact ⟨rfl, (Below.refl _ _).alloc (Nat.le_refl _) _⟩
  · have hk0 : 0 < k := by rw [← hk]; exact tw_pos (by omega)
    have hkz : ¬ (k = 0) := by omega
    clear hk
    by_cases h1 : a < 0
    · obtain rfl : s = -1 := by rw [← HS.out]; unfold sgZ; rw [if_neg h0, if_pos h1]
      go_enter Tryz.func14, Tryz.ntmps14
      go_wp2
      go_ret
      exact ⟨rfl, (Below.refl _ _).alloc (Nat.le_refl _) _⟩
    · obtain rfl : s = 1 := by rw [← HS.out]; unfold sgZ; rw [if_neg h0, if_neg h1]
      go_enter Tryz.func14, Tryz.ntmps14
      go_wp2
      go_ret
      exact ⟨rfl, (Below.refl _ _).alloc (Nat.le_refl _) _⟩

set_option maxRecDepth 20000 in
set_option maxHeartbeats 2000000 in
theorem zmul_any (a b z : Int) (va vb : Value) (w : World) (hz : a * b = z) (hs_a : tw (Int.natAbs a) ≤ 400000000) (hs_b : tw (Int.natAbs b) ≤ 400000000) (bx21 : Rn w va (Int.natAbs (a))) (bx22 : Rn w vb (Int.natAbs (b))) :
    Calls Tryz.prog 23 #[(Value.agg #[.bool (decide ((a) < 0)), va]), (Value.agg #[.bool (decide ((b) < 0)), vb])] w fun e w' => (∃ r1 : Value, e = .returned (.agg #[.bool (decide ((z) < 0)), r1]) ∧ Rn w' r1 (Int.natAbs (z))) ∧ Below w.heap.size w w' := by
  replace hz := Lib.hid hz
  obtain ⟨ao_va, n_va, c_va, rfl⟩ := Rn.sl bx21
  obtain ⟨ao_vb, n_vb, c_vb, rfl⟩ := Rn.sl bx22
  go_enter Tryz.func23, Tryz.ntmps23
  refine sK fun K hK => ?_
  refine wp_region_lit ?_
  go_wp2
  refine hK.out _ _ ?_; clear hK K
  show Code.wp _ _ _ _ _
  refine forgetW (fun w2 => Rn w2 (.slice ao_va n_va c_va) (Int.natAbs (a)) ∧ Rn w2 (.slice ao_vb n_vb c_vb) (Int.natAbs (b)) ∧ Bx w2 (w.heap.size) 38 #[.bool (decide ((a) < 0)), (.slice ao_va n_va c_va)] ∧ Bx w2 (w.heap.size + 1) 38 #[.bool (decide ((b) < 0)), (.slice ao_vb n_vb c_vb)] ∧ Bx w2 (w.heap.size + 1 + 1) 38 #[.bool false, .slice none 0 0] ∧ Below w.heap.size w w2) ⟨(((bx21).alloc _).alloc _).alloc _, (((bx22).alloc _).alloc _).alloc _, ((Bx.at rfl).alloc _).alloc _, (Bx.at (by simp)).alloc _, Bx.at (by simp), (((Below.refl _ _).alloc (Nat.le_refl _) _).alloc (by simp) _).alloc (by simp; omega) _⟩ ?_
  clear bx21 bx22
  rintro Wx ⟨bx21, bx22, bx23, bx24, bx25, HB⟩
  replace HB := Lib.hid HB
  obtain ⟨u1, HZ1⟩ : ∃ z, Hid ((Int.natAbs (a)) * (Int.natAbs (b)) = z) := ⟨_, Lib.hid rfl⟩
  have su1 : tw u1 ≤ 800000000 := by rw [← HZ1.out]; have := tw_mul (Int.natAbs (a)) (Int.natAbs (b)); omega
  have HZ2 : Hid ((if decide (a < 0) != decide (b < 0) then -((u1 : Nat) : Int) else ((u1 : Nat) : Int)) = z) := Lib.hid (by rw [← hz.out, ← HZ1.out]; exact sg_mul a b)
  have lx23 := bx23.cells
  have lx24 := bx24.cells
  have BX21 := Lib.hid bx21
  have BX22 := Lib.hid bx22
  have BX23 := Lib.hid bx23
  have BX24 := Lib.hid bx24
  have BX25 := Lib.hid bx25
  clear bx21 bx22 bx23 bx24 bx25
  refine sK fun K hK => ?_
  have HS0 := Lib.hid (HB.out.size)
  have MX23 : w.heap.size < Wx.heap.size := BX23.out.lt
  have MX24 : w.heap.size + 1 < Wx.heap.size := BX24.out.lt
  have MX25 : w.heap.size + 1 + 1 < Wx.heap.size := BX25.out.lt
  refine wp_region_plan 11 [] [] (fun _ => 0) (fun _ => .cells #[] 0) [(true, 0), (true, 1), (true, 2), (true, 3), (true, 4), (true, 5), (true, 6), (true, 7), (true, 8), (false, 9), (false, 10)] (by kernel_rfl) (by kernel_rfl) (fun i hi => by cases hi) (fun i hi => by cases hi) (fun _ _ _ _ _ h => h) (fun T hT => ?_)
  iterate 9 (refine wpPlan_takeL (v := ?_) rfl (by rfl) (fun w' hw => ?_) ?_; rotate_left; go_simp; with_reducible rfl; simp only [Act.put, rA, rB, rC])
  refine wpPlan_callE rfl (by rfl) Tryz.call55 (by rfl) (fun w' hw => (zrmul _ _ (Int.natAbs (a)) (Int.natAbs (b)) (u1) _ HZ1.out (BX21.out.gr hw) (BX22.out.gr hw) (by omega) (by omega)).mono ?_)
  rintro e vv1 ⟨⟨rv1, rfl, bx26⟩, hg0⟩
  obtain ⟨ao1, nn1, cc1, rfl⟩ := Rn.sl bx26
  refine ⟨_, rfl, hg0, ?_⟩
  replace hg0 := Gr.trans hw hg0; clear hw
  have HG0 := Lib.hid hg0; clear hg0
  replace BX21 := rG BX21 HG0
  replace BX22 := rG BX22 HG0
  replace BX23 := bG BX23 HG0
  replace BX24 := bG BX24 HG0
  replace BX25 := bG BX25 HG0
  replace HB := Lib.hid (HB.out.trans (HG0.out.mono HB.out.size))
  have BX26 := Lib.hid bx26; clear bx26
  clear HG0
  clear lx23; have lx23 := BX23.out.cells
  clear lx24; have lx24 := BX24.out.cells
  simp only [Act.put, rA, rB, rC]
  refine wpPlan_callE rfl (by rfl) Tryz.call42 (by rfl) (fun w' hw => (zfrom_any (decide (a < 0) != decide (b < 0)) (u1) (z) _ _ HZ2.out (BX26.out.gr hw)).mono ?_)
  rintro e vv2 ⟨⟨rv2, rfl, bx27⟩, hg0⟩
  obtain ⟨ao2, nn2, cc2, rfl⟩ := Rn.sl bx27
  refine ⟨_, rfl, hg0, ?_⟩
  replace hg0 := Gr.trans hw hg0; clear hw
  have HG0 := Lib.hid hg0; clear hg0
  replace BX21 := rG BX21 HG0
  replace BX22 := rG BX22 HG0
  replace BX23 := bG BX23 HG0
  replace BX24 := bG BX24 HG0
  replace BX25 := bG BX25 HG0
  replace BX26 := rG BX26 HG0
  replace HB := Lib.hid (HB.out.trans (HG0.out.mono HB.out.size))
  have BX27 := Lib.hid bx27; clear bx27
  clear HG0
  clear lx23; have lx23 := BX23.out.cells
  clear lx24; have lx24 := BX24.out.cells
  simp only [Act.put, rA, rB, rC]
  refine wpPlan_nil (hT.out _ _ ?_); clear hT T
  intro G vw1 hg hf
  simp only [puts, Act.put, rA, rB, rC, rD, rE, ↓reduceIte, Nat.reduceEqDiff]
  clear lx23 lx24
  have HG := Lib.hid (hg)
  clear hg
  replace BX21 := rG BX21 HG
  replace BX22 := rG BX22 HG
  replace BX23 := bG BX23 HG
  replace BX24 := bG BX24 HG
  replace BX25 := bG BX25 HG
  replace BX26 := rG BX26 HG
  replace BX27 := rG BX27 HG
  have lx25 := BX25.out.cells; have fx25 := BX25.out.free
  have r0 := Gr.refl vw1
  go_wp2
  refine hK.out _ _ ?_; clear hK K
  show Code.wp _ _ _ _ _
  clear lx25 fx25
  clear r0
  refine forgetW (fun w2 => Bx w2 (w.heap.size + 1 + 1) 38 #[.bool (decide ((z) < 0)), (.slice ao2 nn2 cc2)] ∧ Rn w2 (.slice ao2 nn2 cc2) (Int.natAbs (z)) ∧ Below w.heap.size w w2) ⟨(((BX25.out).set 0 _).set 1 _).eq (by simp only [rA, rB, rC]), ro2 (BX27.out) (Rn.ne BX27.out BX25.out (by decide)), sc2 (HB.out.trans (HG.out.mono HB.out.size)) (by show w.heap.size ≤ w.heap.size + 1 + 1; omega)⟩ ?_
  clear HB HG BX21 BX22 BX23 BX24 BX25 BX26 BX27
  rintro Wx1 ⟨bx25, bx27, HB⟩
  replace HB := Lib.hid HB
  refine wp_ret ?_
  try simp only [Exit.then, Exit.inBlock]
  have lx25 := bx25.cells
  have r0 := Gr.refl Wx1
  exact bodyPost_ret (v := .agg #[.bool (decide ((z) < 0)), (.slice ao2 nn2 cc2)]) (by simp [results, Tryz.results23, go_sem, lx25 _ r0]) rfl ⟨⟨(.slice ao2 nn2 cc2), rfl, bx27⟩, HB.out⟩

end Go.Proofs.YtflhpdlecpehkaaGreatDoor
