
/- gussetref02: Add, Of. -/
import Derived.Test.YtflhpdlecpehkaaGreatDoorSh
import Derived.Test.YtflhpdlecpehkaaGreatDoorRefT2
namespace Go.Proofs.YtflhpdlecpehkaaGreatDoor
open Go.RowKit
set_option linter.unusedSimpArgs false
set_option linter.unusedVariables false
attribute [local go_sem ↓] Go.wp_at_zero Go.wp_at_succ
theorem cmpI_ge {x y : Nat} (h : 0 ≤ cmpI (x : Int) (y : Int)) : y ≤ x := by
  unfold cmpI at h
  split at h
  · omega
  · omega
theorem cmpI_lt' {x y : Nat} (h : ¬ 0 ≤ cmpI (x : Int) (y : Int)) : x ≤ y := by
  unfold cmpI at h
  split at h
  · omega
  · split at h <;> omega
theorem sg_add {a b : Int} (h : (decide (a < 0) == decide (b < 0)) = true) : (if decide (a < 0) then -((a.natAbs + b.natAbs : Nat) : Int) else ((a.natAbs + b.natAbs : Nat) : Int)) = a + b := by
  have e := beq_iff_eq.1 h
  have e2 := decide_eq_decide.1 e
  by_cases h1 : a < 0
  · have := e2.1 h1; simp only [h1, decide_true, if_true]; omega
  · have : ¬ b < 0 := fun h => h1 (e2.2 h)
    simp only [h1, decide_false, Bool.false_eq_true, if_false]; omega
theorem sg_sub {a b : Int} (h : (decide (a < 0) == decide (b < 0)) = false) (hl : b.natAbs ≤ a.natAbs) : (if decide (a < 0) then -((a.natAbs - b.natAbs : Nat) : Int) else ((a.natAbs - b.natAbs : Nat) : Int)) = a + b := by
  by_cases h1 : a < 0
  · have h2 : ¬ b < 0 := fun h2 => by simp [h1, h2] at h
    simp only [h1, decide_true, if_true]; omega
  · have h2 : b < 0 := by
      rcases Int.lt_or_le b 0 with h2 | h2
      · exact h2
      · simp [h1, show ¬ b < 0 by omega] at h
    simp only [h1, decide_false, Bool.false_eq_true, if_false]; omega
theorem sg_bus {a b : Int} (h : (decide (a < 0) == decide (b < 0)) = false) (hl : a.natAbs ≤ b.natAbs) : (if decide (b < 0) then -((b.natAbs - a.natAbs : Nat) : Int) else ((b.natAbs - a.natAbs : Nat) : Int)) = a + b := by
  have h' : (decide (b < 0) == decide (a < 0)) = false := by rw [← h]; exact Bool.beq_comm
  rw [sg_sub h' hl, Int.add_comm]

set_option maxRecDepth 20000 in
set_option maxHeartbeats 2000000 in
theorem zadd_same (a b z : Int) (va vb : Value) (w : World) (hz : a + b = z) (h : (decide (a < 0) == decide (b < 0)) = true) (hs_a : tw (Int.natAbs a) ≤ 400000000) (hs_b : tw (Int.natAbs b) ≤ 400000000) (bx21 : Rn w va (Int.natAbs (a))) (bx22 : Rn w vb (Int.natAbs (b))) :
    Calls Tryz.prog 19 #[(Value.agg #[.bool (decide ((a) < 0)), va]), (Value.agg #[.bool (decide ((b) < 0)), vb])] w fun e w' => (∃ r1 : Value, e = .returned (.agg #[.bool (decide ((z) < 0)), r1]) ∧ Rn w' r1 (Int.natAbs (z))) ∧ Below w.heap.size w w' := by
  replace hz := Lib.hid hz
  have HS := Lib.hid h
  obtain ⟨ao_va, n_va, c_va, rfl⟩ := Rn.sl bx21
  obtain ⟨ao_vb, n_vb, c_vb, rfl⟩ := Rn.sl bx22
  go_enter Tryz.func19, Tryz.ntmps19
  refine sK fun K hK => ?_
  refine wp_region_lit ?_
  go_wp2
  refine hK.out _ _ ?_; clear hK K
  show Code.wp _ _ _ _ _
  refine forgetW (fun w2 => Rn w2 (.slice ao_va n_va c_va) (Int.natAbs (a)) ∧ Rn w2 (.slice ao_vb n_vb c_vb) (Int.natAbs (b)) ∧ Bx w2 (w.heap.size) 38 #[.bool (decide ((a) < 0)), (.slice ao_va n_va c_va)] ∧ Bx w2 (w.heap.size + 1) 38 #[.bool (decide ((b) < 0)), (.slice ao_vb n_vb c_vb)] ∧ Bx w2 (w.heap.size + 1 + 1) 38 #[.bool false, .slice none 0 0] ∧ Below w.heap.size w w2) ⟨(((bx21).alloc _).alloc _).alloc _, (((bx22).alloc _).alloc _).alloc _, ((Bx.at rfl).alloc _).alloc _, (Bx.at (by simp)).alloc _, Bx.at (by simp), (((Below.refl _ _).alloc (Nat.le_refl _) _).alloc (by simp) _).alloc (by simp; omega) _⟩ ?_
  clear bx21 bx22
  rintro Wx ⟨bx21, bx22, bx23, bx24, bx25, HB⟩
  replace HB := Lib.hid HB
  refine wp_seq ?_
  have lx23 := bx23.cells
  have lx24 := bx24.cells
  have BX21 := Lib.hid bx21
  have BX22 := Lib.hid bx22
  have BX23 := Lib.hid bx23
  have BX24 := Lib.hid bx24
  have BX25 := Lib.hid bx25
  clear bx21 bx22 bx23 bx24 bx25
  refine sK fun K hK => ?_
  refine wp_region_seqplan 5 [(true, 0), (true, 1), (true, 2), (true, 3), (true, 4)] (by rfl) (by simp) (fun T hT => ?_)
  iterate 5 (refine wpPlan_takeL (v := ?_) rfl (by rfl) (fun w' hw => ?_) ?_; rotate_left; go_simp; with_reducible rfl; simp only [Act.put, rA, rB, rC])
  refine wpPlan_nil (hT.out _ _ ?_); clear hT T
  intro vw1 hg
  simp only [puts, Act.put, rA, rB, rC, rD, rE, ↓reduceIte, Nat.reduceEqDiff]
  clear lx23 lx24
  have HG := Lib.hid (hg)
  clear hg
  replace BX21 := rG BX21 HG
  replace BX22 := rG BX22 HG
  replace BX23 := bG BX23 HG
  replace BX24 := bG BX24 HG
  replace BX25 := bG BX25 HG
  have r0 := Gr.refl vw1
  go_wp2
  refine hK.out _ _ ?_; clear hK K
  show Code.wp _ _ _ _ _
  clear r0
  refine forgetW (fun w2 => Rn w2 (.slice ao_va n_va c_va) (Int.natAbs (a)) ∧ Rn w2 (.slice ao_vb n_vb c_vb) (Int.natAbs (b)) ∧ Bx w2 (w.heap.size) 38 #[.bool (decide ((a) < 0)), (.slice ao_va n_va c_va)] ∧ Bx w2 (w.heap.size + 1) 38 #[.bool (decide ((b) < 0)), (.slice ao_vb n_vb c_vb)] ∧ Bx w2 (w.heap.size + 1 + 1) 38 #[.bool false, .slice none 0 0] ∧ Below w.heap.size w w2) ⟨BX21.out, BX22.out, BX23.out, BX24.out, BX25.out, HB.out.trans (HG.out.mono HB.out.size)⟩ ?_
  clear HB HG BX21 BX22 BX23 BX24 BX25
  rintro Wx1 ⟨bx21, bx22, bx23, bx24, bx25, HB⟩
  replace HB := Lib.hid HB
  refine wp_cond_true (by rfl) ?_
  obtain ⟨u1, HZ1⟩ : ∃ z, Hid ((Int.natAbs (a)) + (Int.natAbs (b)) = z) := ⟨_, Lib.hid rfl⟩
  have su1 : tw u1 ≤ 400000001 := by rw [← HZ1.out]; have := tw_add (Int.natAbs (a)) (Int.natAbs (b)); omega
  have HZ2 : Hid ((if decide ((a) < 0) then -((u1 : Nat) : Int) else ((u1 : Nat) : Int)) = z) := Lib.hid (by rw [← hz.out, ← HZ1.out]; exact sg_add HS.out)
  have lx23 := bx23.cells
  have lx24 := bx24.cells
  have BX21 := Lib.hid bx21
  have BX22 := Lib.hid bx22
  have BX23 := Lib.hid bx23
  have BX24 := Lib.hid bx24
  have BX25 := Lib.hid bx25
  clear bx21 bx22 bx23 bx24 bx25
  refine sK fun K hK => ?_
  have HS0 := Lib.hid (HB.out.size)
  have MX23 : w.heap.size < Wx1.heap.size := BX23.out.lt
  have MX24 : w.heap.size + 1 < Wx1.heap.size := BX24.out.lt
  have MX25 : w.heap.size + 1 + 1 < Wx1.heap.size := BX25.out.lt
  refine wp_region_plan 8 [] [] (fun _ => 0) (fun _ => .cells #[] 0) [(true, 0), (true, 1), (true, 2), (true, 3), (true, 4), (true, 5), (false, 6), (false, 7)] (by kernel_rfl) (by kernel_rfl) (fun i hi => by cases hi) (fun i hi => by cases hi) (fun _ _ _ _ _ h => h) (fun T hT => ?_)
  iterate 6 (refine wpPlan_takeL (v := ?_) rfl (by rfl) (fun w' hw => ?_) ?_; rotate_left; go_simp; with_reducible rfl; simp only [Act.put, rA, rB, rC])
  refine wpPlan_callE rfl (by rfl) Tryz.call51 (by rfl) (fun w' hw => (zradd _ _ (Int.natAbs (a)) (Int.natAbs (b)) (u1) _ HZ1.out (BX21.out.gr hw) (BX22.out.gr hw) (by omega) (by omega)).mono ?_)
  rintro e vv1 ⟨⟨rv1, rfl, bx26⟩, hg0⟩
  obtain ⟨ao1, nn1, cc1, rfl⟩ := Rn.sl bx26
  refine ⟨_, rfl, hg0, ?_⟩
  replace hg0 := Gr.trans hw hg0; clear hw
  have HG0 := Lib.hid hg0; clear hg0
  replace BX21 := rG BX21 HG0
  replace BX22 := rG BX22 HG0
  replace BX23 := bG BX23 HG0
  replace BX24 := bG BX24 HG0
  replace BX25 := bG BX25 HG0
  replace HB := Lib.hid (HB.out.trans (HG0.out.mono HB.out.size))
  have BX26 := Lib.hid bx26; clear bx26
  clear HG0
  clear lx23; have lx23 := BX23.out.cells
  clear lx24; have lx24 := BX24.out.cells
  simp only [Act.put, rA, rB, rC]
  refine wpPlan_callE rfl (by rfl) Tryz.call42 (by rfl) (fun w' hw => (zfrom_any (decide ((a) < 0)) (u1) (z) _ _ HZ2.out (BX26.out.gr hw)).mono ?_)
  rintro e vv2 ⟨⟨rv2, rfl, bx27⟩, hg0⟩
  obtain ⟨ao2, nn2, cc2, rfl⟩ := Rn.sl bx27
  refine ⟨_, rfl, hg0, ?_⟩
  replace hg0 := Gr.trans hw hg0; clear hw
  have HG0 := Lib.hid hg0; clear hg0
  replace BX21 := rG BX21 HG0
  replace BX22 := rG BX22 HG0
  replace BX23 := bG BX23 HG0
  replace BX24 := bG BX24 HG0
  replace BX25 := bG BX25 HG0
  replace BX26 := rG BX26 HG0
  replace HB := Lib.hid (HB.out.trans (HG0.out.mono HB.out.size))
  have BX27 := Lib.hid bx27; clear bx27
  clear HG0
  clear lx23; have lx23 := BX23.out.cells
  clear lx24; have lx24 := BX24.out.cells
  simp only [Act.put, rA, rB, rC]
  refine wpPlan_nil (hT.out _ _ ?_); clear hT T
  intro G vw2 hg hf
  simp only [puts, Act.put, rA, rB, rC, rD, rE, ↓reduceIte, Nat.reduceEqDiff]
  clear lx23 lx24
  have HG := Lib.hid (hg)
  clear hg
  replace BX21 := rG BX21 HG
  replace BX22 := rG BX22 HG
  replace BX23 := bG BX23 HG
  replace BX24 := bG BX24 HG
  replace BX25 := bG BX25 HG
  replace BX26 := rG BX26 HG
  replace BX27 := rG BX27 HG
  have lx25 := BX25.out.cells; have fx25 := BX25.out.free
  have r0 := Gr.refl vw2
  go_wp2
  refine hK.out _ _ ?_; clear hK K
  show Code.wp _ _ _ _ _
  clear lx25 fx25
  clear r0
  refine forgetW (fun w2 => Rn w2 (.slice ao_va n_va c_va) (Int.natAbs (a)) ∧ Rn w2 (.slice ao_vb n_vb c_vb) (Int.natAbs (b)) ∧ Bx w2 (w.heap.size) 38 #[.bool (decide ((a) < 0)), (.slice ao_va n_va c_va)] ∧ Bx w2 (w.heap.size + 1) 38 #[.bool (decide ((b) < 0)), (.slice ao_vb n_vb c_vb)] ∧ Bx w2 (w.heap.size + 1 + 1) 38 #[.bool (decide ((z) < 0)), (.slice ao2 nn2 cc2)] ∧ Rn w2 (.slice ao2 nn2 cc2) (Int.natAbs (z)) ∧ Below w.heap.size w w2) ⟨ro2 (BX21.out) (Rn.ne BX21.out BX25.out (by decide)), ro2 (BX22.out) (Rn.ne BX22.out BX25.out (by decide)), so2 (BX23.out) (by show w.heap.size ≠ w.heap.size + 1 + 1; omega), so2 (BX24.out) (by show w.heap.size + 1 ≠ w.heap.size + 1 + 1; omega), (((BX25.out).set 0 _).set 1 _).eq (by simp only [rA, rB, rC]), ro2 (BX27.out) (Rn.ne BX27.out BX25.out (by decide)), sc2 (HB.out.trans (HG.out.mono HB.out.size)) (by show w.heap.size ≤ w.heap.size + 1 + 1; omega)⟩ ?_
  clear HB HG BX21 BX22 BX23 BX24 BX25 BX26 BX27
  rintro Wx2 ⟨bx21, bx22, bx23, bx24, bx25, bx27, HB⟩
  replace HB := Lib.hid HB
  refine wp_ret ?_
  try simp only [Exit.then, Exit.inBlock]
  have lx25 := bx25.cells
  have r0 := Gr.refl Wx2
  exact bodyPost_ret (v := .agg #[.bool (decide ((z) < 0)), (.slice ao2 nn2 cc2)]) (by simp [results, Tryz.results19, go_sem, lx25 _ r0]) rfl ⟨⟨(.slice ao2 nn2 cc2), rfl, bx27⟩, HB.out⟩

set_option maxRecDepth 20000 in
set_option maxHeartbeats 2000000 in
theorem zadd_sub (a b z : Int) (c : Int) (va vb : Value) (w : World) (hz : a + b = z) (h : (decide (a < 0) == decide (b < 0)) = false) (hc : Hid (cmpI (a.natAbs : Int) (b.natAbs : Int) = c)) (hc0 : decide (0 ≤ c) = true) (hs_a : tw (Int.natAbs a) ≤ 400000000) (hs_b : tw (Int.natAbs b) ≤ 400000000) (bx21 : Rn w va (Int.natAbs (a))) (bx22 : Rn w vb (Int.natAbs (b))) :
    Calls Tryz.prog 19 #[(Value.agg #[.bool (decide ((a) < 0)), va]), (Value.agg #[.bool (decide ((b) < 0)), vb])] w fun e w' => (∃ r1 : Value, e = .returned (.agg #[.bool (decide ((z) < 0)), r1]) ∧ Rn w' r1 (Int.natAbs (z))) ∧ Below w.heap.size w w' := by
  replace hz := Lib.hid hz
  have HS := Lib.hid h
  have HLE : Hid (b.natAbs ≤ a.natAbs) := Lib.hid (cmpI_ge (by rw [hc.out]; exact of_decide_eq_true hc0))
  obtain ⟨ao_va, n_va, c_va, rfl⟩ := Rn.sl bx21
  obtain ⟨ao_vb, n_vb, c_vb, rfl⟩ := Rn.sl bx22
  go_enter Tryz.func19, Tryz.ntmps19
  refine sK fun K hK => ?_
  refine wp_region_lit ?_
  go_wp2
  refine hK.out _ _ ?_; clear hK K
  show Code.wp _ _ _ _ _
  refine forgetW (fun w2 => Rn w2 (.slice ao_va n_va c_va) (Int.natAbs (a)) ∧ Rn w2 (.slice ao_vb n_vb c_vb) (Int.natAbs (b)) ∧ Bx w2 (w.heap.size) 38 #[.bool (decide ((a) < 0)), (.slice ao_va n_va c_va)] ∧ Bx w2 (w.heap.size + 1) 38 #[.bool (decide ((b) < 0)), (.slice ao_vb n_vb c_vb)] ∧ Bx w2 (w.heap.size + 1 + 1) 38 #[.bool false, .slice none 0 0] ∧ Below w.heap.size w w2) ⟨(((bx21).alloc _).alloc _).alloc _, (((bx22).alloc _).alloc _).alloc _, ((Bx.at rfl).alloc _).alloc _, (Bx.at (by simp)).alloc _, Bx.at (by simp), (((Below.refl _ _).alloc (Nat.le_refl _) _).alloc (by simp) _).alloc (by simp; omega) _⟩ ?_
  clear bx21 bx22
  rintro Wx ⟨bx21, bx22, bx23, bx24, bx25, HB⟩
  replace HB := Lib.hid HB
  refine wp_seq ?_
  have lx23 := bx23.cells
  have lx24 := bx24.cells
  have BX21 := Lib.hid bx21
  have BX22 := Lib.hid bx22
  have BX23 := Lib.hid bx23
  have BX24 := Lib.hid bx24
  have BX25 := Lib.hid bx25
  clear bx21 bx22 bx23 bx24 bx25
  refine sK fun K hK => ?_
  refine wp_region_seqplan 5 [(true, 0), (true, 1), (true, 2), (true, 3), (true, 4)] (by rfl) (by simp) (fun T hT => ?_)
  iterate 5 (refine wpPlan_takeL (v := ?_) rfl (by rfl) (fun w' hw => ?_) ?_; rotate_left; go_simp; with_reducible rfl; simp only [Act.put, rA, rB, rC])
  refine wpPlan_nil (hT.out _ _ ?_); clear hT T
  intro vw1 hg
  simp only [puts, Act.put, rA, rB, rC, rD, rE, ↓reduceIte, Nat.reduceEqDiff]
  clear lx23 lx24
  have HG := Lib.hid (hg)
  clear hg
  replace BX21 := rG BX21 HG
  replace BX22 := rG BX22 HG
  replace BX23 := bG BX23 HG
  replace BX24 := bG BX24 HG
  replace BX25 := bG BX25 HG
  have r0 := Gr.refl vw1
  go_wp2
  refine hK.out _ _ ?_; clear hK K
  show Code.wp _ _ _ _ _
  clear r0
  refine forgetW (fun w2 => Rn w2 (.slice ao_va n_va c_va) (Int.natAbs (a)) ∧ Rn w2 (.slice ao_vb n_vb c_vb) (Int.natAbs (b)) ∧ Bx w2 (w.heap.size) 38 #[.bool (decide ((a) < 0)), (.slice ao_va n_va c_va)] ∧ Bx w2 (w.heap.size + 1) 38 #[.bool (decide ((b) < 0)), (.slice ao_vb n_vb c_vb)] ∧ Bx w2 (w.heap.size + 1 + 1) 38 #[.bool false, .slice none 0 0] ∧ Below w.heap.size w w2) ⟨BX21.out, BX22.out, BX23.out, BX24.out, BX25.out, HB.out.trans (HG.out.mono HB.out.size)⟩ ?_
  clear HB HG BX21 BX22 BX23 BX24 BX25
  rintro Wx1 ⟨bx21, bx22, bx23, bx24, bx25, HB⟩
  replace HB := Lib.hid HB
  refine wp_cond_false (by rfl) ?_
  refine wp_skip ?_
  show Code.wp _ _ _ _ _
  refine wp_seq ?_
  have lx23 := bx23.cells
  have lx24 := bx24.cells
  have BX21 := Lib.hid bx21
  have BX22 := Lib.hid bx22
  have BX23 := Lib.hid bx23
  have BX24 := Lib.hid bx24
  have BX25 := Lib.hid bx25
  clear bx21 bx22 bx23 bx24 bx25
  refine sK fun K hK => ?_
  refine wp_region_seqplan 6 [(true, 0), (true, 1), (true, 2), (true, 3), (true, 4), (true, 5)] (by rfl) (by simp) (fun T hT => ?_)
  iterate 4 (refine wpPlan_takeL (v := ?_) rfl (by rfl) (fun w' hw => ?_) ?_; rotate_left; go_simp; with_reducible rfl; simp only [Act.put, rA, rB, rC])
  refine wpPlan_callL rfl (by rfl) Tryz.call52 (fun w' hw => zrcmp _ _ (Int.natAbs (a)) (Int.natAbs (b)) (c) _ (hc.out) (BX21.out.gr hw) (BX22.out.gr hw) (by omega) (by omega)) (by rfl) ?_
  simp only [Act.put, rA, rB, rC]
  refine wpPlan_takeL (v := ?_) rfl (by rfl) (fun w' hw => ?_) ?_; rotate_left; go_simp; with_reducible rfl; simp only [Act.put, rA, rB, rC]
  refine wpPlan_nil (hT.out _ _ ?_); clear hT T
  intro vw2 hg
  simp only [puts, Act.put, rA, rB, rC, rD, rE, ↓reduceIte, Nat.reduceEqDiff]
  clear lx23 lx24
  have HG := Lib.hid (hg)
  clear hg
  replace BX21 := rG BX21 HG
  replace BX22 := rG BX22 HG
  replace BX23 := bG BX23 HG
  replace BX24 := bG BX24 HG
  replace BX25 := bG BX25 HG
  have r0 := Gr.refl vw2
  go_wp2
  refine hK.out _ _ ?_; clear hK K
  show Code.wp _ _ _ _ _
  clear r0
  refine forgetW (fun w2 => Rn w2 (.slice ao_va n_va c_va) (Int.natAbs (a)) ∧ Rn w2 (.slice ao_vb n_vb c_vb) (Int.natAbs (b)) ∧ Bx w2 (w.heap.size) 38 #[.bool (decide ((a) < 0)), (.slice ao_va n_va c_va)] ∧ Bx w2 (w.heap.size + 1) 38 #[.bool (decide ((b) < 0)), (.slice ao_vb n_vb c_vb)] ∧ Bx w2 (w.heap.size + 1 + 1) 38 #[.bool false, .slice none 0 0] ∧ Below w.heap.size w w2) ⟨BX21.out, BX22.out, BX23.out, BX24.out, BX25.out, HB.out.trans (HG.out.mono HB.out.size)⟩ ?_
  clear HB HG BX21 BX22 BX23 BX24 BX25
  rintro Wx3 ⟨bx21, bx22, bx23, bx24, bx25, HB⟩
  replace HB := Lib.hid HB
  refine wp_cond_true (by rfl) ?_
  obtain ⟨u1, HZ1⟩ : ∃ z, Hid ((Int.natAbs (a)) - (Int.natAbs (b)) = z) := ⟨_, Lib.hid rfl⟩
  have su1 : tw u1 ≤ 400000000 := by rw [← HZ1.out]; have := tw_sub (Int.natAbs (a)) (Int.natAbs (b)); omega
  have HZ2 : Hid ((if decide ((a) < 0) then -((u1 : Nat) : Int) else ((u1 : Nat) : Int)) = z) := Lib.hid (by rw [← hz.out, ← HZ1.out]; exact sg_sub HS.out HLE.out)
  have lx23 := bx23.cells
  have lx24 := bx24.cells
  have BX21 := Lib.hid bx21
  have BX22 := Lib.hid bx22
  have BX23 := Lib.hid bx23
  have BX24 := Lib.hid bx24
  have BX25 := Lib.hid bx25
  clear bx21 bx22 bx23 bx24 bx25
  refine sK fun K hK => ?_
  have HS0 := Lib.hid (HB.out.size)
  have MX23 : w.heap.size < Wx3.heap.size := BX23.out.lt
  have MX24 : w.heap.size + 1 < Wx3.heap.size := BX24.out.lt
  have MX25 : w.heap.size + 1 + 1 < Wx3.heap.size := BX25.out.lt
  refine wp_region_plan 8 [] [] (fun _ => 0) (fun _ => .cells #[] 0) [(true, 0), (true, 1), (true, 2), (true, 3), (true, 4), (true, 5), (false, 6), (false, 7)] (by kernel_rfl) (by kernel_rfl) (fun i hi => by cases hi) (fun i hi => by cases hi) (fun _ _ _ _ _ h => h) (fun T hT => ?_)
  iterate 6 (refine wpPlan_takeL (v := ?_) rfl (by rfl) (fun w' hw => ?_) ?_; rotate_left; go_simp; with_reducible rfl; simp only [Act.put, rA, rB, rC])
  refine wpPlan_callE rfl (by rfl) Tryz.call53 (by rfl) (fun w' hw => (zrsub _ _ (Int.natAbs (a)) (Int.natAbs (b)) (u1) _ HZ1.out (BX21.out.gr hw) (BX22.out.gr hw) HLE.out (by omega) (by omega)).mono ?_)
  rintro e vv1 ⟨⟨rv1, rfl, bx26⟩, hg0⟩
  obtain ⟨ao1, nn1, cc1, rfl⟩ := Rn.sl bx26
  refine ⟨_, rfl, hg0, ?_⟩
  replace hg0 := Gr.trans hw hg0; clear hw
  have HG0 := Lib.hid hg0; clear hg0
  replace BX21 := rG BX21 HG0
  replace BX22 := rG BX22 HG0
  replace BX23 := bG BX23 HG0
  replace BX24 := bG BX24 HG0
  replace BX25 := bG BX25 HG0
  replace HB := Lib.hid (HB.out.trans (HG0.out.mono HB.out.size))
  have BX26 := Lib.hid bx26; clear bx26
  clear HG0
  clear lx23; have lx23 := BX23.out.cells
  clear lx24; have lx24 := BX24.out.cells
  simp only [Act.put, rA, rB, rC]
  refine wpPlan_callE rfl (by rfl) Tryz.call42 (by rfl) (fun w' hw => (zfrom_any (decide ((a) < 0)) (u1) (z) _ _ HZ2.out (BX26.out.gr hw)).mono ?_)
  rintro e vv2 ⟨⟨rv2, rfl, bx27⟩, hg0⟩
  obtain ⟨ao2, nn2, cc2, rfl⟩ := Rn.sl bx27
  refine ⟨_, rfl, hg0, ?_⟩
  replace hg0 := Gr.trans hw hg0; clear hw
  have HG0 := Lib.hid hg0; clear hg0
  replace BX21 := rG BX21 HG0
  replace BX22 := rG BX22 HG0
  replace BX23 := bG BX23 HG0
  replace BX24 := bG BX24 HG0
  replace BX25 := bG BX25 HG0
  replace BX26 := rG BX26 HG0
  replace HB := Lib.hid (HB.out.trans (HG0.out.mono HB.out.size))
  have BX27 := Lib.hid bx27; clear bx27
  clear HG0
  clear lx23; have lx23 := BX23.out.cells
  clear lx24; have lx24 := BX24.out.cells
  simp only [Act.put, rA, rB, rC]
  refine wpPlan_nil (hT.out _ _ ?_); clear hT T
  intro G vw3 hg hf
  simp only [puts, Act.put, rA, rB, rC, rD, rE, ↓reduceIte, Nat.reduceEqDiff]
  clear lx23 lx24
  have HG := Lib.hid (hg)
  clear hg
  replace BX21 := rG BX21 HG
  replace BX22 := rG BX22 HG
  replace BX23 := bG BX23 HG
  replace BX24 := bG BX24 HG
  replace BX25 := bG BX25 HG
  replace BX26 := rG BX26 HG
  replace BX27 := rG BX27 HG
  have lx25 := BX25.out.cells; have fx25 := BX25.out.free
  have r0 := Gr.refl vw3
  go_wp2
  refine hK.out _ _ ?_; clear hK K
  show Code.wp _ _ _ _ _
  clear lx25 fx25
  clear r0
  refine forgetW (fun w2 => Rn w2 (.slice ao_va n_va c_va) (Int.natAbs (a)) ∧ Rn w2 (.slice ao_vb n_vb c_vb) (Int.natAbs (b)) ∧ Bx w2 (w.heap.size) 38 #[.bool (decide ((a) < 0)), (.slice ao_va n_va c_va)] ∧ Bx w2 (w.heap.size + 1) 38 #[.bool (decide ((b) < 0)), (.slice ao_vb n_vb c_vb)] ∧ Bx w2 (w.heap.size + 1 + 1) 38 #[.bool (decide ((z) < 0)), (.slice ao2 nn2 cc2)] ∧ Rn w2 (.slice ao2 nn2 cc2) (Int.natAbs (z)) ∧ Below w.heap.size w w2) ⟨ro2 (BX21.out) (Rn.ne BX21.out BX25.out (by decide)), ro2 (BX22.out) (Rn.ne BX22.out BX25.out (by decide)), so2 (BX23.out) (by show w.heap.size ≠ w.heap.size + 1 + 1; omega), so2 (BX24.out) (by show w.heap.size + 1 ≠ w.heap.size + 1 + 1; omega), (((BX25.out).set 0 _).set 1 _).eq (by simp only [rA, rB, rC]), ro2 (BX27.out) (Rn.ne BX27.out BX25.out (by decide)), sc2 (HB.out.trans (HG.out.mono HB.out.size)) (by show w.heap.size ≤ w.heap.size + 1 + 1; omega)⟩ ?_
  clear HB HG BX21 BX22 BX23 BX24 BX25 BX26 BX27
  rintro Wx4 ⟨bx21, bx22, bx23, bx24, bx25, bx27, HB⟩
  replace HB := Lib.hid HB
  refine wp_ret ?_
  try simp only [Exit.then, Exit.inBlock]
  have lx25 := bx25.cells
  have r0 := Gr.refl Wx4
  exact bodyPost_ret (v := .agg #[.bool (decide ((z) < 0)), (.slice ao2 nn2 cc2)]) (by simp [results, Tryz.results19, go_sem, lx25 _ r0]) rfl ⟨⟨(.slice ao2 nn2 cc2), rfl, bx27⟩, HB.out⟩

set_option maxRecDepth 20000 in
set_option maxHeartbeats 2000000 in
theorem zadd_bus (a b z : Int) (c : Int) (va vb : Value) (w : World) (hz : a + b = z) (h : (decide (a < 0) == decide (b < 0)) = false) (hc : Hid (cmpI (a.natAbs : Int) (b.natAbs : Int) = c)) (hc0 : decide (0 ≤ c) = false) (hs_a : tw (Int.natAbs a) ≤ 400000000) (hs_b : tw (Int.natAbs b) ≤ 400000000) (bx21 : Rn w va (Int.natAbs (a))) (bx22 : Rn w vb (Int.natAbs (b))) :
    Calls Tryz.prog 19 #[(Value.agg #[.bool (decide ((a) < 0)), va]), (Value.agg #[.bool (decide ((b) < 0)), vb])] w fun e w' => (∃ r1 : Value, e = .returned (.agg #[.bool (decide ((z) < 0)), r1]) ∧ Rn w' r1 (Int.natAbs (z))) ∧ Below w.heap.size w w' := by
  replace hz := Lib.hid hz
  have HS := Lib.hid h
  have HLE : Hid (a.natAbs ≤ b.natAbs) := Lib.hid (cmpI_lt' (by rw [hc.out]; exact of_decide_eq_false hc0))
  obtain ⟨ao_va, n_va, c_va, rfl⟩ := Rn.sl bx21
  obtain ⟨ao_vb, n_vb, c_vb, rfl⟩ := Rn.sl bx22
  go_enter Tryz.func19, Tryz.ntmps19
  refine sK fun K hK => ?_
  refine wp_region_lit ?_
  go_wp2
  refine hK.out _ _ ?_; clear hK K
  show Code.wp _ _ _ _ _
  refine forgetW (fun w2 => Rn w2 (.slice ao_va n_va c_va) (Int.natAbs (a)) ∧ Rn w2 (.slice ao_vb n_vb c_vb) (Int.natAbs (b)) ∧ Bx w2 (w.heap.size) 38 #[.bool (decide ((a) < 0)), (.slice ao_va n_va c_va)] ∧ Bx w2 (w.heap.size + 1) 38 #[.bool (decide ((b) < 0)), (.slice ao_vb n_vb c_vb)] ∧ Bx w2 (w.heap.size + 1 + 1) 38 #[.bool false, .slice none 0 0] ∧ Below w.heap.size w w2) ⟨(((bx21).alloc _).alloc _).alloc _, (((bx22).alloc _).alloc _).alloc _, ((Bx.at rfl).alloc _).alloc _, (Bx.at (by simp)).alloc _, Bx.at (by simp), (((Below.refl _ _).alloc (Nat.le_refl _) _).alloc (by simp) _).alloc (by simp; omega) _⟩ ?_
  clear bx21 bx22
  rintro Wx ⟨bx21, bx22, bx23, bx24, bx25, HB⟩
  replace HB := Lib.hid HB
  refine wp_seq ?_
  have lx23 := bx23.cells
  have lx24 := bx24.cells
  have BX21 := Lib.hid bx21
  have BX22 := Lib.hid bx22
  have BX23 := Lib.hid bx23
  have BX24 := Lib.hid bx24
  have BX25 := Lib.hid bx25
  clear bx21 bx22 bx23 bx24 bx25
  refine sK fun K hK => ?_
  refine wp_region_seqplan 5 [(true, 0), (true, 1), (true, 2), (true, 3), (true, 4)] (by rfl) (by simp) (fun T hT => ?_)
  iterate 5 (refine wpPlan_takeL (v := ?_) rfl (by rfl) (fun w' hw => ?_) ?_; rotate_left; go_simp; with_reducible rfl; simp only [Act.put, rA, rB, rC])
  refine wpPlan_nil (hT.out _ _ ?_); clear hT T
  intro vw1 hg
  simp only [puts, Act.put, rA, rB, rC, rD, rE, ↓reduceIte, Nat.reduceEqDiff]
  clear lx23 lx24
  have HG := Lib.hid (hg)
  clear hg
  replace BX21 := rG BX21 HG
  replace BX22 := rG BX22 HG
  replace BX23 := bG BX23 HG
  replace BX24 := bG BX24 HG
  replace BX25 := bG BX25 HG
  have r0 := Gr.refl vw1
  go_wp2
  refine hK.out _ _ ?_; clear hK K
  show Code.wp _ _ _ _ _
  clear r0
  refine forgetW (fun w2 => Rn w2 (.slice ao_va n_va c_va) (Int.natAbs (a)) ∧ Rn w2 (.slice ao_vb n_vb c_vb) (Int.natAbs (b)) ∧ Bx w2 (w.heap.size) 38 #[.bool (decide ((a) < 0)), (.slice ao_va n_va c_va)] ∧ Bx w2 (w.heap.size + 1) 38 #[.bool (decide ((b) < 0)), (.slice ao_vb n_vb c_vb)] ∧ Bx w2 (w.heap.size + 1 + 1) 38 #[.bool false, .slice none 0 0] ∧ Below w.heap.size w w2) ⟨BX21.out, BX22.out, BX23.out, BX24.out, BX25.out, HB.out.trans (HG.out.mono HB.out.size)⟩ ?_
  clear HB HG BX21 BX22 BX23 BX24 BX25
  rintro Wx1 ⟨bx21, bx22, bx23, bx24, bx25, HB⟩
  replace HB := Lib.hid HB
  refine wp_cond_false (by rfl) ?_
  refine wp_skip ?_
  show Code.wp _ _ _ _ _
  refine wp_seq ?_
  have lx23 := bx23.cells
  have lx24 := bx24.cells
  have BX21 := Lib.hid bx21
  have BX22 := Lib.hid bx22
  have BX23 := Lib.hid bx23
  have BX24 := Lib.hid bx24
  have BX25 := Lib.hid bx25
  clear bx21 bx22 bx23 bx24 bx25
  refine sK fun K hK => ?_
  refine wp_region_seqplan 6 [(true, 0), (true, 1), (true, 2), (true, 3), (true, 4), (true, 5)] (by rfl) (by simp) (fun T hT => ?_)
  iterate 4 (refine wpPlan_takeL (v := ?_) rfl (by rfl) (fun w' hw => ?_) ?_; rotate_left; go_simp; with_reducible rfl; simp only [Act.put, rA, rB, rC])
  refine wpPlan_callL rfl (by rfl) Tryz.call52 (fun w' hw => zrcmp _ _ (Int.natAbs (a)) (Int.natAbs (b)) (c) _ (hc.out) (BX21.out.gr hw) (BX22.out.gr hw) (by omega) (by omega)) (by rfl) ?_
  simp only [Act.put, rA, rB, rC]
  refine wpPlan_takeL (v := ?_) rfl (by rfl) (fun w' hw => ?_) ?_; rotate_left; go_simp; with_reducible rfl; simp only [Act.put, rA, rB, rC]
  refine wpPlan_nil (hT.out _ _ ?_); clear hT T
  intro vw2 hg
  simp only [puts, Act.put, rA, rB, rC, rD, rE, ↓reduceIte, Nat.reduceEqDiff]
  clear lx23 lx24
  have HG := Lib.hid (hg)
  clear hg
  replace BX21 := rG BX21 HG
  replace BX22 := rG BX22 HG
  replace BX23 := bG BX23 HG
  replace BX24 := bG BX24 HG
  replace BX25 := bG BX25 HG
  have r0 := Gr.refl vw2
  go_wp2
  refine hK.out _ _ ?_; clear hK K
  show Code.wp _ _ _ _ _
  clear r0
  refine forgetW (fun w2 => Rn w2 (.slice ao_va n_va c_va) (Int.natAbs (a)) ∧ Rn w2 (.slice ao_vb n_vb c_vb) (Int.natAbs (b)) ∧ Bx w2 (w.heap.size) 38 #[.bool (decide ((a) < 0)), (.slice ao_va n_va c_va)] ∧ Bx w2 (w.heap.size + 1) 38 #[.bool (decide ((b) < 0)), (.slice ao_vb n_vb c_vb)] ∧ Bx w2 (w.heap.size + 1 + 1) 38 #[.bool false, .slice none 0 0] ∧ Below w.heap.size w w2) ⟨BX21.out, BX22.out, BX23.out, BX24.out, BX25.out, HB.out.trans (HG.out.mono HB.out.size)⟩ ?_
  clear HB HG BX21 BX22 BX23 BX24 BX25
  rintro Wx3 ⟨bx21, bx22, bx23, bx24, bx25, HB⟩
  replace HB := Lib.hid HB
  refine wp_cond_false (by rfl) ?_
  refine wp_skip ?_
  show Code.wp _ _ _ _ _
  obtain ⟨u1, HZ1⟩ : ∃ z, Hid ((Int.natAbs (b)) - (Int.natAbs (a)) = z) := ⟨_, Lib.hid rfl⟩
  have su1 : tw u1 ≤ 400000000 := by rw [← HZ1.out]; have := tw_sub (Int.natAbs (b)) (Int.natAbs (a)); omega
  have HZ2 : Hid ((if decide ((b) < 0) then -((u1 : Nat) : Int) else ((u1 : Nat) : Int)) = z) := Lib.hid (by rw [← hz.out, ← HZ1.out]; exact sg_bus HS.out HLE.out)
  have lx23 := bx23.cells
  have lx24 := bx24.cells
  have BX21 := Lib.hid bx21
  have BX22 := Lib.hid bx22
  have BX23 := Lib.hid bx23
  have BX24 := Lib.hid bx24
  have BX25 := Lib.hid bx25
  clear bx21 bx22 bx23 bx24 bx25
  refine sK fun K hK => ?_
  have HS0 := Lib.hid (HB.out.size)
  have MX23 : w.heap.size < Wx3.heap.size := BX23.out.lt
  have MX24 : w.heap.size + 1 < Wx3.heap.size := BX24.out.lt
  have MX25 : w.heap.size + 1 + 1 < Wx3.heap.size := BX25.out.lt
  refine wp_region_plan 8 [] [] (fun _ => 0) (fun _ => .cells #[] 0) [(true, 0), (true, 1), (true, 2), (true, 3), (true, 4), (true, 5), (false, 6), (false, 7)] (by kernel_rfl) (by kernel_rfl) (fun i hi => by cases hi) (fun i hi => by cases hi) (fun _ _ _ _ _ h => h) (fun T hT => ?_)
  iterate 6 (refine wpPlan_takeL (v := ?_) rfl (by rfl) (fun w' hw => ?_) ?_; rotate_left; go_simp; with_reducible rfl; simp only [Act.put, rA, rB, rC])
  refine wpPlan_callE rfl (by rfl) Tryz.call53 (by rfl) (fun w' hw => (zrsub _ _ (Int.natAbs (b)) (Int.natAbs (a)) (u1) _ HZ1.out (BX22.out.gr hw) (BX21.out.gr hw) HLE.out (by omega) (by omega)).mono ?_)
  rintro e vv1 ⟨⟨rv1, rfl, bx26⟩, hg0⟩
  obtain ⟨ao1, nn1, cc1, rfl⟩ := Rn.sl bx26
  refine ⟨_, rfl, hg0, ?_⟩
  replace hg0 := Gr.trans hw hg0; clear hw
  have HG0 := Lib.hid hg0; clear hg0
  replace BX21 := rG BX21 HG0
  replace BX22 := rG BX22 HG0
  replace BX23 := bG BX23 HG0
  replace BX24 := bG BX24 HG0
  replace BX25 := bG BX25 HG0
  replace HB := Lib.hid (HB.out.trans (HG0.out.mono HB.out.size))
  have BX26 := Lib.hid bx26; clear bx26
  clear HG0
  clear lx23; have lx23 := BX23.out.cells
  clear lx24; have lx24 := BX24.out.cells
  simp only [Act.put, rA, rB, rC]
  refine wpPlan_callE rfl (by rfl) Tryz.call42 (by rfl) (fun w' hw => (zfrom_any (decide ((b) < 0)) (u1) (z) _ _ HZ2.out (BX26.out.gr hw)).mono ?_)
  rintro e vv2 ⟨⟨rv2, rfl, bx27⟩, hg0⟩
  obtain ⟨ao2, nn2, cc2, rfl⟩ := Rn.sl bx27
  refine ⟨_, rfl, hg0, ?_⟩
  replace hg0 := Gr.trans hw hg0; clear hw
  have HG0 := Lib.hid hg0; clear hg0
  replace BX21 := rG BX21 HG0
  replace BX22 := rG BX22 HG0
  replace BX23 := bG BX23 HG0
  replace BX24 := bG BX24 HG0
  replace BX25 := bG BX25 HG0
  replace BX26 := rG BX26 HG0
  replace HB := Lib.hid (HB.out.trans (HG0.out.mono HB.out.size))
  have BX27 := Lib.hid bx27; clear bx27
  clear HG0
  clear lx23; have lx23 := BX23.out.cells
  clear lx24; have lx24 := BX24.out.cells
  simp only [Act.put, rA, rB, rC]
  refine wpPlan_nil (hT.out _ _ ?_); clear hT T
  intro G vw3 hg hf
  simp only [puts, Act.put, rA, rB, rC, rD, rE, ↓reduceIte, Nat.reduceEqDiff]
  clear lx23 lx24
  have HG := Lib.hid (hg)
  clear hg
  replace BX21 := rG BX21 HG
  replace BX22 := rG BX22 HG
  replace BX23 := bG BX23 HG
  replace BX24 := bG BX24 HG
  replace BX25 := bG BX25 HG
  replace BX26 := rG BX26 HG
  replace BX27 := rG BX27 HG
  have lx25 := BX25.out.cells; have fx25 := BX25.out.free
  have r0 := Gr.refl vw3
  go_wp2
  refine hK.out _ _ ?_; clear hK K
  show Code.wp _ _ _ _ _
  clear lx25 fx25
  clear r0
  refine forgetW (fun w2 => Bx w2 (w.heap.size + 1 + 1) 38 #[.bool (decide ((z) < 0)), (.slice ao2 nn2 cc2)] ∧ Rn w2 (.slice ao2 nn2 cc2) (Int.natAbs (z)) ∧ Below w.heap.size w w2) ⟨(((BX25.out).set 0 _).set 1 _).eq (by simp only [rA, rB, rC]), ro2 (BX27.out) (Rn.ne BX27.out BX25.out (by decide)), sc2 (HB.out.trans (HG.out.mono HB.out.size)) (by show w.heap.size ≤ w.heap.size + 1 + 1; omega)⟩ ?_
  clear HB HG BX21 BX22 BX23 BX24 BX25 BX26 BX27
  rintro Wx5 ⟨bx25, bx27, HB⟩
  replace HB := Lib.hid HB
  refine wp_ret ?_
  try simp only [Exit.then, Exit.inBlock]
  have lx25 := bx25.cells
  have r0 := Gr.refl Wx5
  exact bodyPost_ret (v := .agg #[.bool (decide ((z) < 0)), (.slice ao2 nn2 cc2)]) (by simp [results, Tryz.results19, go_sem, lx25 _ r0]) rfl ⟨⟨(.slice ao2 nn2 cc2), rfl, bx27⟩, HB.out⟩

theorem zadd_any (a b z : Int) (va vb : Value) (w : World) (hz : a + b = z) (hs_a : tw (Int.natAbs a) ≤ 400000000) (hs_b : tw (Int.natAbs b) ≤ 400000000) (bx21 : Rn w va (Int.natAbs (a))) (bx22 : Rn w vb (Int.natAbs (b))) :
    Calls Tryz.prog 19 #[(Value.agg #[.bool (decide ((a) < 0)), va]), (Value.agg #[.bool (decide ((b) < 0)), vb])] w fun e w' => (∃ r1 : Value, e = .returned (.agg #[.bool (decide ((z) < 0)), r1]) ∧ Rn w' r1 (Int.natAbs (z))) ∧ Below w.heap.size w w' := by
  cases h : (decide (a < 0) == decide (b < 0))
  · cases hc : decide (0 ≤ cmpI (a.natAbs : Int) (b.natAbs : Int))
    · exact zadd_bus a b z _ va vb w hz h (Lib.hid rfl) hc hs_a hs_b bx21 bx22
    · exact zadd_sub a b z _ va vb w hz h (Lib.hid rfl) hc hs_a hs_b bx21 bx22
  · exact zadd_same a b z va vb w hz h hs_a hs_b bx21 bx22
theorem zof_any (n z : Int) (w : World) (hz : n = z) (h1 : -9223372036854775808 ≤ n) (h2 : n ≤ 9223372036854775807) :
    Calls Tryz.prog 45 #[.int .i64 n] w fun e w' => (∃ v', e = .returned (.agg #[.bool (decide (z < 0)), v']) ∧ Rn w' v' z.natAbs) ∧ Below w.heap.size w w' := by
  subst hz
  obtain ⟨m, hm⟩ : ∃ m, n.natAbs = m := ⟨_, rfl⟩
  have hm2 : m < 18446744073709551616 := by omega
  by_cases h : n < 0
  · have hn : n = -((m : Nat) : Int) := by omega
    have HN : Hid ((if true then -((m : Nat) : Int) else ((m : Nat) : Int)) = n) := Lib.hid (by simp; omega)
    have e1 : IntKind.u64.wrap (IntKind.u64.wrap (IntKind.i64.wrap (-IntKind.i64.wrap (n + 1))) + 1) = ((m : Nat) : Int) := by
      rw [IntKind.wrap_i64, IntKind.wrap_i64, IntKind.wrap_u64, IntKind.wrap_u64]; omega
    have e2 : IntKind.u64.wrap (-(n + 1) + 1) = ((m : Nat) : Int) := by rw [IntKind.wrap_u64]; omega
    have e3 : -(n + 1) + 1 = ((m : Nat) : Int) := by omega
    obtain ⟨W0, HW⟩ : ∃ W0, Hid (w.alloc (.cells #[.bool false, .slice none 0 0] 38) = W0) := ⟨_, Lib.hid rfl⟩
    have HX : Hid (Bx W0 w.heap.size 38 #[.bool false, .slice none 0 0]) := Lib.hid (by rw [← HW.out]; exact Bx.new _ _ _)
    have HB0 : Hid (Below w.heap.size w W0) := Lib.hid (by rw [← HW.out]; exact (Below.refl _ _).alloc (Nat.le_refl _) _)
    clear hm hn
    go_enter Tryz.func45, Tryz.ntmps45
    go_wp2_with fail
    rw [HW.out]
    refine (rof_any m _ hm2).mono ?_
    rintro e w1 ⟨⟨v1, rfl, hv⟩, hb⟩
    have HV := Lib.hid hv
    have HB1 : Hid (Gr W0 w1) := Lib.hid hb
    clear hv hb
    go_wp2_with fail
    refine (zfrom_any true m n v1 w1 HN.out HV.out).mono ?_
    rintro e w2 ⟨⟨v2, rfl, hv⟩, hb⟩
    obtain ⟨ao, nn, cc, rfl⟩ := Rn.sl hv
    have HB2 : Hid (Gr W0 w2) := Lib.hid (Gr.trans HB1.out hb)
    have bx2 := HX.out.gr HB2.out
    have HV2 := Lib.hid hv
    have HNE := Lib.hid (Rn.ne hv bx2 (by decide))
    have lx := bx2.cells
    have fx := bx2.free
    have r0 := Gr.refl w2
    clear hv hb bx2 HV HX HW
    go_wp2
    exact bodyPost_ret (v := .agg #[.bool (decide (n < 0)), .slice ao nn cc]) (by simp [results, Tryz.results45, go_sem, lx _ r0, h]) rfl
      ⟨⟨_, rfl, (HV2.out.setOther HNE.out _).setOther HNE.out _⟩, ((Gr.trans HB0.out HB2.out).setCell (Nat.le_refl _) _).setCell (Nat.le_refl _) _⟩
  · have hn : n = ((m : Nat) : Int) := by omega
    have HN : Hid ((if false then -((m : Nat) : Int) else ((m : Nat) : Int)) = n) := Lib.hid (by simp; omega)
    have e1 : IntKind.u64.wrap n = ((m : Nat) : Int) := by rw [IntKind.wrap_u64]; omega
    obtain ⟨W0, HW⟩ : ∃ W0, Hid (w.alloc (.cells #[.bool false, .slice none 0 0] 38) = W0) := ⟨_, Lib.hid rfl⟩
    have HX : Hid (Bx W0 w.heap.size 38 #[.bool false, .slice none 0 0]) := Lib.hid (by rw [← HW.out]; exact Bx.new _ _ _)
    have HB0 : Hid (Below w.heap.size w W0) := Lib.hid (by rw [← HW.out]; exact (Below.refl _ _).alloc (Nat.le_refl _) _)
    clear hm hn
    go_enter Tryz.func45, Tryz.ntmps45
    go_wp2_with fail
    rw [HW.out]
    refine (rof_any m _ hm2).mono ?_
    rintro e w1 ⟨⟨v1, rfl, hv⟩, hb⟩
    have HV := Lib.hid hv
    have HB1 : Hid (Gr W0 w1) := Lib.hid hb
    clear hv hb
    go_wp2_with fail
    refine (zfrom_any false m n v1 w1 HN.out HV.out).mono ?_
    rintro e w2 ⟨⟨v2, rfl, hv⟩, hb⟩
    obtain ⟨ao, nn, cc, rfl⟩ := Rn.sl hv
    have HB2 : Hid (Gr W0 w2) := Lib.hid (Gr.trans HB1.out hb)
    have bx2 := HX.out.gr HB2.out
    have HV2 := Lib.hid hv
    have HNE := Lib.hid (Rn.ne hv bx2 (by decide))
    have lx := bx2.cells
    have fx := bx2.free
    have r0 := Gr.refl w2
    clear hv hb bx2 HV HX HW
    go_wp2
    exact bodyPost_ret (v := .agg #[.bool (decide (n < 0)), .slice ao nn cc]) (by simp [results, Tryz.results45, go_sem, lx _ r0, h]) rfl
      ⟨⟨_, rfl, (HV2.out.setOther HNE.out _).setOther HNE.out _⟩, ((Gr.trans HB0.out HB2.out).setCell (Nat.le_refl _) _).setCell (Nat.le_refl _) _⟩

end Go.Proofs.YtflhpdlecpehkaaGreatDoor
