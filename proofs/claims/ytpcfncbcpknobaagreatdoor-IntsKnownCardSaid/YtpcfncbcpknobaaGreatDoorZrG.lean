
/- gussetref02.Gcd. -/
import Derived.Test.YtpcfncbcpknobaaGreatDoorZrA
import Derived.Test.YtpcfncbcpknobaaGreatDoorIntDivP
namespace Go.Proofs.YtpcfncbcpknobaaGreatDoor
open Go.RowKit
set_option linter.unusedSimpArgs false
set_option linter.unusedVariables false
attribute [local go_sem ↓] Go.wp_at_zero Go.wp_at_succ
/-- three blocks may have turned, the others not -/
def Kp3 (B0 B1 B2 : Nat) (W w' : World) : Prop := W.heap.size ≤ w'.heap.size ∧ ∀ b, b < W.heap.size → b ≠ B0 → b ≠ B1 → b ≠ B2 → w'.heap[b]? = W.heap[b]?
theorem Gr.block' {W w' : World} (h : Gr W w') (b : Nat) (hb : b < W.heap.size) : w'.heap[b]? = W.heap[b]? := Below.block h b hb
theorem Kp3.of {B0 B1 B2 : Nat} {W w' : World} (h : Gr W w') : Kp3 B0 B1 B2 W w' := ⟨h.size, fun b hb _ _ _ => h.block' b hb⟩
theorem Kp3.setAny {B0 B1 B2 : Nat} {W w' : World} (h : Kp3 B0 B1 B2 W w') (a : Addr) (ha : a.block = B0 ∨ a.block = B1 ∨ a.block = B2) (v : Value) : Kp3 B0 B1 B2 W (w'.setCell a v) :=
  ⟨by simpa using h.1, fun b hb h0 h1 h2 => (Below.heap_setCell w' a v b (by rintro rfl; rcases ha with e | e | e <;> simp_all)).trans (h.2 b hb h0 h1 h2)⟩
theorem Kp3.held (B0 B1 B2 : Nat) (W : World) : ∀ w' : World, Kp3 B0 B1 B2 W w' → ∀ b o, b < W.heap.size → b ≠ B0 → b ≠ B1 → b ≠ B2 → w'.cell? ⟨b, o, none⟩ = W.cell? ⟨b, o, none⟩ := fun w' h b o hb h0 h1 h2 => by
  unfold World.cell?; rw [h.2 b hb h0 h1 h2]

set_option maxRecDepth 20000 in
set_option maxHeartbeats 4000000 in
theorem zg_zero (a s : Int) (va vb : Value) (w : World) (g : Int) (HG_ : Hid (((a.natAbs : Nat) : Int) = g)) (HS_ : Hid (sgI a = s)) (hs1 : -1 ≤ s) (hs2 : s ≤ 1) (hs_a : tw (Int.natAbs a) ≤ 20000000) (bx21 : Rn w va (Int.natAbs (a))) (bx22 : Rn w vb (Int.natAbs (0))) :
    Calls Tryz.prog 118 #[(Value.agg #[.bool (decide ((a) < 0)), va]), (Value.agg #[.bool (decide ((0) < 0)), vb])] w fun e w' => (∃ r1 r2 r3 : Value, e = .returned (.tuple #[(.agg #[.bool (decide ((g) < 0)), r1]), (.agg #[.bool (decide ((s) < 0)), r2]), (.agg #[.bool (decide ((0) < 0)), r3])]) ∧ Rn w' r1 (Int.natAbs (g)) ∧ Rn w' r2 (Int.natAbs (s)) ∧ Rn w' r3 (Int.natAbs (0))) ∧ Below w.heap.size w w' := by
  obtain ⟨ao_va, n_va, c_va, rfl⟩ := Rn.sl bx21
  obtain ⟨ao_vb, n_vb, c_vb, rfl⟩ := Rn.sl bx22
  go_enter Tryz.func118, Tryz.ntmps118
  have HF := Lib.hid (hp0 w)
  replace HF := Lib.hid ((HF.out.ar bx21).ar bx22)
  simp only [lF, lG] at HF
  clear bx21 bx22
  refine kS fun K hK => ?_
  refine wp_region_lit ?_
  go_wp2
  refine hK.out _ _ ?_; clear hK K
  show Code.wp _ _ _ _ _
  refine fH ((((((HF.out).al (b := w.heap.size) (by first | rfl | simp) (by decide)).al (b := w.heap.size + 1) (by first | rfl | simp) (by decide)).al (b := w.heap.size + 1 + 1) (by first | rfl | simp) (by decide)).al (b := w.heap.size + 1 + 1 + 1) (by first | rfl | simp) (by decide)).al (b := w.heap.size + 1 + 1 + 1 + 1) (by first | rfl | simp) (by decide)) fun Wx0 HG => ?_
  clear HF; have HF := HG; clear HG
  generalize w.heap.size + 1 + 1 + 1 + 1 = gx27 at *
  generalize w.heap.size + 1 + 1 + 1 = gx26 at *
  generalize w.heap.size + 1 + 1 = gx25 at *
  generalize w.heap.size + 1 = gx24 at *
  refine wp_seq ?_
  have lx24 := HF.out.c 3 rfl
  refine kS fun K hK => ?_
  refine sq 3 [(true, 0), (true, 1), (true, 2)] fun T hT => ?_
  refine tk ?_
  refine ck Tryz.call115 (fun w' hw => zrsign (0) (0) _ _ (by have e9 : (0) = (0 : Int) := (ok); exact sgI_eq e9) (HF.out.r 1 rfl hw)) ?_
  refine tk ?_
  refine nlS hT HF fun vw1 HG => ?_
  clear hT T HF lx24
  go_wp2
  refine hK.out _ _ ?_; clear hK K
  show Code.wp _ _ _ _ _
  have HF := HG; clear HG
  refine wp_cond_true (by rfl) ?_
  have HZ1 : Hid ((if false then -((Int.natAbs (a) : Nat) : Int) else ((Int.natAbs (a) : Nat) : Int)) = g) := Lib.hid (by rw [← HG_.out]; rfl)
  have su1 : tw (Int.natAbs (g)) ≤ 20000000 := by have e := HZ1.out; first | omega | (rw [← e]; split <;> simp <;> omega)
  have HZ2 : Hid (s = s) := Lib.hid (rfl)
  have su2 : tw (Int.natAbs (s)) ≤ 5 := by exact tw_i64 (by omega) (by omega)
  have HZ3 : Hid ((0 : Int) = 0) := Lib.hid (by decide +kernel)
  have su3 : tw (Int.natAbs (0)) ≤ 1 := tw_le.2 (by decide +kernel)
  have lx23 := HF.out.c 2 rfl
  refine kS fun K hK => ?_
  have HG0 : Hid (Gr vw1 vw1) := Lib.hid (Gr.refl _)
  refine pd 7 [(true, 0), (true, 1), (true, 3), (false, 2), (true, 4), (false, 5), (false, 6)] fun T hT => ?_
  iterate 3 refine tk ?_
  refine wpPlan_callE rfl (by rfl) Tryz.call165 (by rfl) (fun w' hw => (zfrom_any false (Int.natAbs (a)) (g) _ _ HZ1.out (HF.out.r 0 rfl (HG0.out.trans hw))).mono ?_)
  rintro e vv29 ⟨⟨rv1, rfl, bx29⟩, hg0⟩
  obtain ⟨ao1, nn1, cc1, rfl⟩ := Rn.sl bx29
  refine ⟨_, rfl, hg0, ?_⟩
  replace hg0 := Gr.trans hw hg0; clear hw
  replace HG0 := Lib.hid (HG0.out.trans hg0)
  have HGS := Lib.hid hg0; clear hg0
  clear HGS
  have RN29 := Lib.hid bx29; clear bx29
  clear lx23; have lx23 := fun w' (h : Gr _ w') => HF.out.c 2 rfl w' (HG0.out.trans h)
  simp only [Act.put, lA, lB, lC]
  refine ck Tryz.call115 (fun w' hw => zrsign (a) (s) _ _ (HS_.out) (HF.out.r 0 rfl (HG0.out.trans hw))) ?_
  refine wpPlan_callE rfl (by rfl) Tryz.call145 (by rfl) (fun w' hw => (zof_any (s) (s) _ HZ2.out (by omega) (by omega)).mono ?_)
  rintro e vv30 ⟨⟨rv2, rfl, bx30⟩, hg0⟩
  obtain ⟨ao2, nn2, cc2, rfl⟩ := Rn.sl bx30
  refine ⟨_, rfl, hg0, ?_⟩
  replace hg0 := Gr.trans hw hg0; clear hw
  replace HG0 := Lib.hid (HG0.out.trans hg0)
  have HGS := Lib.hid hg0; clear hg0
  replace RN29 := Lib.hid (RN29.out.gr HGS.out)
  clear HGS
  have RN30 := Lib.hid bx30; clear bx30
  clear lx23; have lx23 := fun w' (h : Gr _ w') => HF.out.c 2 rfl w' (HG0.out.trans h)
  simp only [Act.put, lA, lB, lC]
  refine wpPlan_callE rfl (by rfl) Tryz.call145 (by rfl) (fun w' hw => (zof_any (0) (0) _ HZ3.out (by decide) (by decide)).mono ?_)
  rintro e vv31 ⟨⟨rv3, rfl, bx31⟩, hg0⟩
  obtain ⟨ao3, nn3, cc3, rfl⟩ := Rn.sl bx31
  refine ⟨_, rfl, hg0, ?_⟩
  replace hg0 := Gr.trans hw hg0; clear hw
  replace HG0 := Lib.hid (HG0.out.trans hg0)
  have HGS := Lib.hid hg0; clear hg0
  replace RN29 := Lib.hid (RN29.out.gr HGS.out)
  replace RN30 := Lib.hid (RN30.out.gr HGS.out)
  clear HGS
  have RN31 := Lib.hid bx31; clear bx31
  clear lx23; have lx23 := fun w' (h : Gr _ w') => HF.out.c 2 rfl w' (HG0.out.trans h)
  simp only [Act.put, lA, lB, lC]
  refine wpPlan_nil (hT.out _ _ ?_)
  intro G vw2 hg hf
  simp only [puts, Act.put, lA, lB, lC, lD, lE, ↓reduceIte, Nat.reduceEqDiff]
  have HG := Lib.hid ((((HF.out.gr (HG0.out.trans hg)).ar (RN29.out.gr hg)).ar (RN30.out.gr hg)).ar (RN31.out.gr hg))
  simp only [List.zip_cons_cons, List.zip_nil_right, List.map_cons, List.map_nil, lF, lG] at HG
  clear hT T HF hg hf HG0 RN29 RN30 RN31 lx23
  have lx25 := HG.out.c 4 rfl; have fx25 := HG.out.f 4 rfl
  have lx26 := HG.out.c 5 rfl; have fx26 := HG.out.f 5 rfl
  have lx27 := HG.out.c 6 rfl; have fx27 := HG.out.f 6 rfl
  have r0 := Gr.refl vw2
  obtain ⟨d25_26, d26_25⟩ := HG.out.ne 4 5 rfl rfl (by decide)
  obtain ⟨d25_27, d27_25⟩ := HG.out.ne 4 6 rfl rfl (by decide)
  obtain ⟨d26_27, d27_26⟩ := HG.out.ne 5 6 rfl rfl (by decide)
  go_wp2
  refine hK.out _ _ ?_; clear hK K
  show Code.wp _ _ _ _ _
  clear r0 lx25 fx25 lx26 fx26 lx27 fx27 d25_26 d26_25 d25_27 d27_25 d26_27 d27_26
  refine fH ((((HG.out).put2 4 0 rfl).put2 5 0 rfl).put2 6 0 rfl) fun Wx2 HF => ?_
  clear HG
  refine wp_ret ?_
  try simp only [Exit.then, Exit.inBlock]
  have lx25 := HF.out.c 4 rfl
  have lx26 := HF.out.c 5 rfl
  have lx27 := HF.out.c 6 rfl
  have r0 := Gr.refl Wx2
  exact bodyPost_ret (v := .tuple #[(.agg #[.bool (decide ((g) < 0)), (.slice ao1 nn1 cc1)]), (.agg #[.bool (decide ((s) < 0)), (.slice ao2 nn2 cc2)]), (.agg #[.bool (decide ((0) < 0)), (.slice ao3 nn3 cc3)])]) (by simp [results, Tryz.results118, go_sem, lx25 _ r0, lx26 _ r0, lx27 _ r0]) rfl ⟨⟨(.slice ao1 nn1 cc1), (.slice ao2 nn2 cc2), (.slice ao3 nn3 cc3), rfl, (HF.out.rn 7 rfl), (HF.out.rn 8 rfl), (HF.out.rn 9 rfl)⟩, HF.out.1⟩

set_option maxRecDepth 20000 in
set_option maxHeartbeats 4000000 in
theorem zg_step (a b q r g2 x2 y2 z t : Int) (va vb : Value) (w : World) (HQ : Hid (a / b = q)) (HR : Hid (a % b = r)) (HT_ : Hid (sgI b = t)) (ht : ¬ t = 0) (hb : b ≠ 0) (HZ : Hid (x2 - q * y2 = z)) (sg2 : tw (Int.natAbs g2) ≤ 20000004) (sx2 : tw (Int.natAbs x2) ≤ 20000004) (sy2 : tw (Int.natAbs y2) ≤ 20000004) (sr : tw (Int.natAbs r) ≤ 20000000) (sqq : tw (Int.natAbs q) ≤ 20000001)
    (IH : Hid (∀ (vb vr : Value) (w : World), Rn w vb b.natAbs → Rn w vr r.natAbs → Calls Tryz.prog 118 #[.agg #[.bool (decide (b < 0)), vb], .agg #[.bool (decide (r < 0)), vr]] w fun e w' => (∃ r1 r2 r3 : Value, e = .returned (.tuple #[.agg #[.bool (decide (g2 < 0)), r1], .agg #[.bool (decide (x2 < 0)), r2], .agg #[.bool (decide (y2 < 0)), r3]]) ∧ Rn w' r1 g2.natAbs ∧ Rn w' r2 x2.natAbs ∧ Rn w' r3 y2.natAbs) ∧ Below w.heap.size w w')) (hs_a : tw (Int.natAbs a) ≤ 20000000) (hs_b : tw (Int.natAbs b) ≤ 20000000) (bx21 : Rn w va (Int.natAbs (a))) (bx22 : Rn w vb (Int.natAbs (b))) :
    Calls Tryz.prog 118 #[(Value.agg #[.bool (decide ((a) < 0)), va]), (Value.agg #[.bool (decide ((b) < 0)), vb])] w fun e w' => (∃ r1 r2 r3 : Value, e = .returned (.tuple #[(.agg #[.bool (decide ((g2) < 0)), r1]), (.agg #[.bool (decide ((y2) < 0)), r2]), (.agg #[.bool (decide ((z) < 0)), r3])]) ∧ Rn w' r1 (Int.natAbs (g2)) ∧ Rn w' r2 (Int.natAbs (y2)) ∧ Rn w' r3 (Int.natAbs (z))) ∧ Below w.heap.size w w' := by
  obtain ⟨ao_va, n_va, c_va, rfl⟩ := Rn.sl bx21
  obtain ⟨ao_vb, n_vb, c_vb, rfl⟩ := Rn.sl bx22
  go_enter Tryz.func118, Tryz.ntmps118
  have HF := Lib.hid (hp0 w)
  replace HF := Lib.hid ((HF.out.ar bx21).ar bx22)
  simp only [lF, lG] at HF
  clear bx21 bx22
  refine kS fun K hK => ?_
  refine wp_region_lit ?_
  go_wp2
  refine hK.out _ _ ?_; clear hK K
  show Code.wp _ _ _ _ _
  refine fH ((((((HF.out).al (b := w.heap.size) (by first | rfl | simp) (by decide)).al (b := w.heap.size + 1) (by first | rfl | simp) (by decide)).al (b := w.heap.size + 1 + 1) (by first | rfl | simp) (by decide)).al (b := w.heap.size + 1 + 1 + 1) (by first | rfl | simp) (by decide)).al (b := w.heap.size + 1 + 1 + 1 + 1) (by first | rfl | simp) (by decide)) fun Wx0 HG => ?_
  clear HF; have HF := HG; clear HG
  generalize w.heap.size + 1 + 1 + 1 + 1 = gx27 at *
  generalize w.heap.size + 1 + 1 + 1 = gx26 at *
  generalize w.heap.size + 1 + 1 = gx25 at *
  generalize w.heap.size + 1 = gx24 at *
  refine wp_seq ?_
  have hd1 : ((t) == (0)) = false := by have : ¬ (t = 0) := (ok); simpa using this
  have lx24 := HF.out.c 3 rfl
  refine kS fun K hK => ?_
  refine sq 3 [(true, 0), (true, 1), (true, 2)] fun T hT => ?_
  refine tk ?_
  refine ck Tryz.call115 (fun w' hw => zrsign (b) (t) _ _ (HT_.out) (HF.out.r 1 rfl hw)) ?_
  refine tk ?_
  refine nlS hT HF fun vw1 HG => ?_
  clear hT T HF lx24
  go_wp2
  refine hK.out _ _ ?_; clear hK K
  show Code.wp _ _ _ _ _
  have HF := HG; clear HG
  clear hd1
  refine wp_cond_false (by rfl) ?_
  refine wp_skip ?_
  show Code.wp _ _ _ _ _
  have HZ1 : Hid ((a) / (b) = q) := Lib.hid (HQ.out)
  have su1 : tw (Int.natAbs (q)) ≤ 20000001 := by have e := HZ1.out; first | omega | (rw [← e]; have := tw_idiv (a) (b); omega)
  have HZ2 : Hid ((a) % (b) = r) := Lib.hid (HR.out)
  have su2 : tw (Int.natAbs (r)) ≤ 20000000 := by have e := HZ2.out; first | omega | (rw [← e]; have := tw_imod (a) (b) (ok); omega)
  have lx23 := HF.out.c 2 rfl
  have lx24 := HF.out.c 3 rfl
  refine kS fun K hK => ?_
  have HG0 : Hid (Gr vw1 vw1) := Lib.hid (Gr.refl _)
  refine sq 6 [(true, 0), (true, 1), (false, 2), (true, 3), (true, 4), (true, 5)] fun T hT => ?_
  iterate 2 refine tk ?_
  refine wpPlan_callE rfl (by rfl) Tryz.call120 (by rfl) (fun w' hw => (zzdiv (a) (b) (q) (r) _ _ _ HZ1.out HZ2.out (ok) (by omega) (by omega) (HF.out.r 0 rfl (HG0.out.trans hw)) (HF.out.r 1 rfl (HG0.out.trans hw))).mono ?_)
  rintro e vv29 ⟨⟨rv1, rv2, rfl, bx29, bx30⟩, hg0⟩
  obtain ⟨ao1, nn1, cc1, rfl⟩ := Rn.sl bx29
  obtain ⟨ao2, nn2, cc2, rfl⟩ := Rn.sl bx30
  refine ⟨_, rfl, hg0, ?_⟩
  replace hg0 := Gr.trans hw hg0; clear hw
  replace HG0 := Lib.hid (HG0.out.trans hg0)
  have HGS := Lib.hid hg0; clear hg0
  clear HGS
  have RN29 := Lib.hid bx29; clear bx29
  have RN30 := Lib.hid bx30; clear bx30
  clear lx23; have lx23 := fun w' (h : Gr _ w') => HF.out.c 2 rfl w' (HG0.out.trans h)
  clear lx24; have lx24 := fun w' (h : Gr _ w') => HF.out.c 3 rfl w' (HG0.out.trans h)
  simp only [Act.put, lA, lB, lC]
  iterate 3 refine tk ?_
  refine wpPlan_nil (hT.out _ _ ?_)
  intro vw2 hg
  simp only [puts, Act.put, lA, lB, lC, lD, lE, ↓reduceIte, Nat.reduceEqDiff]
  have HG := Lib.hid (((HF.out.gr (HG0.out.trans hg)).ar (RN29.out.gr hg)).ar (RN30.out.gr hg))
  simp only [List.zip_cons_cons, List.zip_nil_right, List.map_cons, List.map_nil, lF, lG] at HG
  clear hT T HF hg HG0 RN29 RN30 lx23 lx24
  go_wp2
  refine hK.out _ _ ?_; clear hK K
  show Code.wp _ _ _ _ _
  refine fH (((((HG.out).al (b := vw2.heap.size) (by first | rfl | simp) (by decide)).al (b := vw2.heap.size + 1) (by first | rfl | simp) (by decide)).er 2).er 0) fun Wx3 HF => ?_
  clear HG
  generalize vw2.heap.size + 1 = gx32 at *
  generalize vw2.heap.size = gx31 at *
  have lx24 := HF.out.c 1 rfl
  have lx32 := HF.out.c 8 rfl
  refine kS fun K hK => ?_
  have HG0 : Hid (Gr Wx3 Wx3) := Lib.hid (Gr.refl _)
  refine sq 7 [(true, 0), (true, 1), (false, 2), (true, 3), (true, 4), (true, 5), (true, 6)] fun T hT => ?_
  iterate 2 refine tk ?_
  refine wpPlan_callE rfl (by rfl) Tryz.call118 (by rfl) (fun w' hw => (IH.out _ _ w' (HF.out.r 0 rfl (HG0.out.trans hw)) (HF.out.r 6 rfl (HG0.out.trans hw))).mono ?_)
  rintro e vv33 ⟨⟨rv3, rv4, rv5, rfl, bx33, bx34, bx35⟩, hg0⟩
  obtain ⟨ao3, nn3, cc3, rfl⟩ := Rn.sl bx33
  obtain ⟨ao4, nn4, cc4, rfl⟩ := Rn.sl bx34
  obtain ⟨ao5, nn5, cc5, rfl⟩ := Rn.sl bx35
  refine ⟨_, rfl, hg0, ?_⟩
  replace hg0 := Gr.trans hw hg0; clear hw
  replace HG0 := Lib.hid (HG0.out.trans hg0)
  have HGS := Lib.hid hg0; clear hg0
  clear HGS
  have RN33 := Lib.hid bx33; clear bx33
  have RN34 := Lib.hid bx34; clear bx34
  have RN35 := Lib.hid bx35; clear bx35
  clear lx24; have lx24 := fun w' (h : Gr _ w') => HF.out.c 1 rfl w' (HG0.out.trans h)
  clear lx32; have lx32 := fun w' (h : Gr _ w') => HF.out.c 8 rfl w' (HG0.out.trans h)
  simp only [Act.put, lA, lB, lC]
  iterate 4 refine tk ?_
  refine wpPlan_nil (hT.out _ _ ?_)
  intro vw3 hg
  simp only [puts, Act.put, lA, lB, lC, lD, lE, ↓reduceIte, Nat.reduceEqDiff]
  have HG := Lib.hid ((((HF.out.gr (HG0.out.trans hg)).ar (RN33.out.gr hg)).ar (RN34.out.gr hg)).ar (RN35.out.gr hg))
  simp only [List.zip_cons_cons, List.zip_nil_right, List.map_cons, List.map_nil, lF, lG] at HG
  clear hT T HF hg HG0 RN33 RN34 RN35 lx24 lx32
  go_wp2
  refine hK.out _ _ ?_; clear hK K
  show Code.wp _ _ _ _ _
  refine fH ((((((((HG.out).al (b := vw3.heap.size) (by first | rfl | simp) (by decide)).al (b := vw3.heap.size + 1) (by first | rfl | simp) (by decide)).al (b := vw3.heap.size + 1 + 1) (by first | rfl | simp) (by decide)).er 8).er 6).er 1).er 0) fun Wx4 HF => ?_
  clear HG
  generalize vw3.heap.size + 1 + 1 = gx38 at *
  generalize vw3.heap.size + 1 = gx37 at *
  generalize vw3.heap.size = gx36 at *
  have bx25 := HF.out.bx 0 rfl
  have bx26 := HF.out.bx 1 rfl
  have bx27 := HF.out.bx 2 rfl
  have bx29 := HF.out.rn 3 rfl
  have bx31 := HF.out.bx 4 rfl
  have bx33 := HF.out.rn 5 rfl
  have bx34 := HF.out.rn 6 rfl
  have bx35 := HF.out.rn 7 rfl
  have bx36 := HF.out.bx 8 rfl
  have bx37 := HF.out.bx 9 rfl
  have bx38 := HF.out.bx 10 rfl
  obtain ⟨u9, HU9⟩ : ∃ z, Hid (q * y2 = z) := ⟨_, Lib.hid rfl⟩
  have su9 : tw (Int.natAbs u9) ≤ 40000005 := by rw [← HU9.out]; have := tw_imul q y2; omega
  have HZ9 : Hid (x2 - u9 = z) := Lib.hid (by rw [← HZ.out, ← HU9.out])
  refine wp_seq_k fun K hK => ?_
  replace hK := Lib.hid hK
  obtain ⟨dz0, ez0⟩ := HF.out.ne 0 1 rfl rfl (by decide)
  obtain ⟨dz1, ez1⟩ := HF.out.ne 0 2 rfl rfl (by decide)
  obtain ⟨dz2, ez2⟩ := HF.out.ne 1 2 rfl rfl (by decide)
  have hlaw := Kp3.held gx25 gx26 gx27 Wx4
  have y31_0 : gx31 < Wx4.heap.size := bx31.lt
  have y31_1 := (HF.out.ne 4 0 rfl rfl (by decide)).1
  have y31_2 := (HF.out.ne 4 1 rfl rfl (by decide)).1
  have y31_3 := (HF.out.ne 4 2 rfl rfl (by decide)).1
  have c31_0 : Wx4.cell? ⟨gx31, 0, none⟩ = some (.bool (decide (q < 0))) := bx31.cells _ (Gr.refl _) 0
  have c31_1 : Wx4.cell? ⟨gx31, 1, none⟩ = some (.slice ao1 nn1 cc1) := bx31.cells _ (Gr.refl _) 1
  have y36_0 : gx36 < Wx4.heap.size := bx36.lt
  have y36_1 := (HF.out.ne 8 0 rfl rfl (by decide)).1
  have y36_2 := (HF.out.ne 8 1 rfl rfl (by decide)).1
  have y36_3 := (HF.out.ne 8 2 rfl rfl (by decide)).1
  have c36_0 : Wx4.cell? ⟨gx36, 0, none⟩ = some (.bool (decide (g2 < 0))) := bx36.cells _ (Gr.refl _) 0
  have c36_1 : Wx4.cell? ⟨gx36, 1, none⟩ = some (.slice ao3 nn3 cc3) := bx36.cells _ (Gr.refl _) 1
  have y37_0 : gx37 < Wx4.heap.size := bx37.lt
  have y37_1 := (HF.out.ne 9 0 rfl rfl (by decide)).1
  have y37_2 := (HF.out.ne 9 1 rfl rfl (by decide)).1
  have y37_3 := (HF.out.ne 9 2 rfl rfl (by decide)).1
  have c37_0 : Wx4.cell? ⟨gx37, 0, none⟩ = some (.bool (decide (x2 < 0))) := bx37.cells _ (Gr.refl _) 0
  have c37_1 : Wx4.cell? ⟨gx37, 1, none⟩ = some (.slice ao4 nn4 cc4) := bx37.cells _ (Gr.refl _) 1
  have y38_0 : gx38 < Wx4.heap.size := bx38.lt
  have y38_1 := (HF.out.ne 10 0 rfl rfl (by decide)).1
  have y38_2 := (HF.out.ne 10 1 rfl rfl (by decide)).1
  have y38_3 := (HF.out.ne 10 2 rfl rfl (by decide)).1
  have c38_0 : Wx4.cell? ⟨gx38, 0, none⟩ = some (.bool (decide (y2 < 0))) := bx38.cells _ (Gr.refl _) 0
  have c38_1 : Wx4.cell? ⟨gx38, 1, none⟩ = some (.slice ao5 nn5 cc5) := bx38.cells _ (Gr.refl _) 1
  have BX25 := Lib.hid bx25; clear bx25
  have BX26 := Lib.hid bx26; clear bx26
  have BX27 := Lib.hid bx27; clear bx27
  have BX29 := Lib.hid bx29; clear bx29
  have BX31 := Lib.hid bx31; clear bx31
  have BX33 := Lib.hid bx33; clear bx33
  have BX34 := Lib.hid bx34; clear bx34
  have BX35 := Lib.hid bx35; clear bx35
  have BX36 := Lib.hid bx36; clear bx36
  have BX37 := Lib.hid bx37; clear bx37
  have BX38 := Lib.hid bx38; clear bx38
  go_region_held3 (fun w' => Kp3 gx25 gx26 gx27 Wx4 w')
    (first | (with_reducible refine Kp3.setAny ?_ _ (by first | exact .inl rfl | exact .inr (.inl rfl) | exact .inr (.inr rfl)) _; repeat (first | with_reducible exact hC2 | with_reducible refine Kp3.setAny ?_ _ (by first | exact .inl rfl | exact .inr (.inl rfl) | exact .inr (.inr rfl)) _)) | with_reducible exact Kp3.of (Gr.drew _) | with_reducible assumption)
    (first
    | (go_at_call 111; refine (zmul_any q y2 u9 _ _ _ HU9.out (by omega) (by omega) (BX29.out.gr (Gr.drew _)) (BX35.out.gr (Gr.drew _))).mono ?_; rintro e w1 ⟨⟨rv9, rfl, hrn⟩, hb1⟩; have HG1 : Hid (Gr Wx4 w1) := Lib.hid (Gr.trans (Gr.drew _) hb1); have hC1 := Kp3.of (B0 := gx25) (B1 := gx26) (B2 := gx27) HG1.out; have HRN := Lib.hid hrn; obtain ⟨aoa, noa, coa, rfl⟩ := Rn.sl hrn; clear hb1 hrn)
    | (go_at_call 110; refine (zsub_any x2 u9 z _ _ _ HZ9.out (by omega) (by omega) (BX34.out.gr HG1.out) HRN.out).mono ?_; rintro e w2 ⟨⟨rv8, rfl, hrm⟩, hb2⟩; have HG2 : Hid (Gr Wx4 w2) := Lib.hid (Gr.trans HG1.out hb2); have hC2 := Kp3.of (B0 := gx25) (B1 := gx26) (B2 := gx27) HG2.out; have HRM := Lib.hid hrm; obtain ⟨aob, nob, cob, rfl⟩ := Rn.sl hrm; clear hb2 hrm; have f25_0 := (BX25.out.gr HG2.out).free _ (Gr.refl _) 0; have g25_0 : w2.cell? ⟨gx25, 0, none⟩ = some (.bool false) := (BX25.out.gr HG2.out).cells _ (Gr.refl _) 0; have f25_1 := (BX25.out.gr HG2.out).free _ (Gr.refl _) 1; have g25_1 : w2.cell? ⟨gx25, 1, none⟩ = some (.slice none 0 0) := (BX25.out.gr HG2.out).cells _ (Gr.refl _) 1; have f26_0 := (BX26.out.gr HG2.out).free _ (Gr.refl _) 0; have g26_0 : w2.cell? ⟨gx26, 0, none⟩ = some (.bool false) := (BX26.out.gr HG2.out).cells _ (Gr.refl _) 0; have f26_1 := (BX26.out.gr HG2.out).free _ (Gr.refl _) 1; have g26_1 : w2.cell? ⟨gx26, 1, none⟩ = some (.slice none 0 0) := (BX26.out.gr HG2.out).cells _ (Gr.refl _) 1; have f27_0 := (BX27.out.gr HG2.out).free _ (Gr.refl _) 0; have g27_0 : w2.cell? ⟨gx27, 0, none⟩ = some (.bool false) := (BX27.out.gr HG2.out).cells _ (Gr.refl _) 0; have f27_1 := (BX27.out.gr HG2.out).free _ (Gr.refl _) 1; have g27_1 : w2.cell? ⟨gx27, 1, none⟩ = some (.slice none 0 0) := (BX27.out.gr HG2.out).cells _ (Gr.refl _) 1))
  go_wp2
  refine hK.out _ _ ?_; clear hK K
  show Code.wp _ _ _ _ _
  refine fH (((((HF.out.gr HG2.out).ar HRM.out).put2 0 0 rfl).put2 1 0 rfl).put2 2 0 rfl) fun Wx5 HG => ?_
  clear dz0 dz1 dz2 ez0 ez1 ez2 HG1 HG2 HRN HRM hC1 hC2 hlaw HF BX25 BX26 BX27 BX29 BX31 BX33 BX34 BX35 BX36 BX37 BX38 c31_0 c31_1 c36_0 c36_1 c37_0 c37_1 c38_0 c38_1 f25_0 f25_1 g25_0 g25_1 f26_0 f26_1 g26_0 g26_1 f27_0 f27_1 g27_0 g27_1
  have HF := HG; clear HG
  refine wp_ret ?_
  try simp only [Exit.then, Exit.inBlock]
  have lx25 := HF.out.c 0 rfl
  have lx26 := HF.out.c 1 rfl
  have lx27 := HF.out.c 2 rfl
  have r0 := Gr.refl Wx5
  exact bodyPost_ret (v := .tuple #[(.agg #[.bool (decide ((g2) < 0)), (.slice ao3 nn3 cc3)]), (.agg #[.bool (decide ((y2) < 0)), (.slice ao5 nn5 cc5)]), (.agg #[.bool (decide ((z) < 0)), (.slice aob nob cob)])]) (by simp [results, Tryz.results118, go_sem, lx25 _ r0, lx26 _ r0, lx27 _ r0]) rfl ⟨⟨(.slice ao3 nn3 cc3), (.slice ao5 nn5 cc5), (.slice aob nob cob), rfl, (HF.out.rn 5 rfl), (HF.out.rn 7 rfl), (HF.out.rn 11 rfl)⟩, HF.out.1⟩

theorem tw_egcd (a b : Int) (h1 : tw a.natAbs ≤ 20000000) (h2 : tw b.natAbs ≤ 20000000) : tw (egcd a b).1.natAbs ≤ 20000004 ∧ tw (egcd a b).2.1.natAbs ≤ 20000004 ∧ tw (egcd a b).2.2.natAbs ≤ 20000004 := by
  have hs := egcd_small a b
  have hsum : tw (5 * (a.natAbs + b.natAbs) + 5) ≤ 20000004 := by
    have e1 := tw_add a.natAbs b.natAbs
    have e2 := tw_mul 5 (a.natAbs + b.natAbs)
    have e3 := tw_add (5 * (a.natAbs + b.natAbs)) 5
    have e4 : tw 5 ≤ 1 := tw_le.2 (by decide)
    omega
  refine ⟨?_, Nat.le_trans (tw_mono hs.1) hsum, Nat.le_trans (tw_mono hs.2) hsum⟩
  rw [(egcd_gcd _ a b (Nat.le_refl _)).1, Int.natAbs_natCast]
  have := tw_gcd a.natAbs b.natAbs
  omega
theorem zgcd_law : ∀ (K : Nat) (a b : Int) (va vb : Value) (w : World), b.natAbs ≤ K → tw (Int.natAbs a) ≤ 20000000 → tw (Int.natAbs b) ≤ 20000000 → Rn w va a.natAbs → Rn w vb b.natAbs →
    Calls Tryz.prog 118 #[.agg #[.bool (decide (a < 0)), va], .agg #[.bool (decide (b < 0)), vb]] w fun e w' => (∃ r1 r2 r3 : Value, e = .returned (.tuple #[.agg #[.bool (decide ((egcd a b).1 < 0)), r1], .agg #[.bool (decide ((egcd a b).2.1 < 0)), r2], .agg #[.bool (decide ((egcd a b).2.2 < 0)), r3]]) ∧ Rn w' r1 (egcd a b).1.natAbs ∧ Rn w' r2 (egcd a b).2.1.natAbs ∧ Rn w' r3 (egcd a b).2.2.natAbs) ∧ Below w.heap.size w w'
  | K, a, b, va, vb, w, hK, sa, sb, ha, hb => by
    by_cases h : b = 0
    · subst h
      rw [egcd_zero]
      have hs : -1 ≤ sgI a ∧ sgI a ≤ 1 := by unfold sgI; split; simp; split <;> simp
      exact zg_zero a _ va vb w _ (Lib.hid rfl) (Lib.hid rfl) hs.1 hs.2 sa ha hb
    · have hm := mod_abs a h
      match K, hK with
      | 0, hK => omega
      | K + 1, hK =>
        have sr := Nat.le_trans (tw_imod a b h) sb
        have sq := tw_idiv a b
        have se := tw_egcd b (a % b) sb sr
        rw [egcd_step a h]
        have ht : ¬ sgI b = 0 := by unfold sgI; rw [if_neg h]; split <;> simp
        exact zg_step a b _ _ _ _ _ _ _ va vb w (Lib.hid rfl) (Lib.hid rfl) (Lib.hid rfl) ht h (Lib.hid rfl) se.1 se.2.1 se.2.2 sr (by omega)
          (Lib.hid fun vb' vr w' h1 h2 => zgcd_law K b (a % b) vb' vr w' (by omega) sb sr h1 h2) sa sb ha hb
theorem zzgcd (a b g x y : Int) (va vb : Value) (w : World) (hg : (egcd a b).1 = g) (hx : (egcd a b).2.1 = x) (hy : (egcd a b).2.2 = y) (hs_a : tw (Int.natAbs a) ≤ 20000000) (hs_b : tw (Int.natAbs b) ≤ 20000000) (ha : Rn w va a.natAbs) (hb : Rn w vb b.natAbs) :
    Calls Tryz.prog 118 #[.agg #[.bool (decide (a < 0)), va], .agg #[.bool (decide (b < 0)), vb]] w fun e w' => (∃ r1 r2 r3 : Value, e = .returned (.tuple #[.agg #[.bool (decide (g < 0)), r1], .agg #[.bool (decide (x < 0)), r2], .agg #[.bool (decide (y < 0)), r3]]) ∧ Rn w' r1 g.natAbs ∧ Rn w' r2 x.natAbs ∧ Rn w' r3 y.natAbs) ∧ Below w.heap.size w w' :=
  hg ▸ hx ▸ hy ▸ zgcd_law _ a b va vb w (Nat.le_refl _) hs_a hs_b ha hb

end Go.Proofs.YtpcfncbcpknobaaGreatDoor
