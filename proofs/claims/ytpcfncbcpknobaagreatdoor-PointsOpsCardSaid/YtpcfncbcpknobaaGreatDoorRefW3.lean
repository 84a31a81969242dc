
/- gussetref23: Mid, Less. -/
import Derived.Test.YtpcfncbcpknobaaGreatDoorRefW2
import Derived.Test.YtpcfncbcpknobaaGreatDoorPN
namespace Go.Proofs.YtpcfncbcpknobaaGreatDoor
open Go.RowKit
set_option linter.unusedSimpArgs false
set_option linter.unusedVariables false
attribute [local go_sem ↓] Go.wp_at_zero Go.wp_at_succ
theorem rtri (a b : Rat) : a < b ∨ a = b ∨ a > b := by
  rcases @Rat.le_total a b with h | h
  · rcases Rat.le_iff_lt_or_eq.1 h with h | h
    · exact .inl h
    · exact .inr (.inl h)
  · rcases Rat.le_iff_lt_or_eq.1 h with h | h
    · exact .inr (.inr h)
    · exact .inr (.inl h.symm)

set_option maxRecDepth 20000 in
set_option maxHeartbeats 4000000 in
theorem rpmid (a1 a2 b1 b2 z1 z2 : Rat) (va11 va12 va21 va22 vb11 vb12 vb21 vb22 : Value) (w : World) (hz1 : (a1 + b1) * half = z1) (hz2 : (a2 + b2) * half = z2) (hs_a1 : rz a1 ≤ 10000000) (hs_a2 : rz a2 ≤ 10000000) (hs_b1 : rz b1 ≤ 10000000) (hs_b2 : rz b2 ≤ 10000000) (bx21 : Rn w va11 (Int.natAbs ((a1).num))) (bx22 : Rn w va12 ((a1).den - 1)) (bx23 : Rn w va21 (Int.natAbs ((a2).num))) (bx24 : Rn w va22 ((a2).den - 1)) (bx25 : Rn w vb11 (Int.natAbs ((b1).num))) (bx26 : Rn w vb12 ((b1).den - 1)) (bx27 : Rn w vb21 (Int.natAbs ((b2).num))) (bx28 : Rn w vb22 ((b2).den - 1)) :
    Calls Tryz.prog 39 #[(Value.agg #[.bool (decide ((a1).num < 0)), va11, va12, .bool (decide ((a2).num < 0)), va21, va22]), (Value.agg #[.bool (decide ((b1).num < 0)), vb11, vb12, .bool (decide ((b2).num < 0)), vb21, vb22])] w fun e w' => (∃ r1 r2 r3 r4 : Value, e = .returned (.agg #[.bool (decide ((z1).num < 0)), r1, r2, .bool (decide ((z2).num < 0)), r3, r4]) ∧ Rn w' r1 (Int.natAbs ((z1).num)) ∧ Rn w' r2 ((z1).den - 1) ∧ Rn w' r3 (Int.natAbs ((z2).num)) ∧ Rn w' r4 ((z2).den - 1)) ∧ Below w.heap.size w w' := by
  have hZ1 := Lib.hid hz1
  have hZ2 := Lib.hid hz2
  clear hz1 hz2
  obtain ⟨ao_va11, n_va11, c_va11, rfl⟩ := Rn.sl bx21
  obtain ⟨ao_va12, n_va12, c_va12, rfl⟩ := Rn.sl bx22
  obtain ⟨ao_va21, n_va21, c_va21, rfl⟩ := Rn.sl bx23
  obtain ⟨ao_va22, n_va22, c_va22, rfl⟩ := Rn.sl bx24
  obtain ⟨ao_vb11, n_vb11, c_vb11, rfl⟩ := Rn.sl bx25
  obtain ⟨ao_vb12, n_vb12, c_vb12, rfl⟩ := Rn.sl bx26
  obtain ⟨ao_vb21, n_vb21, c_vb21, rfl⟩ := Rn.sl bx27
  obtain ⟨ao_vb22, n_vb22, c_vb22, rfl⟩ := Rn.sl bx28
  go_enter Tryz.func39, Tryz.ntmps39
  have HF := Lib.hid (hp0 w)
  replace HF := Lib.hid ((((((((HF.out.ar bx21).ar bx22).ar bx23).ar bx24).ar bx25).ar bx26).ar bx27).ar bx28)
  simp only [lF, lG] at HF
  clear bx21 bx22 bx23 bx24 bx25 bx26 bx27 bx28
  refine kS fun K hK => ?_
  refine wp_region_lit ?_
  go_wp2
  refine hK.out _ _ ?_; clear hK K
  show Code.wp _ _ _ _ _
  refine fH ((((HF.out).al (b := w.heap.size) (by first | rfl | simp) (by decide)).al (b := w.heap.size + 1) (by first | rfl | simp) (by decide)).al (b := w.heap.size + 1 + 1) (by first | rfl | simp) (by decide)) fun Wx0 HG => ?_
  clear HF; have HF := HG; clear HG
  generalize w.heap.size + 1 + 1 = gx31 at *
  generalize w.heap.size + 1 = gx30 at *
  obtain ⟨u1, HZ1⟩ : ∃ z, Hid ((b1) - (a1) = z) := ⟨_, Lib.hid rfl⟩
  have su1 : rz (u1) ≤ 20000001 := by rw [← HZ1.out]; have := rz_sub (b1) (a1); omega
  obtain ⟨u2, HZ2⟩ : ∃ z, Hid ((b2) - (a2) = z) := ⟨_, Lib.hid rfl⟩
  have su2 : rz (u2) ≤ 20000001 := by rw [← HZ2.out]; have := rz_sub (b2) (a2); omega
  have HZ3 : Hid (((1 : Int) : Rat) / ((2 : Int) : Rat) = half) := Lib.hid (rfl)
  have su3 : rz (half) ≤ 10 := by exact rz_quot (1) (2) om om om om
  obtain ⟨u4, HZ4⟩ : ∃ z, Hid ((u1) * (half) = z) := ⟨_, Lib.hid rfl⟩
  have su4 : rz (u4) ≤ 20000011 := by rw [← HZ4.out]; have := rz_mul (u1) (half); omega
  obtain ⟨u5, HZ5⟩ : ∃ z, Hid ((u2) * (half) = z) := ⟨_, Lib.hid rfl⟩
  have su5 : rz (u5) ≤ 20000011 := by rw [← HZ5.out]; have := rz_mul (u2) (half); omega
  have HZ6 : Hid ((a1) + (u4) = z1) := Lib.hid (by rw [← hZ1.out]; simp only [← HZ5.out, ← HZ4.out, ← HZ2.out, ← HZ1.out]; unfold half; grind)
  have su6 : rz (z1) ≤ 30000012 := by have e := HZ6.out; first | omega | (rw [← e]; have := rz_add (a1) (u4); omega)
  have HZ7 : Hid ((a2) + (u5) = z2) := Lib.hid (by rw [← hZ2.out]; simp only [← HZ5.out, ← HZ4.out, ← HZ2.out, ← HZ1.out]; unfold half; grind)
  have su7 : rz (z2) ≤ 30000012 := by have e := HZ7.out; first | omega | (rw [← e]; have := rz_add (a2) (u5); omega)
  have lx29 := HF.out.c 8 rfl
  have lx30 := HF.out.c 9 rfl
  refine kS fun K hK => ?_
  have HG0 : Hid (Gr Wx0 Wx0) := Lib.hid (Gr.refl _)
  refine pd 7 [(true, 0), (true, 1), (true, 2), (false, 3), (false, 4), (false, 5), (false, 6)] fun T hT => ?_
  iterate 3 refine tk ?_
  refine wpPlan_callE rfl (by rfl) Tryz.call33 (by rfl) (fun w' hw => (rpsub (b1) (b2) (a1) (a2) (u1) (u2) _ _ _ _ _ _ _ _ _ HZ1.out HZ2.out (by omega) (by omega) (by omega) (by omega) (HF.out.r 4 rfl (HG0.out.trans hw)) (HF.out.r 5 rfl (HG0.out.trans hw)) (HF.out.r 6 rfl (HG0.out.trans hw)) (HF.out.r 7 rfl (HG0.out.trans hw)) (HF.out.r 0 rfl (HG0.out.trans hw)) (HF.out.r 1 rfl (HG0.out.trans hw)) (HF.out.r 2 rfl (HG0.out.trans hw)) (HF.out.r 3 rfl (HG0.out.trans hw))).mono ?_)
  rintro e vv33 ⟨⟨rv1, rv2, rv3, rv4, rfl, bx33, bx34, bx35, bx36⟩, hg0⟩
  obtain ⟨ao1, nn1, cc1, rfl⟩ := Rn.sl bx33
  obtain ⟨ao2, nn2, cc2, rfl⟩ := Rn.sl bx34
  obtain ⟨ao3, nn3, cc3, rfl⟩ := Rn.sl bx35
  obtain ⟨ao4, nn4, cc4, rfl⟩ := Rn.sl bx36
  refine ⟨_, rfl, hg0, ?_⟩
  replace hg0 := Gr.trans hw hg0; clear hw
  replace HG0 := Lib.hid (HG0.out.trans hg0)
  have HGS := Lib.hid hg0; clear hg0
  clear HGS
  have RN33 := Lib.hid bx33; clear bx33
  have RN34 := Lib.hid bx34; clear bx34
  have RN35 := Lib.hid bx35; clear bx35
  have RN36 := Lib.hid bx36; clear bx36
  clear lx29; have lx29 := fun w' (h : Gr _ w') => HF.out.c 8 rfl w' (HG0.out.trans h)
  clear lx30; have lx30 := fun w' (h : Gr _ w') => HF.out.c 9 rfl w' (HG0.out.trans h)
  simp only [Act.put, lA, lB, lC]
  refine wpPlan_callE rfl (by rfl) Tryz.call133 (by rfl) (fun w' hw => (qof_ref (1) (2) (half) _ HZ3.out om om om om).mono ?_)
  rintro e vv37 ⟨⟨rv5, rv6, rfl, bx37, bx38⟩, hg0⟩
  obtain ⟨ao5, nn5, cc5, rfl⟩ := Rn.sl bx37
  obtain ⟨ao6, nn6, cc6, rfl⟩ := Rn.sl bx38
  refine ⟨_, rfl, hg0, ?_⟩
  replace hg0 := Gr.trans hw hg0; clear hw
  replace HG0 := Lib.hid (HG0.out.trans hg0)
  have HGS := Lib.hid hg0; clear hg0
  replace RN33 := Lib.hid (RN33.out.gr HGS.out)
  replace RN34 := Lib.hid (RN34.out.gr HGS.out)
  replace RN35 := Lib.hid (RN35.out.gr HGS.out)
  replace RN36 := Lib.hid (RN36.out.gr HGS.out)
  clear HGS
  have RN37 := Lib.hid bx37; clear bx37
  have RN38 := Lib.hid bx38; clear bx38
  clear lx29; have lx29 := fun w' (h : Gr _ w') => HF.out.c 8 rfl w' (HG0.out.trans h)
  clear lx30; have lx30 := fun w' (h : Gr _ w') => HF.out.c 9 rfl w' (HG0.out.trans h)
  simp only [Act.put, lA, lB, lC]
  refine wpPlan_callE rfl (by rfl) Tryz.call36 (by rfl) (fun w' hw => (rpscale (u1) (u2) (half) (u4) (u5) _ _ _ _ _ _ _ HZ4.out HZ5.out (by omega) (by omega) (by omega) (RN33.out.gr hw) (RN34.out.gr hw) (RN35.out.gr hw) (RN36.out.gr hw) (RN37.out.gr hw) (RN38.out.gr hw)).mono ?_)
  rintro e vv39 ⟨⟨rv7, rv8, rv9, rv10, rfl, bx39, bx40, bx41, bx42⟩, hg0⟩
  obtain ⟨ao7, nn7, cc7, rfl⟩ := Rn.sl bx39
  obtain ⟨ao8, nn8, cc8, rfl⟩ := Rn.sl bx40
  obtain ⟨ao9, nn9, cc9, rfl⟩ := Rn.sl bx41
  obtain ⟨ao10, nn10, cc10, rfl⟩ := Rn.sl bx42
  refine ⟨_, rfl, hg0, ?_⟩
  replace hg0 := Gr.trans hw hg0; clear hw
  replace HG0 := Lib.hid (HG0.out.trans hg0)
  have HGS := Lib.hid hg0; clear hg0
  replace RN33 := Lib.hid (RN33.out.gr HGS.out)
  replace RN34 := Lib.hid (RN34.out.gr HGS.out)
  replace RN35 := Lib.hid (RN35.out.gr HGS.out)
  replace RN36 := Lib.hid (RN36.out.gr HGS.out)
  replace RN37 := Lib.hid (RN37.out.gr HGS.out)
  replace RN38 := Lib.hid (RN38.out.gr HGS.out)
  clear HGS
  have RN39 := Lib.hid bx39; clear bx39
  have RN40 := Lib.hid bx40; clear bx40
  have RN41 := Lib.hid bx41; clear bx41
  have RN42 := Lib.hid bx42; clear bx42
  clear lx29; have lx29 := fun w' (h : Gr _ w') => HF.out.c 8 rfl w' (HG0.out.trans h)
  clear lx30; have lx30 := fun w' (h : Gr _ w') => HF.out.c 9 rfl w' (HG0.out.trans h)
  simp only [Act.put, lA, lB, lC]
  refine wpPlan_callE rfl (by rfl) Tryz.call31 (by rfl) (fun w' hw => (rpadd (a1) (a2) (u4) (u5) (z1) (z2) _ _ _ _ _ _ _ _ _ HZ6.out HZ7.out (by omega) (by omega) (by omega) (by omega) (HF.out.r 0 rfl (HG0.out.trans hw)) (HF.out.r 1 rfl (HG0.out.trans hw)) (HF.out.r 2 rfl (HG0.out.trans hw)) (HF.out.r 3 rfl (HG0.out.trans hw)) (RN39.out.gr hw) (RN40.out.gr hw) (RN41.out.gr hw) (RN42.out.gr hw)).mono ?_)
  rintro e vv43 ⟨⟨rv11, rv12, rv13, rv14, rfl, bx43, bx44, bx45, bx46⟩, hg0⟩
  obtain ⟨ao11, nn11, cc11, rfl⟩ := Rn.sl bx43
  obtain ⟨ao12, nn12, cc12, rfl⟩ := Rn.sl bx44
  obtain ⟨ao13, nn13, cc13, rfl⟩ := Rn.sl bx45
  obtain ⟨ao14, nn14, cc14, rfl⟩ := Rn.sl bx46
  refine ⟨_, rfl, hg0, ?_⟩
  replace hg0 := Gr.trans hw hg0; clear hw
  replace HG0 := Lib.hid (HG0.out.trans hg0)
  have HGS := Lib.hid hg0; clear hg0
  replace RN33 := Lib.hid (RN33.out.gr HGS.out)
  replace RN34 := Lib.hid (RN34.out.gr HGS.out)
  replace RN35 := Lib.hid (RN35.out.gr HGS.out)
  replace RN36 := Lib.hid (RN36.out.gr HGS.out)
  replace RN37 := Lib.hid (RN37.out.gr HGS.out)
  replace RN38 := Lib.hid (RN38.out.gr HGS.out)
  replace RN39 := Lib.hid (RN39.out.gr HGS.out)
  replace RN40 := Lib.hid (RN40.out.gr HGS.out)
  replace RN41 := Lib.hid (RN41.out.gr HGS.out)
  replace RN42 := Lib.hid (RN42.out.gr HGS.out)
  clear HGS
  have RN43 := Lib.hid bx43; clear bx43
  have RN44 := Lib.hid bx44; clear bx44
  have RN45 := Lib.hid bx45; clear bx45
  have RN46 := Lib.hid bx46; clear bx46
  clear lx29; have lx29 := fun w' (h : Gr _ w') => HF.out.c 8 rfl w' (HG0.out.trans h)
  clear lx30; have lx30 := fun w' (h : Gr _ w') => HF.out.c 9 rfl w' (HG0.out.trans h)
  simp only [Act.put, lA, lB, lC]
  refine wpPlan_nil (hT.out _ _ ?_)
  intro G vw1 hg hf
  simp only [puts, Act.put, lA, lB, lC, lD, lE, ↓reduceIte, Nat.reduceEqDiff]
  have HG := Lib.hid (((((((((((((((HF.out.gr (HG0.out.trans hg)).ar (RN33.out.gr hg)).ar (RN34.out.gr hg)).ar (RN35.out.gr hg)).ar (RN36.out.gr hg)).ar (RN37.out.gr hg)).ar (RN38.out.gr hg)).ar (RN39.out.gr hg)).ar (RN40.out.gr hg)).ar (RN41.out.gr hg)).ar (RN42.out.gr hg)).ar (RN43.out.gr hg)).ar (RN44.out.gr hg)).ar (RN45.out.gr hg)).ar (RN46.out.gr hg))
  simp only [List.zip_cons_cons, List.zip_nil_right, List.map_cons, List.map_nil, lF, lG] at HG
  clear hT T HF hg hf HG0 RN33 RN34 RN35 RN36 RN37 RN38 RN39 RN40 RN41 RN42 RN43 RN44 RN45 RN46 lx29 lx30
  have lx31 := HG.out.c 10 rfl; have fx31 := HG.out.f 10 rfl
  have r0 := Gr.refl vw1
  go_wp2
  refine hK.out _ _ ?_; clear hK K
  show Code.wp _ _ _ _ _
  clear r0 lx31 fx31
  refine fH ((((((((((((((((((((((((HG.out).put2 10 0 rfl).put2 10 2 rfl).put2 10 4 rfl).er 20).er 19).er 18).er 17).er 16).er 15).er 14).er 13).er 12).er 11).er 9).er 8).er 7).er 6).er 5).er 4).er 3).er 2).er 1).er 0) fun Wx1 HF => ?_
  clear HG
  refine wp_ret ?_
  try simp only [Exit.then, Exit.inBlock]
  have lx31 := HF.out.c 0 rfl
  have r0 := Gr.refl Wx1
  exact bodyPost_ret (v := .agg #[.bool (decide ((z1).num < 0)), (.slice ao11 nn11 cc11), (.slice ao12 nn12 cc12), .bool (decide ((z2).num < 0)), (.slice ao13 nn13 cc13), (.slice ao14 nn14 cc14)]) (by simp [results, Tryz.results39, go_sem, lx31 _ r0]) rfl ⟨⟨(.slice ao11 nn11 cc11), (.slice ao12 nn12 cc12), (.slice ao13 nn13 cc13), (.slice ao14 nn14 cc14), rfl, (HF.out.rn 1 rfl), (HF.out.rn 2 rfl), (HF.out.rn 3 rfl), (HF.out.rn 4 rfl)⟩, HF.out.1⟩

set_option maxRecDepth 20000 in
set_option maxHeartbeats 4000000 in
theorem rplt_l (a1 a2 b1 b2 : Rat) (va11 va12 va21 va22 vb11 vb12 vb21 vb22 : Value) (w : World) (HX_ : Hid (a1 < b1)) (hs_a1 : rz a1 ≤ 1000000) (hs_a2 : rz a2 ≤ 1000000) (hs_b1 : rz b1 ≤ 1000000) (hs_b2 : rz b2 ≤ 1000000) (bx21 : Rn w va11 (Int.natAbs ((a1).num))) (bx22 : Rn w va12 ((a1).den - 1)) (bx23 : Rn w va21 (Int.natAbs ((a2).num))) (bx24 : Rn w va22 ((a2).den - 1)) (bx25 : Rn w vb11 (Int.natAbs ((b1).num))) (bx26 : Rn w vb12 ((b1).den - 1)) (bx27 : Rn w vb21 (Int.natAbs ((b2).num))) (bx28 : Rn w vb22 ((b2).den - 1)) :
    Calls Tryz.prog 48 #[(Value.agg #[.bool (decide ((a1).num < 0)), va11, va12, .bool (decide ((a2).num < 0)), va21, va22]), (Value.agg #[.bool (decide ((b1).num < 0)), vb11, vb12, .bool (decide ((b2).num < 0)), vb21, vb22])] w fun e w' => e = .returned ((.bool true)) ∧ Below w.heap.size w w' := by
  obtain ⟨ao_va11, n_va11, c_va11, rfl⟩ := Rn.sl bx21
  obtain ⟨ao_va12, n_va12, c_va12, rfl⟩ := Rn.sl bx22
  obtain ⟨ao_va21, n_va21, c_va21, rfl⟩ := Rn.sl bx23
  obtain ⟨ao_va22, n_va22, c_va22, rfl⟩ := Rn.sl bx24
  obtain ⟨ao_vb11, n_vb11, c_vb11, rfl⟩ := Rn.sl bx25
  obtain ⟨ao_vb12, n_vb12, c_vb12, rfl⟩ := Rn.sl bx26
  obtain ⟨ao_vb21, n_vb21, c_vb21, rfl⟩ := Rn.sl bx27
  obtain ⟨ao_vb22, n_vb22, c_vb22, rfl⟩ := Rn.sl bx28
  go_enter Tryz.func48, Tryz.ntmps48
  have HF := Lib.hid (hp0 w)
  replace HF := Lib.hid ((((((((HF.out.ar bx21).ar bx22).ar bx23).ar bx24).ar bx25).ar bx26).ar bx27).ar bx28)
  simp only [lF, lG] at HF
  clear bx21 bx22 bx23 bx24 bx25 bx26 bx27 bx28
  refine kS fun K hK => ?_
  refine wp_region_lit ?_
  go_wp2
  refine hK.out _ _ ?_; clear hK K
  show Code.wp _ _ _ _ _
  refine fH (((HF.out).al (b := w.heap.size) (by first | rfl | simp) (by decide)).al (b := w.heap.size + 1) (by first | rfl | simp) (by decide)) fun Wx0 HG => ?_
  clear HF; have HF := HG; clear HG
  generalize w.heap.size + 1 = gx30 at *
  have lx29 := HF.out.c 8 rfl
  have lx30 := HF.out.c 9 rfl
  refine kS fun K hK => ?_
  refine sq 6 [(true, 0), (true, 1), (true, 2), (true, 3), (true, 4), (true, 5)] fun T hT => ?_
  iterate 4 refine tk ?_
  refine ck Tryz.call74 (fun w' hw => qcmp_any (a1) (b1) (-1) _ _ _ _ _ (by have e9 : (a1) - (b1) < (0 : Rat) := (by have hx := HX_.out; first | exact ok | grind); exact sgQ_neg e9) (by omega) (by omega) (HF.out.r 0 rfl hw) (HF.out.r 1 rfl hw) (HF.out.r 4 rfl hw) (HF.out.r 5 rfl hw)) ?_
  refine tk ?_
  refine nlS hT HF fun vw1 HG => ?_
  clear hT T HF lx29 lx30
  go_wp2
  refine hK.out _ _ ?_; clear hK K
  show Code.wp _ _ _ _ _
  have HF := HG; clear HG
  refine kS fun K hK => ?_
  refine sq 15 [(true, 0), (true, 1), (true, 2), (true, 3), (true, 4), (true, 5), (true, 6), (true, 7), (true, 8), (true, 9), (true, 10), (true, 11), (true, 12), (true, 13), (true, 14)] fun T hT => ?_
  iterate 3 refine tk ?_
  iterate 10 refine sk ?_
  iterate 2 refine tk ?_
  refine nlS hT HF fun vw2 HG => ?_
  clear hT T HF
  go_wp2
  refine hK.out _ _ ?_; clear hK K
  show Code.wp _ _ _ _ _
  refine fH (((((((((((HG.out).er 9).er 8).er 7).er 6).er 5).er 4).er 3).er 2).er 1).er 0) fun Wx2 HF => ?_
  clear HG
  refine wp_ret ?_
  try simp only [Exit.then, Exit.inBlock]
  exact bodyPost_ret (v := .bool true) (by simp [results, Tryz.results48, go_sem]) rfl ⟨rfl, HF.out.1⟩

set_option maxRecDepth 20000 in
set_option maxHeartbeats 4000000 in
theorem rplt_g (a1 a2 b1 b2 : Rat) (va11 va12 va21 va22 vb11 vb12 vb21 vb22 : Value) (w : World) (HX_ : Hid (a1 > b1)) (hs_a1 : rz a1 ≤ 1000000) (hs_a2 : rz a2 ≤ 1000000) (hs_b1 : rz b1 ≤ 1000000) (hs_b2 : rz b2 ≤ 1000000) (bx21 : Rn w va11 (Int.natAbs ((a1).num))) (bx22 : Rn w va12 ((a1).den - 1)) (bx23 : Rn w va21 (Int.natAbs ((a2).num))) (bx24 : Rn w va22 ((a2).den - 1)) (bx25 : Rn w vb11 (Int.natAbs ((b1).num))) (bx26 : Rn w vb12 ((b1).den - 1)) (bx27 : Rn w vb21 (Int.natAbs ((b2).num))) (bx28 : Rn w vb22 ((b2).den - 1)) :
    Calls Tryz.prog 48 #[(Value.agg #[.bool (decide ((a1).num < 0)), va11, va12, .bool (decide ((a2).num < 0)), va21, va22]), (Value.agg #[.bool (decide ((b1).num < 0)), vb11, vb12, .bool (decide ((b2).num < 0)), vb21, vb22])] w fun e w' => e = .returned ((.bool false)) ∧ Below w.heap.size w w' := by
  obtain ⟨ao_va11, n_va11, c_va11, rfl⟩ := Rn.sl bx21
  obtain ⟨ao_va12, n_va12, c_va12, rfl⟩ := Rn.sl bx22
  obtain ⟨ao_va21, n_va21, c_va21, rfl⟩ := Rn.sl bx23
  obtain ⟨ao_va22, n_va22, c_va22, rfl⟩ := Rn.sl bx24
  obtain ⟨ao_vb11, n_vb11, c_vb11, rfl⟩ := Rn.sl bx25
  obtain ⟨ao_vb12, n_vb12, c_vb12, rfl⟩ := Rn.sl bx26
  obtain ⟨ao_vb21, n_vb21, c_vb21, rfl⟩ := Rn.sl bx27
  obtain ⟨ao_vb22, n_vb22, c_vb22, rfl⟩ := Rn.sl bx28
  go_enter Tryz.func48, Tryz.ntmps48
  have HF := Lib.hid (hp0 w)
  replace HF := Lib.hid ((((((((HF.out.ar bx21).ar bx22).ar bx23).ar bx24).ar bx25).ar bx26).ar bx27).ar bx28)
  simp only [lF, lG] at HF
  clear bx21 bx22 bx23 bx24 bx25 bx26 bx27 bx28
  refine kS fun K hK => ?_
  refine wp_region_lit ?_
  go_wp2
  refine hK.out _ _ ?_; clear hK K
  show Code.wp _ _ _ _ _
  refine fH (((HF.out).al (b := w.heap.size) (by first | rfl | simp) (by decide)).al (b := w.heap.size + 1) (by first | rfl | simp) (by decide)) fun Wx0 HG => ?_
  clear HF; have HF := HG; clear HG
  generalize w.heap.size + 1 = gx30 at *
  have lx29 := HF.out.c 8 rfl
  have lx30 := HF.out.c 9 rfl
  refine kS fun K hK => ?_
  refine sq 6 [(true, 0), (true, 1), (true, 2), (true, 3), (true, 4), (true, 5)] fun T hT => ?_
  iterate 4 refine tk ?_
  refine ck Tryz.call74 (fun w' hw => qcmp_any (a1) (b1) (1) _ _ _ _ _ (by have e9 : (0 : Rat) < (a1) - (b1) := (by have hx := HX_.out; first | exact ok | grind); exact sgQ_pos e9) (by omega) (by omega) (HF.out.r 0 rfl hw) (HF.out.r 1 rfl hw) (HF.out.r 4 rfl hw) (HF.out.r 5 rfl hw)) ?_
  refine tk ?_
  refine nlS hT HF fun vw1 HG => ?_
  clear hT T HF lx29 lx30
  go_wp2
  refine hK.out _ _ ?_; clear hK K
  show Code.wp _ _ _ _ _
  have HF := HG; clear HG
  refine kS fun K hK => ?_
  refine sq 15 [(true, 0), (true, 1), (true, 2), (true, 3), (true, 4), (true, 5), (true, 6), (true, 7), (true, 8), (true, 9), (true, 10), (true, 11), (true, 12), (true, 13), (true, 14)] fun T hT => ?_
  iterate 6 refine tk ?_
  iterate 6 refine sk ?_
  iterate 3 refine tk ?_
  refine nlS hT HF fun vw2 HG => ?_
  clear hT T HF
  go_wp2
  refine hK.out _ _ ?_; clear hK K
  show Code.wp _ _ _ _ _
  refine fH (((((((((((HG.out).er 9).er 8).er 7).er 6).er 5).er 4).er 3).er 2).er 1).er 0) fun Wx2 HF => ?_
  clear HG
  refine wp_ret ?_
  try simp only [Exit.then, Exit.inBlock]
  exact bodyPost_ret (v := .bool false) (by simp [results, Tryz.results48, go_sem]) rfl ⟨rfl, HF.out.1⟩

set_option maxRecDepth 20000 in
set_option maxHeartbeats 4000000 in
theorem rplt_el (a1 a2 b1 b2 : Rat) (va11 va12 va21 va22 vb11 vb12 vb21 vb22 : Value) (w : World) (HX_ : Hid (a1 = b1)) (HY_ : Hid (a2 < b2)) (hs_a1 : rz a1 ≤ 1000000) (hs_a2 : rz a2 ≤ 1000000) (hs_b1 : rz b1 ≤ 1000000) (hs_b2 : rz b2 ≤ 1000000) (bx21 : Rn w va11 (Int.natAbs ((a1).num))) (bx22 : Rn w va12 ((a1).den - 1)) (bx23 : Rn w va21 (Int.natAbs ((a2).num))) (bx24 : Rn w va22 ((a2).den - 1)) (bx25 : Rn w vb11 (Int.natAbs ((b1).num))) (bx26 : Rn w vb12 ((b1).den - 1)) (bx27 : Rn w vb21 (Int.natAbs ((b2).num))) (bx28 : Rn w vb22 ((b2).den - 1)) :
    Calls Tryz.prog 48 #[(Value.agg #[.bool (decide ((a1).num < 0)), va11, va12, .bool (decide ((a2).num < 0)), va21, va22]), (Value.agg #[.bool (decide ((b1).num < 0)), vb11, vb12, .bool (decide ((b2).num < 0)), vb21, vb22])] w fun e w' => e = .returned ((.bool true)) ∧ Below w.heap.size w w' := by
  obtain ⟨ao_va11, n_va11, c_va11, rfl⟩ := Rn.sl bx21
  obtain ⟨ao_va12, n_va12, c_va12, rfl⟩ := Rn.sl bx22
  obtain ⟨ao_va21, n_va21, c_va21, rfl⟩ := Rn.sl bx23
  obtain ⟨ao_va22, n_va22, c_va22, rfl⟩ := Rn.sl bx24
  obtain ⟨ao_vb11, n_vb11, c_vb11, rfl⟩ := Rn.sl bx25
  obtain ⟨ao_vb12, n_vb12, c_vb12, rfl⟩ := Rn.sl bx26
  obtain ⟨ao_vb21, n_vb21, c_vb21, rfl⟩ := Rn.sl bx27
  obtain ⟨ao_vb22, n_vb22, c_vb22, rfl⟩ := Rn.sl bx28
  go_enter Tryz.func48, Tryz.ntmps48
  have HF := Lib.hid (hp0 w)
  replace HF := Lib.hid ((((((((HF.out.ar bx21).ar bx22).ar bx23).ar bx24).ar bx25).ar bx26).ar bx27).ar bx28)
  simp only [lF, lG] at HF
  clear bx21 bx22 bx23 bx24 bx25 bx26 bx27 bx28
  refine kS fun K hK => ?_
  refine wp_region_lit ?_
  go_wp2
  refine hK.out _ _ ?_; clear hK K
  show Code.wp _ _ _ _ _
  refine fH (((HF.out).al (b := w.heap.size) (by first | rfl | simp) (by decide)).al (b := w.heap.size + 1) (by first | rfl | simp) (by decide)) fun Wx0 HG => ?_
  clear HF; have HF := HG; clear HG
  generalize w.heap.size + 1 = gx30 at *
  have lx29 := HF.out.c 8 rfl
  have lx30 := HF.out.c 9 rfl
  refine kS fun K hK => ?_
  refine sq 6 [(true, 0), (true, 1), (true, 2), (true, 3), (true, 4), (true, 5)] fun T hT => ?_
  iterate 4 refine tk ?_
  refine ck Tryz.call74 (fun w' hw => qcmp_any (a1) (b1) (0) _ _ _ _ _ (by have e9 : (a1) - (b1) = (0 : Rat) := (by have hx := HX_.out; have hy := HY_.out; first | exact ok | grind); exact sgQ_zero' e9) (by omega) (by omega) (HF.out.r 0 rfl hw) (HF.out.r 1 rfl hw) (HF.out.r 4 rfl hw) (HF.out.r 5 rfl hw)) ?_
  refine tk ?_
  refine nlS hT HF fun vw1 HG => ?_
  clear hT T HF lx29 lx30
  go_wp2
  refine hK.out _ _ ?_; clear hK K
  show Code.wp _ _ _ _ _
  have HF := HG; clear HG
  have lx29 := HF.out.c 8 rfl
  have lx30 := HF.out.c 9 rfl
  refine kS fun K hK => ?_
  refine sq 15 [(true, 0), (true, 1), (true, 2), (true, 3), (true, 4), (true, 5), (true, 6), (true, 7), (true, 8), (true, 9), (true, 10), (true, 11), (true, 12), (true, 13), (true, 14)] fun T hT => ?_
  iterate 10 refine tk ?_
  refine ck Tryz.call74 (fun w' hw => qcmp_any (a2) (b2) (-1) _ _ _ _ _ (by have e9 : (a2) - (b2) < (0 : Rat) := (by have hx := HX_.out; have hy := HY_.out; first | exact ok | grind); exact sgQ_neg e9) (by omega) (by omega) (HF.out.r 2 rfl hw) (HF.out.r 3 rfl hw) (HF.out.r 6 rfl hw) (HF.out.r 7 rfl hw)) ?_
  iterate 4 refine tk ?_
  refine nlS hT HF fun vw2 HG => ?_
  clear hT T HF lx29 lx30
  go_wp2
  refine hK.out _ _ ?_; clear hK K
  show Code.wp _ _ _ _ _
  refine fH (((((((((((HG.out).er 9).er 8).er 7).er 6).er 5).er 4).er 3).er 2).er 1).er 0) fun Wx2 HF => ?_
  clear HG
  refine wp_ret ?_
  try simp only [Exit.then, Exit.inBlock]
  exact bodyPost_ret (v := .bool true) (by simp [results, Tryz.results48, go_sem]) rfl ⟨rfl, HF.out.1⟩

set_option maxRecDepth 20000 in
set_option maxHeartbeats 4000000 in
theorem rplt_ee (a1 a2 b1 b2 : Rat) (va11 va12 va21 va22 vb11 vb12 vb21 vb22 : Value) (w : World) (HX_ : Hid (a1 = b1)) (HY_ : Hid (a2 = b2)) (hs_a1 : rz a1 ≤ 1000000) (hs_a2 : rz a2 ≤ 1000000) (hs_b1 : rz b1 ≤ 1000000) (hs_b2 : rz b2 ≤ 1000000) (bx21 : Rn w va11 (Int.natAbs ((a1).num))) (bx22 : Rn w va12 ((a1).den - 1)) (bx23 : Rn w va21 (Int.natAbs ((a2).num))) (bx24 : Rn w va22 ((a2).den - 1)) (bx25 : Rn w vb11 (Int.natAbs ((b1).num))) (bx26 : Rn w vb12 ((b1).den - 1)) (bx27 : Rn w vb21 (Int.natAbs ((b2).num))) (bx28 : Rn w vb22 ((b2).den - 1)) :
    Calls Tryz.prog 48 #[(Value.agg #[.bool (decide ((a1).num < 0)), va11, va12, .bool (decide ((a2).num < 0)), va21, va22]), (Value.agg #[.bool (decide ((b1).num < 0)), vb11, vb12, .bool (decide ((b2).num < 0)), vb21, vb22])] w fun e w' => e = .returned ((.bool false)) ∧ Below w.heap.size w w' := by
  obtain ⟨ao_va11, n_va11, c_va11, rfl⟩ := Rn.sl bx21
  obtain ⟨ao_va12, n_va12, c_va12, rfl⟩ := Rn.sl bx22
  obtain ⟨ao_va21, n_va21, c_va21, rfl⟩ := Rn.sl bx23
  obtain ⟨ao_va22, n_va22, c_va22, rfl⟩ := Rn.sl bx24
  obtain ⟨ao_vb11, n_vb11, c_vb11, rfl⟩ := Rn.sl bx25
  obtain ⟨ao_vb12, n_vb12, c_vb12, rfl⟩ := Rn.sl bx26
  obtain ⟨ao_vb21, n_vb21, c_vb21, rfl⟩ := Rn.sl bx27
  obtain ⟨ao_vb22, n_vb22, c_vb22, rfl⟩ := Rn.sl bx28
  go_enter Tryz.func48, Tryz.ntmps48
  have HF := Lib.hid (hp0 w)
  replace HF := Lib.hid ((((((((HF.out.ar bx21).ar bx22).ar bx23).ar bx24).ar bx25).ar bx26).ar bx27).ar bx28)
  simp only [lF, lG] at HF
  clear bx21 bx22 bx23 bx24 bx25 bx26 bx27 bx28
  refine kS fun K hK => ?_
  refine wp_region_lit ?_
  go_wp2
  refine hK.out _ _ ?_; clear hK K
  show Code.wp _ _ _ _ _
  refine fH (((HF.out).al (b := w.heap.size) (by first | rfl | simp) (by decide)).al (b := w.heap.size + 1) (by first | rfl | simp) (by decide)) fun Wx0 HG => ?_
  clear HF; have HF := HG; clear HG
  generalize w.heap.size + 1 = gx30 at *
  have lx29 := HF.out.c 8 rfl
  have lx30 := HF.out.c 9 rfl
  refine kS fun K hK => ?_
  refine sq 6 [(true, 0), (true, 1), (true, 2), (true, 3), (true, 4), (true, 5)] fun T hT => ?_
  iterate 4 refine tk ?_
  refine ck Tryz.call74 (fun w' hw => qcmp_any (a1) (b1) (0) _ _ _ _ _ (by have e9 : (a1) - (b1) = (0 : Rat) := (by have hx := HX_.out; have hy := HY_.out; first | exact ok | grind); exact sgQ_zero' e9) (by omega) (by omega) (HF.out.r 0 rfl hw) (HF.out.r 1 rfl hw) (HF.out.r 4 rfl hw) (HF.out.r 5 rfl hw)) ?_
  refine tk ?_
  refine nlS hT HF fun vw1 HG => ?_
  clear hT T HF lx29 lx30
  go_wp2
  refine hK.out _ _ ?_; clear hK K
  show Code.wp _ _ _ _ _
  have HF := HG; clear HG
  have lx29 := HF.out.c 8 rfl
  have lx30 := HF.out.c 9 rfl
  refine kS fun K hK => ?_
  refine sq 15 [(true, 0), (true, 1), (true, 2), (true, 3), (true, 4), (true, 5), (true, 6), (true, 7), (true, 8), (true, 9), (true, 10), (true, 11), (true, 12), (true, 13), (true, 14)] fun T hT => ?_
  iterate 10 refine tk ?_
  refine ck Tryz.call74 (fun w' hw => qcmp_any (a2) (b2) (0) _ _ _ _ _ (by have e9 : (a2) - (b2) = (0 : Rat) := (by have hx := HX_.out; have hy := HY_.out; first | exact ok | grind); exact sgQ_zero' e9) (by omega) (by omega) (HF.out.r 2 rfl hw) (HF.out.r 3 rfl hw) (HF.out.r 6 rfl hw) (HF.out.r 7 rfl hw)) ?_
  iterate 4 refine tk ?_
  refine nlS hT HF fun vw2 HG => ?_
  clear hT T HF lx29 lx30
  go_wp2
  refine hK.out _ _ ?_; clear hK K
  show Code.wp _ _ _ _ _
  refine fH (((((((((((HG.out).er 9).er 8).er 7).er 6).er 5).er 4).er 3).er 2).er 1).er 0) fun Wx2 HF => ?_
  clear HG
  refine wp_ret ?_
  try simp only [Exit.then, Exit.inBlock]
  exact bodyPost_ret (v := .bool false) (by simp [results, Tryz.results48, go_sem]) rfl ⟨rfl, HF.out.1⟩

set_option maxRecDepth 20000 in
set_option maxHeartbeats 4000000 in
theorem rplt_eg (a1 a2 b1 b2 : Rat) (va11 va12 va21 va22 vb11 vb12 vb21 vb22 : Value) (w : World) (HX_ : Hid (a1 = b1)) (HY_ : Hid (a2 > b2)) (hs_a1 : rz a1 ≤ 1000000) (hs_a2 : rz a2 ≤ 1000000) (hs_b1 : rz b1 ≤ 1000000) (hs_b2 : rz b2 ≤ 1000000) (bx21 : Rn w va11 (Int.natAbs ((a1).num))) (bx22 : Rn w va12 ((a1).den - 1)) (bx23 : Rn w va21 (Int.natAbs ((a2).num))) (bx24 : Rn w va22 ((a2).den - 1)) (bx25 : Rn w vb11 (Int.natAbs ((b1).num))) (bx26 : Rn w vb12 ((b1).den - 1)) (bx27 : Rn w vb21 (Int.natAbs ((b2).num))) (bx28 : Rn w vb22 ((b2).den - 1)) :
    Calls Tryz.prog 48 #[(Value.agg #[.bool (decide ((a1).num < 0)), va11, va12, .bool (decide ((a2).num < 0)), va21, va22]), (Value.agg #[.bool (decide ((b1).num < 0)), vb11, vb12, .bool (decide ((b2).num < 0)), vb21, vb22])] w fun e w' => e = .returned ((.bool false)) ∧ Below w.heap.size w w' := by
  obtain ⟨ao_va11, n_va11, c_va11, rfl⟩ := Rn.sl bx21
  obtain ⟨ao_va12, n_va12, c_va12, rfl⟩ := Rn.sl bx22
  obtain ⟨ao_va21, n_va21, c_va21, rfl⟩ := Rn.sl bx23
  obtain ⟨ao_va22, n_va22, c_va22, rfl⟩ := Rn.sl bx24
  obtain ⟨ao_vb11, n_vb11, c_vb11, rfl⟩ := Rn.sl bx25
  obtain ⟨ao_vb12, n_vb12, c_vb12, rfl⟩ := Rn.sl bx26
  obtain ⟨ao_vb21, n_vb21, c_vb21, rfl⟩ := Rn.sl bx27
  obtain ⟨ao_vb22, n_vb22, c_vb22, rfl⟩ := Rn.sl bx28
  go_enter Tryz.func48, Tryz.ntmps48
  have HF := Lib.hid (hp0 w)
  replace HF := Lib.hid ((((((((HF.out.ar bx21).ar bx22).ar bx23).ar bx24).ar bx25).ar bx26).ar bx27).ar bx28)
  simp only [lF, lG] at HF
  clear bx21 bx22 bx23 bx24 bx25 bx26 bx27 bx28
  refine kS fun K hK => ?_
  refine wp_region_lit ?_
  go_wp2
  refine hK.out _ _ ?_; clear hK K
  show Code.wp _ _ _ _ _
  refine fH (((HF.out).al (b := w.heap.size) (by first | rfl | simp) (by decide)).al (b := w.heap.size + 1) (by first | rfl | simp) (by decide)) fun Wx0 HG => ?_
  clear HF; have HF := HG; clear HG
  generalize w.heap.size + 1 = gx30 at *
  have lx29 := HF.out.c 8 rfl
  have lx30 := HF.out.c 9 rfl
  refine kS fun K hK => ?_
  refine sq 6 [(true, 0), (true, 1), (true, 2), (true, 3), (true, 4), (true, 5)] fun T hT => ?_
  iterate 4 refine tk ?_
  refine ck Tryz.call74 (fun w' hw => qcmp_any (a1) (b1) (0) _ _ _ _ _ (by have e9 : (a1) - (b1) = (0 : Rat) := (by have hx := HX_.out; have hy := HY_.out; first | exact ok | grind); exact sgQ_zero' e9) (by omega) (by omega) (HF.out.r 0 rfl hw) (HF.out.r 1 rfl hw) (HF.out.r 4 rfl hw) (HF.out.r 5 rfl hw)) ?_
  refine tk ?_
  refine nlS hT HF fun vw1 HG => ?_
  clear hT T HF lx29 lx30
  go_wp2
  refine hK.out _ _ ?_; clear hK K
  show Code.wp _ _ _ _ _
  have HF := HG; clear HG
  have lx29 := HF.out.c 8 rfl
  have lx30 := HF.out.c 9 rfl
  refine kS fun K hK => ?_
  refine sq 15 [(true, 0), (true, 1), (true, 2), (true, 3), (true, 4), (true, 5), (true, 6), (true, 7), (true, 8), (true, 9), (true, 10), (true, 11), (true, 12), (true, 13), (true, 14)] fun T hT => ?_
  iterate 10 refine tk ?_
  refine ck Tryz.call74 (fun w' hw => qcmp_any (a2) (b2) (1) _ _ _ _ _ (by have e9 : (0 : Rat) < (a2) - (b2) := (by have hx := HX_.out; have hy := HY_.out; first | exact ok | grind); exact sgQ_pos e9) (by omega) (by omega) (HF.out.r 2 rfl hw) (HF.out.r 3 rfl hw) (HF.out.r 6 rfl hw) (HF.out.r 7 rfl hw)) ?_
  iterate 4 refine tk ?_
  refine nlS hT HF fun vw2 HG => ?_
  clear hT T HF lx29 lx30
  go_wp2
  refine hK.out _ _ ?_; clear hK K
  show Code.wp _ _ _ _ _
  refine fH (((((((((((HG.out).er 9).er 8).er 7).er 6).er 5).er 4).er 3).er 2).er 1).er 0) fun Wx2 HF => ?_
  clear HG
  refine wp_ret ?_
  try simp only [Exit.then, Exit.inBlock]
  exact bodyPost_ret (v := .bool false) (by simp [results, Tryz.results48, go_sem]) rfl ⟨rfl, HF.out.1⟩

theorem rpless (a1 a2 b1 b2 : Rat) (r : Bool) (va11 va12 va21 va22 vb11 vb12 vb21 vb22 : Value) (w : World) (hr : plt a1 a2 b1 b2 = r) (h1 : rz a1 ≤ 1000000) (h2 : rz a2 ≤ 1000000) (h3 : rz b1 ≤ 1000000) (h4 : rz b2 ≤ 1000000) (bx21 : Rn w va11 (Int.natAbs ((a1).num))) (bx22 : Rn w va12 ((a1).den - 1)) (bx23 : Rn w va21 (Int.natAbs ((a2).num))) (bx24 : Rn w va22 ((a2).den - 1)) (bx25 : Rn w vb11 (Int.natAbs ((b1).num))) (bx26 : Rn w vb12 ((b1).den - 1)) (bx27 : Rn w vb21 (Int.natAbs ((b2).num))) (bx28 : Rn w vb22 ((b2).den - 1)) :
    Calls Tryz.prog 48 #[.agg #[.bool (decide ((a1).num < 0)), va11, va12, .bool (decide ((a2).num < 0)), va21, va22], .agg #[.bool (decide ((b1).num < 0)), vb11, vb12, .bool (decide ((b2).num < 0)), vb21, vb22]] w fun e w' => e = .returned (.bool r) ∧ Below w.heap.size w w' := by
  unfold plt at hr
  rcases rtri a1 b1 with hx | hx | hx
  · rw [if_neg (by intro e; subst e; exact Rat.lt_irrefl hx), decide_eq_true hx] at hr
    subst hr
    exact rplt_l a1 a2 b1 b2 va11 va12 va21 va22 vb11 vb12 vb21 vb22 w (Lib.hid hx) h1 h2 h3 h4 bx21 bx22 bx23 bx24 bx25 bx26 bx27 bx28
  · rw [if_pos hx] at hr
    rcases rtri a2 b2 with hy | hy | hy
    · rw [decide_eq_true hy] at hr
      subst hr
      exact rplt_el a1 a2 b1 b2 va11 va12 va21 va22 vb11 vb12 vb21 vb22 w (Lib.hid hx) (Lib.hid hy) h1 h2 h3 h4 bx21 bx22 bx23 bx24 bx25 bx26 bx27 bx28
    · rw [decide_eq_false (by rw [hy]; exact Rat.lt_irrefl)] at hr
      subst hr
      exact rplt_ee a1 a2 b1 b2 va11 va12 va21 va22 vb11 vb12 vb21 vb22 w (Lib.hid hx) (Lib.hid hy) h1 h2 h3 h4 bx21 bx22 bx23 bx24 bx25 bx26 bx27 bx28
    · rw [decide_eq_false (by intro e; exact (Rat.not_lt.2 (Rat.le_of_lt hy)) e)] at hr
      subst hr
      exact rplt_eg a1 a2 b1 b2 va11 va12 va21 va22 vb11 vb12 vb21 vb22 w (Lib.hid hx) (Lib.hid hy) h1 h2 h3 h4 bx21 bx22 bx23 bx24 bx25 bx26 bx27 bx28
  · rw [if_neg (by intro e; subst e; exact Rat.lt_irrefl hx), decide_eq_false (by intro e; exact (Rat.not_lt.2 (Rat.le_of_lt hx)) e)] at hr
    subst hr
    exact rplt_g a1 a2 b1 b2 va11 va12 va21 va22 vb11 vb12 vb21 vb22 w (Lib.hid hx) h1 h2 h3 h4 bx21 bx22 bx23 bx24 bx25 bx26 bx27 bx28

end Go.Proofs.YtpcfncbcpknobaaGreatDoor
