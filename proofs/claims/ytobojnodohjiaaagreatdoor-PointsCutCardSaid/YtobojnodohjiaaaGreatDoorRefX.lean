
/- gussetref23: Turn, On, Middle. -/
import Derived.Test.YtobojnodohjiaaaGreatDoorRefW
import Derived.Test.YtobojnodohjiaaaGreatDoorPts3
import Derived.Test.YtobojnodohjiaaaGreatDoorHp
set_option linter.unusedVariables false
set_option linter.unusedSimpArgs false
namespace Go.Proofs.YtobojnodohjiaaaGreatDoor
open Go.RowKit
attribute [local go_sem ↓] Go.wp_at_zero Go.wp_at_succ
set_option maxRecDepth 20000 in
set_option maxHeartbeats 2000000 in
theorem rpturn (a1 a2 b1 b2 c1 c2 : Rat) (t : Int) (va11 va12 va21 va22 vb11 vb12 vb21 vb22 vc11 vc12 vc21 vc22 : Value) (w : World) (ht : turn a1 a2 b1 b2 c1 c2 = t) (hs_a1 : rz a1 ≤ 1000000) (hs_a2 : rz a2 ≤ 1000000) (hs_b1 : rz b1 ≤ 1000000) (hs_b2 : rz b2 ≤ 1000000) (hs_c1 : rz c1 ≤ 1000000) (hs_c2 : rz c2 ≤ 1000000) (bx21 : Rn w va11 (Int.natAbs ((a1).num))) (bx22 : Rn w va12 ((a1).den - 1)) (bx23 : Rn w va21 (Int.natAbs ((a2).num))) (bx24 : Rn w va22 ((a2).den - 1)) (bx25 : Rn w vb11 (Int.natAbs ((b1).num))) (bx26 : Rn w vb12 ((b1).den - 1)) (bx27 : Rn w vb21 (Int.natAbs ((b2).num))) (bx28 : Rn w vb22 ((b2).den - 1)) (bx29 : Rn w vc11 (Int.natAbs ((c1).num))) (bx30 : Rn w vc12 ((c1).den - 1)) (bx31 : Rn w vc21 (Int.natAbs ((c2).num))) (bx32 : Rn w vc22 ((c2).den - 1)) :
    Calls Tryz.prog 191 #[(Value.agg #[.bool (decide ((a1).num < 0)), va11, va12, .bool (decide ((a2).num < 0)), va21, va22]), (Value.agg #[.bool (decide ((b1).num < 0)), vb11, vb12, .bool (decide ((b2).num < 0)), vb21, vb22]), (Value.agg #[.bool (decide ((c1).num < 0)), vc11, vc12, .bool (decide ((c2).num < 0)), vc21, vc22])] w fun e w' => e = .returned (.int .i64 (t)) ∧ Below w.heap.size w w' := by
  replace ht := Lib.hid ht
  obtain ⟨ao_va11, n_va11, c_va11, rfl⟩ := Rn.sl bx21
  obtain ⟨ao_va12, n_va12, c_va12, rfl⟩ := Rn.sl bx22
  obtain ⟨ao_va21, n_va21, c_va21, rfl⟩ := Rn.sl bx23
  obtain ⟨ao_va22, n_va22, c_va22, rfl⟩ := Rn.sl bx24
  obtain ⟨ao_vb11, n_vb11, c_vb11, rfl⟩ := Rn.sl bx25
  obtain ⟨ao_vb12, n_vb12, c_vb12, rfl⟩ := Rn.sl bx26
  obtain ⟨ao_vb21, n_vb21, c_vb21, rfl⟩ := Rn.sl bx27
  obtain ⟨ao_vb22, n_vb22, c_vb22, rfl⟩ := Rn.sl bx28
  obtain ⟨ao_vc11, n_vc11, c_vc11, rfl⟩ := Rn.sl bx29
  obtain ⟨ao_vc12, n_vc12, c_vc12, rfl⟩ := Rn.sl bx30
  obtain ⟨ao_vc21, n_vc21, c_vc21, rfl⟩ := Rn.sl bx31
  obtain ⟨ao_vc22, n_vc22, c_vc22, rfl⟩ := Rn.sl bx32
  go_enter Tryz.func191, Tryz.ntmps191
  have HF := Lib.hid (hp0 w)
  replace HF := Lib.hid ((((((((((((HF.out.ar bx21).ar bx22).ar bx23).ar bx24).ar bx25).ar bx26).ar bx27).ar bx28).ar bx29).ar bx30).ar bx31).ar bx32)
  simp only [lF, lG] at HF
  clear bx21 bx22 bx23 bx24 bx25 bx26 bx27 bx28 bx29 bx30 bx31 bx32
  refine kS fun K hK => ?_
  refine wp_region_lit ?_
  go_wp2
  refine kO hK ?_; clear hK K
  refine fH ((((HF.out).aL (w.heap.size)).aL (w.heap.size + 1)).aL (w.heap.size + 1 + 1)) fun Wx0 HG => ?_
  clear HF; have HF := HG; clear HG
  generalize w.heap.size + 1 + 1 = gx35 at *
  generalize w.heap.size + 1 = gx34 at *
  obtain ⟨u1, HZ1⟩ : ∃ z, Hid ((b1) - (a1) = z) := ⟨_, Lib.hid rfl⟩
  have su1 : rz u1 ≤ 2000001 := by rw [← HZ1.out]; have := rz_sub (b1) (a1); omega
  obtain ⟨u2, HZ2⟩ : ∃ z, Hid ((b2) - (a2) = z) := ⟨_, Lib.hid rfl⟩
  have su2 : rz u2 ≤ 2000001 := by rw [← HZ2.out]; have := rz_sub (b2) (a2); omega
  obtain ⟨u3, HZ3⟩ : ∃ z, Hid ((c1) - (a1) = z) := ⟨_, Lib.hid rfl⟩
  have su3 : rz u3 ≤ 2000001 := by rw [← HZ3.out]; have := rz_sub (c1) (a1); omega
  obtain ⟨u4, HZ4⟩ : ∃ z, Hid ((c2) - (a2) = z) := ⟨_, Lib.hid rfl⟩
  have su4 : rz u4 ≤ 2000001 := by rw [← HZ4.out]; have := rz_sub (c2) (a2); omega
  obtain ⟨u5, HZ5⟩ : ∃ z, Hid ((u1) * (u4) - (u2) * (u3) = z) := ⟨_, Lib.hid rfl⟩
  have su5 : rz u5 ≤ 8000005 := by rw [← HZ5.out]; have := rz_cross (u1) (u2) (u3) (u4); omega
  have lx33 := HF.out.c 12 rfl
  have lx34 := HF.out.c 13 rfl
  have lx35 := HF.out.c 14 rfl
  refine kS fun K hK => ?_
  have HG0 : Hid (Gr Wx0 Wx0) := Lib.hid (Gr.refl _)
  refine pd 8 [(true, 0), (true, 1), (true, 3), (true, 4), (false, 2), (false, 5), (false, 6), (true, 7)] fun T hT => ?_
  iterate 4 refine tk ?_
  refine wpPlan_callE rfl (by rfl) Tryz.call86 (by rfl) (fun w' hw => (rpsub (b1) (b2) (a1) (a2) (u1) (u2) _ _ _ _ _ _ _ _ _ HZ1.out HZ2.out (by omega) (by omega) (by omega) (by omega) (HF.out.r 4 rfl (HG0.out.trans hw)) (HF.out.r 5 rfl (HG0.out.trans hw)) (HF.out.r 6 rfl (HG0.out.trans hw)) (HF.out.r 7 rfl (HG0.out.trans hw)) (HF.out.r 0 rfl (HG0.out.trans hw)) (HF.out.r 1 rfl (HG0.out.trans hw)) (HF.out.r 2 rfl (HG0.out.trans hw)) (HF.out.r 3 rfl (HG0.out.trans hw))).mono ?_)
  rintro e vv37 ⟨⟨rv1, rv2, rv3, rv4, rfl, bx37, bx38, bx39, bx40⟩, hg0⟩
  obtain ⟨ao1, nn1, cc1, rfl⟩ := Rn.sl bx37
  obtain ⟨ao2, nn2, cc2, rfl⟩ := Rn.sl bx38
  obtain ⟨ao3, nn3, cc3, rfl⟩ := Rn.sl bx39
  obtain ⟨ao4, nn4, cc4, rfl⟩ := Rn.sl bx40
  refine ⟨_, rfl, hg0, ?_⟩
  replace hg0 := Gr.trans hw hg0; clear hw
  replace HG0 := Lib.hid (HG0.out.trans hg0)
  have HGS := Lib.hid hg0; clear hg0
  clear HGS
  have RN37 := Lib.hid bx37; clear bx37
  have RN38 := Lib.hid bx38; clear bx38
  have RN39 := Lib.hid bx39; clear bx39
  have RN40 := Lib.hid bx40; clear bx40
  clear lx33; have lx33 := fun w' (h : Gr _ w') => HF.out.c 12 rfl w' (HG0.out.trans h)
  clear lx34; have lx34 := fun w' (h : Gr _ w') => HF.out.c 13 rfl w' (HG0.out.trans h)
  clear lx35; have lx35 := fun w' (h : Gr _ w') => HF.out.c 14 rfl w' (HG0.out.trans h)
  simp only [Act.put, lA, lB, lC]
  refine wpPlan_callE rfl (by rfl) Tryz.call86 (by rfl) (fun w' hw => (rpsub (c1) (c2) (a1) (a2) (u3) (u4) _ _ _ _ _ _ _ _ _ HZ3.out HZ4.out (by omega) (by omega) (by omega) (by omega) (HF.out.r 8 rfl (HG0.out.trans hw)) (HF.out.r 9 rfl (HG0.out.trans hw)) (HF.out.r 10 rfl (HG0.out.trans hw)) (HF.out.r 11 rfl (HG0.out.trans hw)) (HF.out.r 0 rfl (HG0.out.trans hw)) (HF.out.r 1 rfl (HG0.out.trans hw)) (HF.out.r 2 rfl (HG0.out.trans hw)) (HF.out.r 3 rfl (HG0.out.trans hw))).mono ?_)
  rintro e vv41 ⟨⟨rv5, rv6, rv7, rv8, rfl, bx41, bx42, bx43, bx44⟩, hg0⟩
  obtain ⟨ao5, nn5, cc5, rfl⟩ := Rn.sl bx41
  obtain ⟨ao6, nn6, cc6, rfl⟩ := Rn.sl bx42
  obtain ⟨ao7, nn7, cc7, rfl⟩ := Rn.sl bx43
  obtain ⟨ao8, nn8, cc8, rfl⟩ := Rn.sl bx44
  refine ⟨_, rfl, hg0, ?_⟩
  replace hg0 := Gr.trans hw hg0; clear hw
  replace HG0 := Lib.hid (HG0.out.trans hg0)
  have HGS := Lib.hid hg0; clear hg0
  replace RN37 := Lib.hid (RN37.out.gr HGS.out)
  replace RN38 := Lib.hid (RN38.out.gr HGS.out)
  replace RN39 := Lib.hid (RN39.out.gr HGS.out)
  replace RN40 := Lib.hid (RN40.out.gr HGS.out)
  clear HGS
  have RN41 := Lib.hid bx41; clear bx41
  have RN42 := Lib.hid bx42; clear bx42
  have RN43 := Lib.hid bx43; clear bx43
  have RN44 := Lib.hid bx44; clear bx44
  clear lx33; have lx33 := fun w' (h : Gr _ w') => HF.out.c 12 rfl w' (HG0.out.trans h)
  clear lx34; have lx34 := fun w' (h : Gr _ w') => HF.out.c 13 rfl w' (HG0.out.trans h)
  clear lx35; have lx35 := fun w' (h : Gr _ w') => HF.out.c 14 rfl w' (HG0.out.trans h)
  simp only [Act.put, lA, lB, lC]
  refine wpPlan_callE rfl (by rfl) Tryz.call87 (by rfl) (fun w' hw => (rpcross (u1) (u2) (u3) (u4) (u5) _ _ _ _ _ _ _ _ _ HZ5.out (by omega) (by omega) (by omega) (by omega) (RN37.out.gr hw) (RN38.out.gr hw) (RN39.out.gr hw) (RN40.out.gr hw) (RN41.out.gr hw) (RN42.out.gr hw) (RN43.out.gr hw) (RN44.out.gr hw)).mono ?_)
  rintro e vv45 ⟨⟨rv9, rv10, rfl, bx45, bx46⟩, hg0⟩
  obtain ⟨ao9, nn9, cc9, rfl⟩ := Rn.sl bx45
  obtain ⟨ao10, nn10, cc10, rfl⟩ := Rn.sl bx46
  refine ⟨_, rfl, hg0, ?_⟩
  replace hg0 := Gr.trans hw hg0; clear hw
  replace HG0 := Lib.hid (HG0.out.trans hg0)
  have HGS := Lib.hid hg0; clear hg0
  replace RN37 := Lib.hid (RN37.out.gr HGS.out)
  replace RN38 := Lib.hid (RN38.out.gr HGS.out)
  replace RN39 := Lib.hid (RN39.out.gr HGS.out)
  replace RN40 := Lib.hid (RN40.out.gr HGS.out)
  replace RN41 := Lib.hid (RN41.out.gr HGS.out)
  replace RN42 := Lib.hid (RN42.out.gr HGS.out)
  replace RN43 := Lib.hid (RN43.out.gr HGS.out)
  replace RN44 := Lib.hid (RN44.out.gr HGS.out)
  clear HGS
  have RN45 := Lib.hid bx45; clear bx45
  have RN46 := Lib.hid bx46; clear bx46
  clear lx33; have lx33 := fun w' (h : Gr _ w') => HF.out.c 12 rfl w' (HG0.out.trans h)
  clear lx34; have lx34 := fun w' (h : Gr _ w') => HF.out.c 13 rfl w' (HG0.out.trans h)
  clear lx35; have lx35 := fun w' (h : Gr _ w') => HF.out.c 14 rfl w' (HG0.out.trans h)
  simp only [Act.put, lA, lB, lC]
  refine ck Tryz.call88 (fun w' hw => qsign_any (u5) (t) _ _ _ (by simp only [← HZ5.out, ← HZ4.out, ← HZ3.out, ← HZ2.out, ← HZ1.out]; exact ht.out) (RN45.out.gr hw) (RN46.out.gr hw)) ?_
  refine wpPlan_nil (hT.out _ _ ?_)
  intro G vw1 hg hf
  simp only [puts, Act.put, lA, lB, lC, lD, lE, ↓reduceIte, Nat.reduceEqDiff]
  have HG := Lib.hid (((((((((((HF.out.gr (HG0.out.trans hg)).ar (RN37.out.gr hg)).ar (RN38.out.gr hg)).ar (RN39.out.gr hg)).ar (RN40.out.gr hg)).ar (RN41.out.gr hg)).ar (RN42.out.gr hg)).ar (RN43.out.gr hg)).ar (RN44.out.gr hg)).ar (RN45.out.gr hg)).ar (RN46.out.gr hg))
  simp only [zq1_, zq2_, zq3_, zq4_, lF, lG] at HG
  clear hT T HF hg hf HG0 RN37 RN38 RN39 RN40 RN41 RN42 RN43 RN44 RN45 RN46 lx33 lx34 lx35
  go_wp2
  refine kO hK ?_; clear hK K
  refine fH ((((((((((((((((((((((((((HG.out).er 24).er 23).er 22).er 21).er 20).er 19).er 18).er 17).er 16).er 15).er 14).er 13).er 12).er 11).er 10).er 9).er 8).er 7).er 6).er 5).er 4).er 3).er 2).er 1).er 0) fun Wx1 HF => ?_
  clear HG
  refine wp_ret ?_
  try simp only [Exit.then, Exit.inBlock]
  exact bodyPost_ret (v := .int .i64 (t)) (by simp [results, Tryz.results191, go_sem]) rfl ⟨rfl, HF.out.1⟩
set_option maxRecDepth 20000 in
set_option maxHeartbeats 2000000 in
theorem rpon_no (a1 a2 b1 b2 p1 p2 : Rat) (t : Int) (va11 va12 va21 va22 vb11 vb12 vb21 vb22 vp11 vp12 vp21 vp22 : Value) (w : World) (ht : Hid (turn a1 a2 b1 b2 p1 p2 = t)) (h0 : (t == 0) = false) (hs_a1 : rz a1 ≤ 1000000) (hs_a2 : rz a2 ≤ 1000000) (hs_b1 : rz b1 ≤ 1000000) (hs_b2 : rz b2 ≤ 1000000) (hs_p1 : rz p1 ≤ 1000000) (hs_p2 : rz p2 ≤ 1000000) (bx21 : Rn w va11 (Int.natAbs ((a1).num))) (bx22 : Rn w va12 ((a1).den - 1)) (bx23 : Rn w va21 (Int.natAbs ((a2).num))) (bx24 : Rn w va22 ((a2).den - 1)) (bx25 : Rn w vb11 (Int.natAbs ((b1).num))) (bx26 : Rn w vb12 ((b1).den - 1)) (bx27 : Rn w vb21 (Int.natAbs ((b2).num))) (bx28 : Rn w vb22 ((b2).den - 1)) (bx29 : Rn w vp11 (Int.natAbs ((p1).num))) (bx30 : Rn w vp12 ((p1).den - 1)) (bx31 : Rn w vp21 (Int.natAbs ((p2).num))) (bx32 : Rn w vp22 ((p2).den - 1)) :
    Calls Tryz.prog 83 #[(Value.agg #[.bool (decide ((a1).num < 0)), va11, va12, .bool (decide ((a2).num < 0)), va21, va22]), (Value.agg #[.bool (decide ((b1).num < 0)), vb11, vb12, .bool (decide ((b2).num < 0)), vb21, vb22]), (Value.agg #[.bool (decide ((p1).num < 0)), vp11, vp12, .bool (decide ((p2).num < 0)), vp21, vp22])] w fun e w' => e = .returned (.bool false) ∧ Below w.heap.size w w' := by
  obtain ⟨ao_va11, n_va11, c_va11, rfl⟩ := Rn.sl bx21
  obtain ⟨ao_va12, n_va12, c_va12, rfl⟩ := Rn.sl bx22
  obtain ⟨ao_va21, n_va21, c_va21, rfl⟩ := Rn.sl bx23
  obtain ⟨ao_va22, n_va22, c_va22, rfl⟩ := Rn.sl bx24
  obtain ⟨ao_vb11, n_vb11, c_vb11, rfl⟩ := Rn.sl bx25
  obtain ⟨ao_vb12, n_vb12, c_vb12, rfl⟩ := Rn.sl bx26
  obtain ⟨ao_vb21, n_vb21, c_vb21, rfl⟩ := Rn.sl bx27
  obtain ⟨ao_vb22, n_vb22, c_vb22, rfl⟩ := Rn.sl bx28
  obtain ⟨ao_vp11, n_vp11, c_vp11, rfl⟩ := Rn.sl bx29
  obtain ⟨ao_vp12, n_vp12, c_vp12, rfl⟩ := Rn.sl bx30
  obtain ⟨ao_vp21, n_vp21, c_vp21, rfl⟩ := Rn.sl bx31
  obtain ⟨ao_vp22, n_vp22, c_vp22, rfl⟩ := Rn.sl bx32
  go_enter Tryz.func83, Tryz.ntmps83
  have HF := Lib.hid (hp0 w)
  replace HF := Lib.hid ((((((((((((HF.out.ar bx21).ar bx22).ar bx23).ar bx24).ar bx25).ar bx26).ar bx27).ar bx28).ar bx29).ar bx30).ar bx31).ar bx32)
  simp only [lF, lG] at HF
  clear bx21 bx22 bx23 bx24 bx25 bx26 bx27 bx28 bx29 bx30 bx31 bx32
  refine kS fun K hK => ?_
  refine wp_region_lit ?_
  go_wp2
  refine kO hK ?_; clear hK K
  refine fH ((((HF.out).aL (w.heap.size)).aL (w.heap.size + 1)).aL (w.heap.size + 1 + 1)) fun Wx0 HG => ?_
  clear HF; have HF := HG; clear HG
  generalize w.heap.size + 1 + 1 = gx35 at *
  generalize w.heap.size + 1 = gx34 at *
  have lx33 := HF.out.c 12 rfl
  have lx34 := HF.out.c 13 rfl
  have lx35 := HF.out.c 14 rfl
  refine kS fun K hK => ?_
  have HG0 : Hid (Gr Wx0 Wx0) := Lib.hid (Gr.refl _)
  refine pd 16 [(true, 0), (true, 1), (true, 2), (true, 3), (true, 4), (true, 5), (true, 6), (true, 7), (true, 9), (true, 10), (true, 8), (true, 11), (true, 12), (true, 13), (true, 14), (true, 15)] fun T hT => ?_
  iterate 3 refine tk ?_
  refine ck Tryz.call191 (fun w' hw => rpturn (a1) (a2) (b1) (b2) (p1) (p2) (t) _ _ _ _ _ _ _ _ _ _ _ _ _ (ht.out) (by omega) (by omega) (by omega) (by omega) (by omega) (by omega) (HF.out.r 0 rfl (HG0.out.trans hw)) (HF.out.r 1 rfl (HG0.out.trans hw)) (HF.out.r 2 rfl (HG0.out.trans hw)) (HF.out.r 3 rfl (HG0.out.trans hw)) (HF.out.r 4 rfl (HG0.out.trans hw)) (HF.out.r 5 rfl (HG0.out.trans hw)) (HF.out.r 6 rfl (HG0.out.trans hw)) (HF.out.r 7 rfl (HG0.out.trans hw)) (HF.out.r 8 rfl (HG0.out.trans hw)) (HF.out.r 9 rfl (HG0.out.trans hw)) (HF.out.r 10 rfl (HG0.out.trans hw)) (HF.out.r 11 rfl (HG0.out.trans hw))) ?_
  iterate 2 refine tk ?_
  iterate 9 refine sk ?_
  refine tk ?_
  refine wpPlan_nil (hT.out _ _ ?_)
  intro G vw1 hg hf
  simp only [puts, Act.put, lA, lB, lC, lD, lE, ↓reduceIte, Nat.reduceEqDiff]
  have HG := Lib.hid (HF.out.gr (HG0.out.trans hg))
  clear hT T HF hg hf HG0 lx33 lx34 lx35
  go_wp2
  refine kO hK ?_; clear hK K
  refine fH ((((((((((((((((HG.out).er 14).er 13).er 12).er 11).er 10).er 9).er 8).er 7).er 6).er 5).er 4).er 3).er 2).er 1).er 0) fun Wx1 HF => ?_
  clear HG
  refine wp_ret ?_
  try simp only [Exit.then, Exit.inBlock]
  exact bodyPost_ret (v := .bool false) (by simp [results, Tryz.results83, go_sem]) rfl ⟨rfl, HF.out.1⟩
set_option maxRecDepth 20000 in
set_option maxHeartbeats 2000000 in
theorem rpon_yes (a1 a2 b1 b2 p1 p2 : Rat) (t u : Int) (r : Bool) (va11 va12 va21 va22 vb11 vb12 vb21 vb22 vp11 vp12 vp21 vp22 : Value) (w : World) (ht : Hid (turn a1 a2 b1 b2 p1 p2 = t)) (h0 : (t == 0) = true) (hu : Hid (sgQ ((a1 - p1) * (b1 - p1) + (a2 - p2) * (b2 - p2)) = u)) (hr : decide (u ≤ 0) = r) (hs_a1 : rz a1 ≤ 1000000) (hs_a2 : rz a2 ≤ 1000000) (hs_b1 : rz b1 ≤ 1000000) (hs_b2 : rz b2 ≤ 1000000) (hs_p1 : rz p1 ≤ 1000000) (hs_p2 : rz p2 ≤ 1000000) (bx21 : Rn w va11 (Int.natAbs ((a1).num))) (bx22 : Rn w va12 ((a1).den - 1)) (bx23 : Rn w va21 (Int.natAbs ((a2).num))) (bx24 : Rn w va22 ((a2).den - 1)) (bx25 : Rn w vb11 (Int.natAbs ((b1).num))) (bx26 : Rn w vb12 ((b1).den - 1)) (bx27 : Rn w vb21 (Int.natAbs ((b2).num))) (bx28 : Rn w vb22 ((b2).den - 1)) (bx29 : Rn w vp11 (Int.natAbs ((p1).num))) (bx30 : Rn w vp12 ((p1).den - 1)) (bx31 : Rn w vp21 (Int.natAbs ((p2).num))) (bx32 : Rn w vp22 ((p2).den - 1)) :
    Calls Tryz.prog 83 #[(Value.agg #[.bool (decide ((a1).num < 0)), va11, va12, .bool (decide ((a2).num < 0)), va21, va22]), (Value.agg #[.bool (decide ((b1).num < 0)), vb11, vb12, .bool (decide ((b2).num < 0)), vb21, vb22]), (Value.agg #[.bool (decide ((p1).num < 0)), vp11, vp12, .bool (decide ((p2).num < 0)), vp21, vp22])] w fun e w' => e = .returned (.bool (r)) ∧ Below w.heap.size w w' := by
  obtain ⟨ao_va11, n_va11, c_va11, rfl⟩ := Rn.sl bx21
  obtain ⟨ao_va12, n_va12, c_va12, rfl⟩ := Rn.sl bx22
  obtain ⟨ao_va21, n_va21, c_va21, rfl⟩ := Rn.sl bx23
  obtain ⟨ao_va22, n_va22, c_va22, rfl⟩ := Rn.sl bx24
  obtain ⟨ao_vb11, n_vb11, c_vb11, rfl⟩ := Rn.sl bx25
  obtain ⟨ao_vb12, n_vb12, c_vb12, rfl⟩ := Rn.sl bx26
  obtain ⟨ao_vb21, n_vb21, c_vb21, rfl⟩ := Rn.sl bx27
  obtain ⟨ao_vb22, n_vb22, c_vb22, rfl⟩ := Rn.sl bx28
  obtain ⟨ao_vp11, n_vp11, c_vp11, rfl⟩ := Rn.sl bx29
  obtain ⟨ao_vp12, n_vp12, c_vp12, rfl⟩ := Rn.sl bx30
  obtain ⟨ao_vp21, n_vp21, c_vp21, rfl⟩ := Rn.sl bx31
  obtain ⟨ao_vp22, n_vp22, c_vp22, rfl⟩ := Rn.sl bx32
  go_enter Tryz.func83, Tryz.ntmps83
  have HF := Lib.hid (hp0 w)
  replace HF := Lib.hid ((((((((((((HF.out.ar bx21).ar bx22).ar bx23).ar bx24).ar bx25).ar bx26).ar bx27).ar bx28).ar bx29).ar bx30).ar bx31).ar bx32)
  simp only [lF, lG] at HF
  clear bx21 bx22 bx23 bx24 bx25 bx26 bx27 bx28 bx29 bx30 bx31 bx32
  refine kS fun K hK => ?_
  refine wp_region_lit ?_
  go_wp2
  refine kO hK ?_; clear hK K
  refine fH ((((HF.out).aL (w.heap.size)).aL (w.heap.size + 1)).aL (w.heap.size + 1 + 1)) fun Wx0 HG => ?_
  clear HF; have HF := HG; clear HG
  generalize w.heap.size + 1 + 1 = gx35 at *
  generalize w.heap.size + 1 = gx34 at *
  obtain ⟨u1, HZ1⟩ : ∃ z, Hid ((a1) - (p1) = z) := ⟨_, Lib.hid rfl⟩
  have su1 : rz u1 ≤ 2000001 := by rw [← HZ1.out]; have := rz_sub (a1) (p1); omega
  obtain ⟨u2, HZ2⟩ : ∃ z, Hid ((a2) - (p2) = z) := ⟨_, Lib.hid rfl⟩
  have su2 : rz u2 ≤ 2000001 := by rw [← HZ2.out]; have := rz_sub (a2) (p2); omega
  obtain ⟨u3, HZ3⟩ : ∃ z, Hid ((b1) - (p1) = z) := ⟨_, Lib.hid rfl⟩
  have su3 : rz u3 ≤ 2000001 := by rw [← HZ3.out]; have := rz_sub (b1) (p1); omega
  obtain ⟨u4, HZ4⟩ : ∃ z, Hid ((b2) - (p2) = z) := ⟨_, Lib.hid rfl⟩
  have su4 : rz u4 ≤ 2000001 := by rw [← HZ4.out]; have := rz_sub (b2) (p2); omega
  obtain ⟨u5, HZ5⟩ : ∃ z, Hid ((u1) * (u3) + (u2) * (u4) = z) := ⟨_, Lib.hid rfl⟩
  have su5 : rz u5 ≤ 8000005 := by rw [← HZ5.out]; have := rz_dot (u1) (u2) (u3) (u4); omega
  have lx33 := HF.out.c 12 rfl
  have lx34 := HF.out.c 13 rfl
  have lx35 := HF.out.c 14 rfl
  refine kS fun K hK => ?_
  have HG0 : Hid (Gr Wx0 Wx0) := Lib.hid (Gr.refl _)
  refine pd 16 [(true, 0), (true, 1), (true, 2), (true, 3), (true, 4), (true, 5), (true, 6), (true, 7), (true, 9), (true, 10), (false, 8), (false, 11), (false, 12), (true, 13), (true, 14), (true, 15)] fun T hT => ?_
  iterate 3 refine tk ?_
  refine ck Tryz.call191 (fun w' hw => rpturn (a1) (a2) (b1) (b2) (p1) (p2) (t) _ _ _ _ _ _ _ _ _ _ _ _ _ (ht.out) (by omega) (by omega) (by omega) (by omega) (by omega) (by omega) (HF.out.r 0 rfl (HG0.out.trans hw)) (HF.out.r 1 rfl (HG0.out.trans hw)) (HF.out.r 2 rfl (HG0.out.trans hw)) (HF.out.r 3 rfl (HG0.out.trans hw)) (HF.out.r 4 rfl (HG0.out.trans hw)) (HF.out.r 5 rfl (HG0.out.trans hw)) (HF.out.r 6 rfl (HG0.out.trans hw)) (HF.out.r 7 rfl (HG0.out.trans hw)) (HF.out.r 8 rfl (HG0.out.trans hw)) (HF.out.r 9 rfl (HG0.out.trans hw)) (HF.out.r 10 rfl (HG0.out.trans hw)) (HF.out.r 11 rfl (HG0.out.trans hw))) ?_
  iterate 6 refine tk ?_
  refine wpPlan_callE rfl (by rfl) Tryz.call86 (by rfl) (fun w' hw => (rpsub (a1) (a2) (p1) (p2) (u1) (u2) _ _ _ _ _ _ _ _ _ HZ1.out HZ2.out (by omega) (by omega) (by omega) (by omega) (HF.out.r 0 rfl (HG0.out.trans hw)) (HF.out.r 1 rfl (HG0.out.trans hw)) (HF.out.r 2 rfl (HG0.out.trans hw)) (HF.out.r 3 rfl (HG0.out.trans hw)) (HF.out.r 8 rfl (HG0.out.trans hw)) (HF.out.r 9 rfl (HG0.out.trans hw)) (HF.out.r 10 rfl (HG0.out.trans hw)) (HF.out.r 11 rfl (HG0.out.trans hw))).mono ?_)
  rintro e vv37 ⟨⟨rv1, rv2, rv3, rv4, rfl, bx37, bx38, bx39, bx40⟩, hg0⟩
  obtain ⟨ao1, nn1, cc1, rfl⟩ := Rn.sl bx37
  obtain ⟨ao2, nn2, cc2, rfl⟩ := Rn.sl bx38
  obtain ⟨ao3, nn3, cc3, rfl⟩ := Rn.sl bx39
  obtain ⟨ao4, nn4, cc4, rfl⟩ := Rn.sl bx40
  refine ⟨_, rfl, hg0, ?_⟩
  replace hg0 := Gr.trans hw hg0; clear hw
  replace HG0 := Lib.hid (HG0.out.trans hg0)
  have HGS := Lib.hid hg0; clear hg0
  clear HGS
  have RN37 := Lib.hid bx37; clear bx37
  have RN38 := Lib.hid bx38; clear bx38
  have RN39 := Lib.hid bx39; clear bx39
  have RN40 := Lib.hid bx40; clear bx40
  clear lx33; have lx33 := fun w' (h : Gr _ w') => HF.out.c 12 rfl w' (HG0.out.trans h)
  clear lx34; have lx34 := fun w' (h : Gr _ w') => HF.out.c 13 rfl w' (HG0.out.trans h)
  clear lx35; have lx35 := fun w' (h : Gr _ w') => HF.out.c 14 rfl w' (HG0.out.trans h)
  simp only [Act.put, lA, lB, lC]
  refine wpPlan_callE rfl (by rfl) Tryz.call86 (by rfl) (fun w' hw => (rpsub (b1) (b2) (p1) (p2) (u3) (u4) _ _ _ _ _ _ _ _ _ HZ3.out HZ4.out (by omega) (by omega) (by omega) (by omega) (HF.out.r 4 rfl (HG0.out.trans hw)) (HF.out.r 5 rfl (HG0.out.trans hw)) (HF.out.r 6 rfl (HG0.out.trans hw)) (HF.out.r 7 rfl (HG0.out.trans hw)) (HF.out.r 8 rfl (HG0.out.trans hw)) (HF.out.r 9 rfl (HG0.out.trans hw)) (HF.out.r 10 rfl (HG0.out.trans hw)) (HF.out.r 11 rfl (HG0.out.trans hw))).mono ?_)
  rintro e vv41 ⟨⟨rv5, rv6, rv7, rv8, rfl, bx41, bx42, bx43, bx44⟩, hg0⟩
  obtain ⟨ao5, nn5, cc5, rfl⟩ := Rn.sl bx41
  obtain ⟨ao6, nn6, cc6, rfl⟩ := Rn.sl bx42
  obtain ⟨ao7, nn7, cc7, rfl⟩ := Rn.sl bx43
  obtain ⟨ao8, nn8, cc8, rfl⟩ := Rn.sl bx44
  refine ⟨_, rfl, hg0, ?_⟩
  replace hg0 := Gr.trans hw hg0; clear hw
  replace HG0 := Lib.hid (HG0.out.trans hg0)
  have HGS := Lib.hid hg0; clear hg0
  replace RN37 := Lib.hid (RN37.out.gr HGS.out)
  replace RN38 := Lib.hid (RN38.out.gr HGS.out)
  replace RN39 := Lib.hid (RN39.out.gr HGS.out)
  replace RN40 := Lib.hid (RN40.out.gr HGS.out)
  clear HGS
  have RN41 := Lib.hid bx41; clear bx41
  have RN42 := Lib.hid bx42; clear bx42
  have RN43 := Lib.hid bx43; clear bx43
  have RN44 := Lib.hid bx44; clear bx44
  clear lx33; have lx33 := fun w' (h : Gr _ w') => HF.out.c 12 rfl w' (HG0.out.trans h)
  clear lx34; have lx34 := fun w' (h : Gr _ w') => HF.out.c 13 rfl w' (HG0.out.trans h)
  clear lx35; have lx35 := fun w' (h : Gr _ w') => HF.out.c 14 rfl w' (HG0.out.trans h)
  simp only [Act.put, lA, lB, lC]
  refine wpPlan_callE rfl (by rfl) Tryz.call192 (by rfl) (fun w' hw => (rpdot (u1) (u2) (u3) (u4) (u5) _ _ _ _ _ _ _ _ _ HZ5.out (by omega) (by omega) (by omega) (by omega) (RN37.out.gr hw) (RN38.out.gr hw) (RN39.out.gr hw) (RN40.out.gr hw) (RN41.out.gr hw) (RN42.out.gr hw) (RN43.out.gr hw) (RN44.out.gr hw)).mono ?_)
  rintro e vv45 ⟨⟨rv9, rv10, rfl, bx45, bx46⟩, hg0⟩
  obtain ⟨ao9, nn9, cc9, rfl⟩ := Rn.sl bx45
  obtain ⟨ao10, nn10, cc10, rfl⟩ := Rn.sl bx46
  refine ⟨_, rfl, hg0, ?_⟩
  replace hg0 := Gr.trans hw hg0; clear hw
  replace HG0 := Lib.hid (HG0.out.trans hg0)
  have HGS := Lib.hid hg0; clear hg0
  replace RN37 := Lib.hid (RN37.out.gr HGS.out)
  replace RN38 := Lib.hid (RN38.out.gr HGS.out)
  replace RN39 := Lib.hid (RN39.out.gr HGS.out)
  replace RN40 := Lib.hid (RN40.out.gr HGS.out)
  replace RN41 := Lib.hid (RN41.out.gr HGS.out)
  replace RN42 := Lib.hid (RN42.out.gr HGS.out)
  replace RN43 := Lib.hid (RN43.out.gr HGS.out)
  replace RN44 := Lib.hid (RN44.out.gr HGS.out)
  clear HGS
  have RN45 := Lib.hid bx45; clear bx45
  have RN46 := Lib.hid bx46; clear bx46
  clear lx33; have lx33 := fun w' (h : Gr _ w') => HF.out.c 12 rfl w' (HG0.out.trans h)
  clear lx34; have lx34 := fun w' (h : Gr _ w') => HF.out.c 13 rfl w' (HG0.out.trans h)
  clear lx35; have lx35 := fun w' (h : Gr _ w') => HF.out.c 14 rfl w' (HG0.out.trans h)
  simp only [Act.put, lA, lB, lC]
  refine ck Tryz.call88 (fun w' hw => qsign_any (u5) (u) _ _ _ (by simp only [← HZ5.out, ← HZ4.out, ← HZ3.out, ← HZ2.out, ← HZ1.out]; exact hu.out) (RN45.out.gr hw) (RN46.out.gr hw)) ?_
  iterate 2 refine tk ?_
  refine wpPlan_nil (hT.out _ _ ?_)
  intro G vw1 hg hf
  simp only [puts, Act.put, lA, lB, lC, lD, lE, ↓reduceIte, Nat.reduceEqDiff]
  have HG := Lib.hid (((((((((((HF.out.gr (HG0.out.trans hg)).ar (RN37.out.gr hg)).ar (RN38.out.gr hg)).ar (RN39.out.gr hg)).ar (RN40.out.gr hg)).ar (RN41.out.gr hg)).ar (RN42.out.gr hg)).ar (RN43.out.gr hg)).ar (RN44.out.gr hg)).ar (RN45.out.gr hg)).ar (RN46.out.gr hg))
  simp only [zq1_, zq2_, zq3_, zq4_, lF, lG] at HG
  clear hT T HF hg hf HG0 RN37 RN38 RN39 RN40 RN41 RN42 RN43 RN44 RN45 RN46 lx33 lx34 lx35
  go_wp2
  refine kO hK ?_; clear hK K
  refine fH ((((((((((((((((((((((((((HG.out).er 24).er 23).er 22).er 21).er 20).er 19).er 18).er 17).er 16).er 15).er 14).er 13).er 12).er 11).er 10).er 9).er 8).er 7).er 6).er 5).er 4).er 3).er 2).er 1).er 0) fun Wx1 HF => ?_
  clear HG
  refine wp_ret ?_
  try simp only [Exit.then, Exit.inBlock]
  exact bodyPost_ret (v := .bool (r)) (by simp [results, Tryz.results83, go_sem]) rfl ⟨rfl, HF.out.1⟩
def onR (a1 a2 b1 b2 p1 p2 : Rat) : Bool := (turn a1 a2 b1 b2 p1 p2 == 0) && decide (sgQ ((a1 - p1) * (b1 - p1) + (a2 - p2) * (b2 - p2)) ≤ 0)
theorem rpon (a1 a2 b1 b2 p1 p2 : Rat) (r : Bool) (va11 va12 va21 va22 vb11 vb12 vb21 vb22 vp11 vp12 vp21 vp22 : Value) (w : World) (hr : onR a1 a2 b1 b2 p1 p2 = r) (hs_a1 : rz a1 ≤ 1000000) (hs_a2 : rz a2 ≤ 1000000) (hs_b1 : rz b1 ≤ 1000000) (hs_b2 : rz b2 ≤ 1000000) (hs_p1 : rz p1 ≤ 1000000) (hs_p2 : rz p2 ≤ 1000000) (bx21 : Rn w va11 (Int.natAbs ((a1).num))) (bx22 : Rn w va12 ((a1).den - 1)) (bx23 : Rn w va21 (Int.natAbs ((a2).num))) (bx24 : Rn w va22 ((a2).den - 1)) (bx25 : Rn w vb11 (Int.natAbs ((b1).num))) (bx26 : Rn w vb12 ((b1).den - 1)) (bx27 : Rn w vb21 (Int.natAbs ((b2).num))) (bx28 : Rn w vb22 ((b2).den - 1)) (bx29 : Rn w vp11 (Int.natAbs ((p1).num))) (bx30 : Rn w vp12 ((p1).den - 1)) (bx31 : Rn w vp21 (Int.natAbs ((p2).num))) (bx32 : Rn w vp22 ((p2).den - 1)) :
    Calls Tryz.prog 83 #[(Value.agg #[.bool (decide ((a1).num < 0)), va11, va12, .bool (decide ((a2).num < 0)), va21, va22]), (Value.agg #[.bool (decide ((b1).num < 0)), vb11, vb12, .bool (decide ((b2).num < 0)), vb21, vb22]), (Value.agg #[.bool (decide ((p1).num < 0)), vp11, vp12, .bool (decide ((p2).num < 0)), vp21, vp22])] w fun e w' => e = .returned (.bool r) ∧ Below w.heap.size w w' := by
  unfold onR at hr
  cases h0 : (turn a1 a2 b1 b2 p1 p2 == 0)
  · rw [h0] at hr
    rw [← hr]
    exact rpon_no a1 a2 b1 b2 p1 p2 _ va11 va12 va21 va22 vb11 vb12 vb21 vb22 vp11 vp12 vp21 vp22 w (Lib.hid rfl) h0 hs_a1 hs_a2 hs_b1 hs_b2 hs_p1 hs_p2 bx21 bx22 bx23 bx24 bx25 bx26 bx27 bx28 bx29 bx30 bx31 bx32
  · rw [h0, Bool.true_and] at hr
    exact rpon_yes a1 a2 b1 b2 p1 p2 _ _ r va11 va12 va21 va22 vb11 vb12 vb21 vb22 vp11 vp12 vp21 vp22 w (Lib.hid rfl) h0 (Lib.hid rfl) hr hs_a1 hs_a2 hs_b1 hs_b2 hs_p1 hs_p2 bx21 bx22 bx23 bx24 bx25 bx26 bx27 bx28 bx29 bx30 bx31 bx32
end Go.Proofs.YtobojnodohjiaaaGreatDoor
