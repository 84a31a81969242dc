
/- RootsBoth: the law's walk. -/
import Derived.Test.YtaflakcemiilaaaGreatDoorRot6
import Derived.Test.YtaflakcemiilaaaGreatDoorRRot3
import Derived.Test.YtaflakcemiilaaaGreatDoorPN
namespace Go.Proofs.YtaflakcemiilaaaGreatDoor
open Go.RowKit
set_option linter.unusedSimpArgs false
set_option linter.unusedVariables false
attribute [local go_sem ↓] Go.wp_at_zero Go.wp_at_succ
attribute [local go_sem ↓] eq_nat eq_nat_zero eq_int eq_frac eq_frac_zero
attribute [local go_sem] Instr.field asAgg
set_option maxRecDepth 100000 in
set_option maxHeartbeats 8000000 in
theorem bothl_lo (n d : Int) (a : Rat) (p : Int) (z0 : Rat) (w : World) (HA0 : Hid (qv n d = a)) (hsa : sz a ≤ 4) (hra : rz a ≤ 10) (h1 : -9223372036854775808 ≤ n) (h2 : n ≤ 9223372036854775807) (h3 : 0 ≤ d) (h4 : d ≤ 4294967295) (hp : p < 0) (HZ0 : Hid ((0 : Rat) = z0)) (hz0 : sz z0 ≤ 1) (hrz : rz z0 ≤ 1) (HT : Hid (Tab w)) :
    Calls Tryz.prog 4 #[(Value.agg #[.int .i64 (n), .int .u32 (d)]), .int .i64 (p)] w fun e w' => e = .returned (.bool true) ∧ Below w.heap.size w w' := by
  go_enter Tryz.func4, Tryz.ntmps4
  have HF := Lib.hid (hp0 w)
  refine kS fun K hK => ?_
  refine wp_region_lit ?_
  go_wp2
  refine hK.out _ _ ?_; clear hK K
  show Code.wp _ _ _ _ _
  refine fH ((HF.out).al (b := w.heap.size) (by first | rfl | simp) (by decide)) fun Wx0 HG => ?_
  clear HF; have HF := HG; clear HG
  refine wp_seq ?_
  have hd1 : ¬ (40 < p) := by first | exact ok | exact HAN0.out | exact HL.out | exact HH.out
  refine kS fun K hK => ?_
  refine sq 6 [(true, 0), (true, 1), (true, 2), (true, 3), (true, 4), (true, 5)] fun T hT => ?_
  iterate 3 refine tk ?_
  iterate 2 refine sk ?_
  refine tk ?_
  refine nlS hT HF fun vw1 HG => ?_
  clear hT T HF
  go_wp2
  refine hK.out _ _ ?_; clear hK K
  show Code.wp _ _ _ _ _
  have HF := HG; clear HG
  clear hd1
  refine wp_cond_false (by rfl) ?_
  refine wp_skip ?_
  show Code.wp _ _ _ _ _
  have HZ1 : Hid (qv (n) (d) = a) := Lib.hid (HA0.out)
  have su1 : sz (a) ≤ 4 := by have e := HZ1.out; first | omega | (rw [← e]; exact sz_qv (n) (d) om om om om)
  have lx0 := HF.out.c 0 rfl
  refine kS fun K hK => ?_
  refine sq 7 [(true, 0), (true, 1), (true, 2), (true, 3), (true, 4), (true, 5), (true, 6)] fun T hT => ?_
  refine tk ?_
  refine ck Tryz.call24 (fun w' hw => qv_any (n) (d) (a) _ HZ1.out om om om om) ?_
  refine tk ?_
  refine ck Tryz.call23 (fun w' hw => zzBelow_lo (a) z0 (p) _ (by omega) HZ0.out) ?_
  iterate 3 refine tk ?_
  refine nlS hT HF fun vw2 HG => ?_
  clear hT T HF lx0
  go_wp2
  refine hK.out _ _ ?_; clear hK K
  show Code.wp _ _ _ _ _
  refine fH ((HG.out).al (b := vw2.heap.size) (by first | rfl | simp) (by decide)) fun Wx3 HF => ?_
  clear HG
  generalize vw2.heap.size = gx2 at *
  have HZ2 : Hid (qv (n) (d) = a) := Lib.hid (HA0.out)
  have su2 : sz (a) ≤ 4 := by have e := HZ2.out; first | omega | (rw [← e]; exact sz_qv (n) (d) om om om om)
  have lx0 := HF.out.c 0 rfl
  refine kS fun K hK => ?_
  refine sq 7 [(true, 0), (true, 1), (true, 2), (true, 3), (true, 4), (true, 5), (true, 6)] fun T hT => ?_
  refine tk ?_
  refine ck Tryz.call24 (fun w' hw => qv_any (n) (d) (a) _ HZ2.out om om om om) ?_
  refine tk ?_
  refine ck Tryz.call25 (fun w' hw => zzAbove_lo (a) z0 (p) _ (by omega) HZ0.out) ?_
  iterate 3 refine tk ?_
  refine nlS hT HF fun vw3 HG => ?_
  clear hT T HF lx0
  go_wp2
  refine hK.out _ _ ?_; clear hK K
  show Code.wp _ _ _ _ _
  refine fH ((HG.out).al (b := vw3.heap.size) (by first | rfl | simp) (by decide)) fun Wx4 HF => ?_
  clear HG
  generalize vw3.heap.size = gx3 at *
  have HZ3 : Hid (qv (n) (d) = a) := Lib.hid (HA0.out)
  have su3 : rz (a) ≤ 10 := by have e := HZ3.out; first | omega | (rw [← e]; exact rz_qv (n) (d) om om om om)
  have lx0 := HF.out.c 0 rfl
  refine kS fun K hK => ?_
  have HG0 : Hid (Gr Wx4 Wx4) := Lib.hid (Gr.refl _)
  refine sq 8 [(true, 0), (false, 1), (true, 2), (false, 3), (true, 4), (true, 5), (true, 6), (true, 7)] fun T hT => ?_
  refine tk ?_
  refine wpPlan_callE rfl (by rfl) Tryz.call27 (by rfl) (fun w' hw => (rqv_any (n) (d) (a) _ HZ3.out om om om om).mono ?_)
  rintro e vv4 ⟨⟨rv1, rv2, rfl, bx4, bx5⟩, hg0⟩
  obtain ⟨ao1, nn1, cc1, rfl⟩ := Rn.sl bx4
  obtain ⟨ao2, nn2, cc2, rfl⟩ := Rn.sl bx5
  refine ⟨_, rfl, hg0, ?_⟩
  replace hg0 := Gr.trans hw hg0; clear hw
  replace HG0 := Lib.hid (HG0.out.trans hg0)
  have HGS := Lib.hid hg0; clear hg0
  clear HGS
  have RN4 := Lib.hid bx4; clear bx4
  have RN5 := Lib.hid bx5; clear bx5
  clear lx0; have lx0 := fun w' (h : Gr _ w') => HF.out.c 0 rfl w' (HG0.out.trans h)
  simp only [Act.put, lA, lB, lC]
  refine tk ?_
  refine wpPlan_callE rfl (by rfl) Tryz.call26 (by rfl) (fun w' hw => (rbothz_lo (a) z0 (p) _ _ _ (by omega) HZ0.out (RN4.out.gr hw) (RN5.out.gr hw)).mono ?_)
  rintro e vv6 ⟨⟨rv3, rv4, rv5, rv6, rfl, bx6, bx7, bx8, bx9⟩, hg0⟩
  obtain ⟨ao3, nn3, cc3, rfl⟩ := Rn.sl bx6
  obtain ⟨ao4, nn4, cc4, rfl⟩ := Rn.sl bx7
  obtain ⟨ao5, nn5, cc5, rfl⟩ := Rn.sl bx8
  obtain ⟨ao6, nn6, cc6, rfl⟩ := Rn.sl bx9
  refine ⟨_, rfl, hg0, ?_⟩
  replace hg0 := Gr.trans hw hg0; clear hw
  replace HG0 := Lib.hid (HG0.out.trans hg0)
  have HGS := Lib.hid hg0; clear hg0
  replace RN4 := Lib.hid (RN4.out.gr HGS.out)
  replace RN5 := Lib.hid (RN5.out.gr HGS.out)
  clear HGS
  have RN6 := Lib.hid bx6; clear bx6
  have RN7 := Lib.hid bx7; clear bx7
  have RN8 := Lib.hid bx8; clear bx8
  have RN9 := Lib.hid bx9; clear bx9
  clear lx0; have lx0 := fun w' (h : Gr _ w') => HF.out.c 0 rfl w' (HG0.out.trans h)
  simp only [Act.put, lA, lB, lC]
  iterate 4 refine tk ?_
  refine wpPlan_nil (hT.out _ _ ?_)
  intro vw4 hg
  simp only [puts, Act.put, lA, lB, lC, lD, lE, ↓reduceIte, Nat.reduceEqDiff]
  have HG := Lib.hid (((((((HF.out.gr (HG0.out.trans hg)).ar (RN4.out.gr hg)).ar (RN5.out.gr hg)).ar (RN6.out.gr hg)).ar (RN7.out.gr hg)).ar (RN8.out.gr hg)).ar (RN9.out.gr hg))
  simp only [List.zip_cons_cons, List.zip_nil_right, List.map_cons, List.map_nil, lF, lG] at HG
  clear hT T HF hg HG0 RN4 RN5 RN6 RN7 RN8 RN9 lx0
  go_wp2
  refine hK.out _ _ ?_; clear hK K
  show Code.wp _ _ _ _ _
  refine fH ((((((HG.out).al (b := vw4.heap.size) (by first | rfl | simp) (by decide)).al (b := vw4.heap.size + 1) (by first | rfl | simp) (by decide)).er 4).er 3).er 0) fun Wx5 HF => ?_
  clear HG
  generalize vw4.heap.size + 1 = gx11 at *
  generalize vw4.heap.size = gx10 at *
  have HB := HPb HF
  have lx2 := HF.out.c 0 rfl
  have lx3 := HF.out.c 1 rfl
  have lx10 := HF.out.c 6 rfl
  have lx11 := HF.out.c 7 rfl
  refine kS fun K hK => ?_
  refine sq 22 [(true, 0), (true, 1), (true, 2), (true, 3), (true, 4), (true, 5), (true, 6), (true, 7), (true, 8), (true, 9), (true, 10), (true, 11), (true, 12), (true, 13), (true, 14), (true, 15), (true, 16), (true, 17), (true, 18), (true, 19), (true, 20), (true, 21)] fun T hT => ?_
  iterate 2 refine tk ?_
  refine ck Tryz.call28 (fun w' hw => fsame_any (z0) _ _ _ om (by omega) (HF.out.r 2 rfl hw) (HF.out.r 3 rfl hw) (Lib.hid (HT.out.gr (Gr.trans HB.out hw)))) ?_
  iterate 3 refine tk ?_
  refine ck Tryz.call28 (fun w' hw => fsame_any (z0) _ _ _ om (by omega) (HF.out.r 4 rfl hw) (HF.out.r 5 rfl hw) (Lib.hid (HT.out.gr (Gr.trans HB.out hw)))) ?_
  iterate 12 refine tk ?_
  refine ck Tryz.call22 (fun w' hw => works5_any _ (Lib.hid (HT.out.gr (Gr.trans HB.out hw)))) ?_
  iterate 2 refine tk ?_
  refine nlS hT HF fun vw5 HG => ?_
  clear hT T HF lx2 lx3 lx10 lx11 HB
  go_wp2
  refine hK.out _ _ ?_; clear hK K
  show Code.wp _ _ _ _ _
  refine fH (((((((((HG.out).er 7).er 6).er 5).er 4).er 3).er 2).er 1).er 0) fun Wx6 HF => ?_
  clear HG
  refine wp_ret ?_
  try simp only [Exit.then, Exit.inBlock]
  exact bodyPost_ret (v := .bool true) (by simp [results, Tryz.results4, go_sem]) rfl ⟨rfl, HF.out.1⟩

set_option maxRecDepth 100000 in
set_option maxHeartbeats 8000000 in
theorem bothl_far (n d : Int) (a : Rat) (p : Int) (z0 : Rat) (w : World) (HA0 : Hid (qv n d = a)) (hsa : sz a ≤ 4) (hra : rz a ≤ 10) (h1 : -9223372036854775808 ≤ n) (h2 : n ≤ 9223372036854775807) (h3 : 0 ≤ d) (h4 : d ≤ 4294967295) (hp : 100 < p) (HZ0 : Hid ((0 : Rat) = z0)) (hz0 : sz z0 ≤ 1) (hrz : rz z0 ≤ 1) (HT : Hid (Tab w)) :
    Calls Tryz.prog 4 #[(Value.agg #[.int .i64 (n), .int .u32 (d)]), .int .i64 (p)] w fun e w' => e = .returned (.bool true) ∧ Below w.heap.size w w' := by
  go_enter Tryz.func4, Tryz.ntmps4
  have HF := Lib.hid (hp0 w)
  refine kS fun K hK => ?_
  refine wp_region_lit ?_
  go_wp2
  refine hK.out _ _ ?_; clear hK K
  show Code.wp _ _ _ _ _
  refine fH ((HF.out).al (b := w.heap.size) (by first | rfl | simp) (by decide)) fun Wx0 HG => ?_
  clear HF; have HF := HG; clear HG
  refine wp_seq ?_
  have hd1 : 40 < p := by first | exact ok | exact HAN0.out | exact HL.out | exact HH.out
  have hd2 : ¬ (p ≤ 100) := by first | exact ok | exact HAN0.out | exact HL.out | exact HH.out
  refine kS fun K hK => ?_
  refine sq 6 [(true, 0), (true, 1), (true, 2), (true, 3), (true, 4), (true, 5)] fun T hT => ?_
  iterate 6 refine tk ?_
  refine nlS hT HF fun vw1 HG => ?_
  clear hT T HF
  go_wp2
  refine hK.out _ _ ?_; clear hK K
  show Code.wp _ _ _ _ _
  have HF := HG; clear HG
  clear hd1 hd2
  refine wp_cond_false (by rfl) ?_
  refine wp_skip ?_
  show Code.wp _ _ _ _ _
  have HZ1 : Hid (qv (n) (d) = a) := Lib.hid (HA0.out)
  have su1 : sz (a) ≤ 4 := by have e := HZ1.out; first | omega | (rw [← e]; exact sz_qv (n) (d) om om om om)
  have lx0 := HF.out.c 0 rfl
  refine kS fun K hK => ?_
  refine sq 7 [(true, 0), (true, 1), (true, 2), (true, 3), (true, 4), (true, 5), (true, 6)] fun T hT => ?_
  refine tk ?_
  refine ck Tryz.call24 (fun w' hw => qv_any (n) (d) (a) _ HZ1.out om om om om) ?_
  refine tk ?_
  refine ck Tryz.call23 (fun w' hw => zzBelow_far (a) z0 (p) _ (by omega) HZ0.out) ?_
  iterate 3 refine tk ?_
  refine nlS hT HF fun vw2 HG => ?_
  clear hT T HF lx0
  go_wp2
  refine hK.out _ _ ?_; clear hK K
  show Code.wp _ _ _ _ _
  refine fH ((HG.out).al (b := vw2.heap.size) (by first | rfl | simp) (by decide)) fun Wx3 HF => ?_
  clear HG
  generalize vw2.heap.size = gx2 at *
  have HZ2 : Hid (qv (n) (d) = a) := Lib.hid (HA0.out)
  have su2 : sz (a) ≤ 4 := by have e := HZ2.out; first | omega | (rw [← e]; exact sz_qv (n) (d) om om om om)
  have lx0 := HF.out.c 0 rfl
  refine kS fun K hK => ?_
  refine sq 7 [(true, 0), (true, 1), (true, 2), (true, 3), (true, 4), (true, 5), (true, 6)] fun T hT => ?_
  refine tk ?_
  refine ck Tryz.call24 (fun w' hw => qv_any (n) (d) (a) _ HZ2.out om om om om) ?_
  refine tk ?_
  refine ck Tryz.call25 (fun w' hw => zzAbove_far (a) z0 (p) _ (by omega) HZ0.out) ?_
  iterate 3 refine tk ?_
  refine nlS hT HF fun vw3 HG => ?_
  clear hT T HF lx0
  go_wp2
  refine hK.out _ _ ?_; clear hK K
  show Code.wp _ _ _ _ _
  refine fH ((HG.out).al (b := vw3.heap.size) (by first | rfl | simp) (by decide)) fun Wx4 HF => ?_
  clear HG
  generalize vw3.heap.size = gx3 at *
  have HZ3 : Hid (qv (n) (d) = a) := Lib.hid (HA0.out)
  have su3 : rz (a) ≤ 10 := by have e := HZ3.out; first | omega | (rw [← e]; exact rz_qv (n) (d) om om om om)
  have lx0 := HF.out.c 0 rfl
  refine kS fun K hK => ?_
  have HG0 : Hid (Gr Wx4 Wx4) := Lib.hid (Gr.refl _)
  refine sq 8 [(true, 0), (false, 1), (true, 2), (false, 3), (true, 4), (true, 5), (true, 6), (true, 7)] fun T hT => ?_
  refine tk ?_
  refine wpPlan_callE rfl (by rfl) Tryz.call27 (by rfl) (fun w' hw => (rqv_any (n) (d) (a) _ HZ3.out om om om om).mono ?_)
  rintro e vv4 ⟨⟨rv1, rv2, rfl, bx4, bx5⟩, hg0⟩
  obtain ⟨ao1, nn1, cc1, rfl⟩ := Rn.sl bx4
  obtain ⟨ao2, nn2, cc2, rfl⟩ := Rn.sl bx5
  refine ⟨_, rfl, hg0, ?_⟩
  replace hg0 := Gr.trans hw hg0; clear hw
  replace HG0 := Lib.hid (HG0.out.trans hg0)
  have HGS := Lib.hid hg0; clear hg0
  clear HGS
  have RN4 := Lib.hid bx4; clear bx4
  have RN5 := Lib.hid bx5; clear bx5
  clear lx0; have lx0 := fun w' (h : Gr _ w') => HF.out.c 0 rfl w' (HG0.out.trans h)
  simp only [Act.put, lA, lB, lC]
  refine tk ?_
  refine wpPlan_callE rfl (by rfl) Tryz.call26 (by rfl) (fun w' hw => (rbothz_far (a) z0 (p) _ _ _ (by omega) HZ0.out (RN4.out.gr hw) (RN5.out.gr hw)).mono ?_)
  rintro e vv6 ⟨⟨rv3, rv4, rv5, rv6, rfl, bx6, bx7, bx8, bx9⟩, hg0⟩
  obtain ⟨ao3, nn3, cc3, rfl⟩ := Rn.sl bx6
  obtain ⟨ao4, nn4, cc4, rfl⟩ := Rn.sl bx7
  obtain ⟨ao5, nn5, cc5, rfl⟩ := Rn.sl bx8
  obtain ⟨ao6, nn6, cc6, rfl⟩ := Rn.sl bx9
  refine ⟨_, rfl, hg0, ?_⟩
  replace hg0 := Gr.trans hw hg0; clear hw
  replace HG0 := Lib.hid (HG0.out.trans hg0)
  have HGS := Lib.hid hg0; clear hg0
  replace RN4 := Lib.hid (RN4.out.gr HGS.out)
  replace RN5 := Lib.hid (RN5.out.gr HGS.out)
  clear HGS
  have RN6 := Lib.hid bx6; clear bx6
  have RN7 := Lib.hid bx7; clear bx7
  have RN8 := Lib.hid bx8; clear bx8
  have RN9 := Lib.hid bx9; clear bx9
  clear lx0; have lx0 := fun w' (h : Gr _ w') => HF.out.c 0 rfl w' (HG0.out.trans h)
  simp only [Act.put, lA, lB, lC]
  iterate 4 refine tk ?_
  refine wpPlan_nil (hT.out _ _ ?_)
  intro vw4 hg
  simp only [puts, Act.put, lA, lB, lC, lD, lE, ↓reduceIte, Nat.reduceEqDiff]
  have HG := Lib.hid (((((((HF.out.gr (HG0.out.trans hg)).ar (RN4.out.gr hg)).ar (RN5.out.gr hg)).ar (RN6.out.gr hg)).ar (RN7.out.gr hg)).ar (RN8.out.gr hg)).ar (RN9.out.gr hg))
  simp only [List.zip_cons_cons, List.zip_nil_right, List.map_cons, List.map_nil, lF, lG] at HG
  clear hT T HF hg HG0 RN4 RN5 RN6 RN7 RN8 RN9 lx0
  go_wp2
  refine hK.out _ _ ?_; clear hK K
  show Code.wp _ _ _ _ _
  refine fH ((((((HG.out).al (b := vw4.heap.size) (by first | rfl | simp) (by decide)).al (b := vw4.heap.size + 1) (by first | rfl | simp) (by decide)).er 4).er 3).er 0) fun Wx5 HF => ?_
  clear HG
  generalize vw4.heap.size + 1 = gx11 at *
  generalize vw4.heap.size = gx10 at *
  have HB := HPb HF
  have lx2 := HF.out.c 0 rfl
  have lx3 := HF.out.c 1 rfl
  have lx10 := HF.out.c 6 rfl
  have lx11 := HF.out.c 7 rfl
  refine kS fun K hK => ?_
  refine sq 22 [(true, 0), (true, 1), (true, 2), (true, 3), (true, 4), (true, 5), (true, 6), (true, 7), (true, 8), (true, 9), (true, 10), (true, 11), (true, 12), (true, 13), (true, 14), (true, 15), (true, 16), (true, 17), (true, 18), (true, 19), (true, 20), (true, 21)] fun T hT => ?_
  iterate 2 refine tk ?_
  refine ck Tryz.call28 (fun w' hw => fsame_any (z0) _ _ _ om (by omega) (HF.out.r 2 rfl hw) (HF.out.r 3 rfl hw) (Lib.hid (HT.out.gr (Gr.trans HB.out hw)))) ?_
  iterate 3 refine tk ?_
  refine ck Tryz.call28 (fun w' hw => fsame_any (z0) _ _ _ om (by omega) (HF.out.r 4 rfl hw) (HF.out.r 5 rfl hw) (Lib.hid (HT.out.gr (Gr.trans HB.out hw)))) ?_
  iterate 12 refine tk ?_
  refine ck Tryz.call22 (fun w' hw => works5_any _ (Lib.hid (HT.out.gr (Gr.trans HB.out hw)))) ?_
  iterate 2 refine tk ?_
  refine nlS hT HF fun vw5 HG => ?_
  clear hT T HF lx2 lx3 lx10 lx11 HB
  go_wp2
  refine hK.out _ _ ?_; clear hK K
  show Code.wp _ _ _ _ _
  refine fH (((((((((HG.out).er 7).er 6).er 5).er 4).er 3).er 2).er 1).er 0) fun Wx6 HF => ?_
  clear HG
  refine wp_ret ?_
  try simp only [Exit.then, Exit.inBlock]
  exact bodyPost_ret (v := .bool true) (by simp [results, Tryz.results4, go_sem]) rfl ⟨rfl, HF.out.1⟩

set_option maxRecDepth 100000 in
set_option maxHeartbeats 8000000 in
theorem bothl_mid (n d : Int) (a : Rat) (p : Int) (w : World) (HA0 : Hid (qv n d = a)) (hsa : sz a ≤ 4) (hra : rz a ≤ 10) (h1 : -9223372036854775808 ≤ n) (h2 : n ≤ 9223372036854775807) (h3 : 0 ≤ d) (h4 : d ≤ 4294967295) (hp : 40 < p) (hp2 : p ≤ 100) (HT : Hid (Tab w)) :
    Calls Tryz.prog 4 #[(Value.agg #[.int .i64 (n), .int .u32 (d)]), .int .i64 (p)] w fun e w' => e = .returned (.bool true) ∧ Below w.heap.size w w' := by
  go_enter Tryz.func4, Tryz.ntmps4
  have HF := Lib.hid (hp0 w)
  refine kS fun K hK => ?_
  refine wp_region_lit ?_
  go_wp2
  refine hK.out _ _ ?_; clear hK K
  show Code.wp _ _ _ _ _
  refine fH ((HF.out).al (b := w.heap.size) (by first | rfl | simp) (by decide)) fun Wx0 HG => ?_
  clear HF; have HF := HG; clear HG
  refine wp_seq ?_
  have hd1 : 40 < p := by first | exact ok | exact HAN0.out | exact HL.out | exact HH.out
  have hd2 : p ≤ 100 := by first | exact ok | exact HAN0.out | exact HL.out | exact HH.out
  refine kS fun K hK => ?_
  refine sq 6 [(true, 0), (true, 1), (true, 2), (true, 3), (true, 4), (true, 5)] fun T hT => ?_
  iterate 6 refine tk ?_
  refine nlS hT HF fun vw1 HG => ?_
  clear hT T HF
  go_wp2
  refine hK.out _ _ ?_; clear hK K
  show Code.wp _ _ _ _ _
  have HF := HG; clear HG
  clear hd1 hd2
  refine wp_cond_true (by rfl) ?_
  have HB := HPb HF
  refine kS fun K hK => ?_
  refine sq 2 [(true, 0), (true, 1)] fun T hT => ?_
  refine ck Tryz.call22 (fun w' hw => works5_any _ (Lib.hid (HT.out.gr (Gr.trans HB.out hw)))) ?_
  refine tk ?_
  refine nlS hT HF fun vw2 HG => ?_
  clear hT T HF HB
  go_wp2
  refine hK.out _ _ ?_; clear hK K
  show Code.wp _ _ _ _ _
  have HF := HG; clear HG
  refine wp_ret ?_
  try simp only [Exit.then, Exit.inBlock]
  exact bodyPost_ret (v := .bool true) (by simp [results, Tryz.results4, go_sem]) rfl ⟨rfl, HF.out.1⟩

set_option maxRecDepth 100000 in
set_option maxHeartbeats 8000000 in
theorem bothl_neg (n d : Int) (a : Rat) (k : Nat) (z0 : Rat) (w : World) (HA0 : Hid (qv n d = a)) (hsa : sz a ≤ 4) (hra : rz a ≤ 10) (h1 : -9223372036854775808 ≤ n) (h2 : n ≤ 9223372036854775807) (h3 : 0 ≤ d) (h4 : d ≤ 4294967295) (hk : k ≤ 40) (HAN0 : Hid (a < 0)) (HZ0 : Hid ((0 : Rat) = z0)) (hz0 : sz z0 ≤ 1) (hrz : rz z0 ≤ 1) (HT : Hid (Tab w)) :
    Calls Tryz.prog 4 #[(Value.agg #[.int .i64 (n), .int .u32 (d)]), .int .i64 (((k : Nat) : Int))] w fun e w' => e = .returned (.bool true) ∧ Below w.heap.size w w' := by
  go_enter Tryz.func4, Tryz.ntmps4
  have HF := Lib.hid (hp0 w)
  refine kS fun K hK => ?_
  refine wp_region_lit ?_
  go_wp2
  refine hK.out _ _ ?_; clear hK K
  show Code.wp _ _ _ _ _
  refine fH ((HF.out).al (b := w.heap.size) (by first | rfl | simp) (by decide)) fun Wx0 HG => ?_
  clear HF; have HF := HG; clear HG
  refine wp_seq ?_
  have hd1 : ¬ (40 < (((k : Nat) : Int))) := by first | exact ok | exact HAN0.out | exact HL.out | exact HH.out
  refine kS fun K hK => ?_
  refine sq 6 [(true, 0), (true, 1), (true, 2), (true, 3), (true, 4), (true, 5)] fun T hT => ?_
  iterate 3 refine tk ?_
  iterate 2 refine sk ?_
  refine tk ?_
  refine nlS hT HF fun vw1 HG => ?_
  clear hT T HF
  go_wp2
  refine hK.out _ _ ?_; clear hK K
  show Code.wp _ _ _ _ _
  have HF := HG; clear HG
  clear hd1
  refine wp_cond_false (by rfl) ?_
  refine wp_skip ?_
  show Code.wp _ _ _ _ _
  have HZ1 : Hid (qv (n) (d) = a) := Lib.hid (HA0.out)
  have su1 : sz (a) ≤ 4 := by have e := HZ1.out; first | omega | (rw [← e]; exact sz_qv (n) (d) om om om om)
  have lx0 := HF.out.c 0 rfl
  refine kS fun K hK => ?_
  refine sq 7 [(true, 0), (true, 1), (true, 2), (true, 3), (true, 4), (true, 5), (true, 6)] fun T hT => ?_
  refine tk ?_
  refine ck Tryz.call24 (fun w' hw => qv_any (n) (d) (a) _ HZ1.out om om om om) ?_
  refine tk ?_
  refine ck Tryz.call23 (fun w' hw => zzBelow_neg (a) z0 k _ (by first | exact ok | exact HAN0.out | exact HL.out | exact HH.out) (by omega) HZ0.out) ?_
  iterate 3 refine tk ?_
  refine nlS hT HF fun vw2 HG => ?_
  clear hT T HF lx0
  go_wp2
  refine hK.out _ _ ?_; clear hK K
  show Code.wp _ _ _ _ _
  refine fH ((HG.out).al (b := vw2.heap.size) (by first | rfl | simp) (by decide)) fun Wx3 HF => ?_
  clear HG
  generalize vw2.heap.size = gx2 at *
  have HZ2 : Hid (qv (n) (d) = a) := Lib.hid (HA0.out)
  have su2 : sz (a) ≤ 4 := by have e := HZ2.out; first | omega | (rw [← e]; exact sz_qv (n) (d) om om om om)
  have lx0 := HF.out.c 0 rfl
  refine kS fun K hK => ?_
  refine sq 7 [(true, 0), (true, 1), (true, 2), (true, 3), (true, 4), (true, 5), (true, 6)] fun T hT => ?_
  refine tk ?_
  refine ck Tryz.call24 (fun w' hw => qv_any (n) (d) (a) _ HZ2.out om om om om) ?_
  refine tk ?_
  refine ck Tryz.call25 (fun w' hw => zzAbove_neg (a) z0 k _ (by first | exact ok | exact HAN0.out | exact HL.out | exact HH.out) (by omega) HZ0.out) ?_
  iterate 3 refine tk ?_
  refine nlS hT HF fun vw3 HG => ?_
  clear hT T HF lx0
  go_wp2
  refine hK.out _ _ ?_; clear hK K
  show Code.wp _ _ _ _ _
  refine fH ((HG.out).al (b := vw3.heap.size) (by first | rfl | simp) (by decide)) fun Wx4 HF => ?_
  clear HG
  generalize vw3.heap.size = gx3 at *
  have HZ3 : Hid (qv (n) (d) = a) := Lib.hid (HA0.out)
  have su3 : rz (a) ≤ 10 := by have e := HZ3.out; first | omega | (rw [← e]; exact rz_qv (n) (d) om om om om)
  have lx0 := HF.out.c 0 rfl
  refine kS fun K hK => ?_
  have HG0 : Hid (Gr Wx4 Wx4) := Lib.hid (Gr.refl _)
  refine sq 8 [(true, 0), (false, 1), (true, 2), (false, 3), (true, 4), (true, 5), (true, 6), (true, 7)] fun T hT => ?_
  refine tk ?_
  refine wpPlan_callE rfl (by rfl) Tryz.call27 (by rfl) (fun w' hw => (rqv_any (n) (d) (a) _ HZ3.out om om om om).mono ?_)
  rintro e vv4 ⟨⟨rv1, rv2, rfl, bx4, bx5⟩, hg0⟩
  obtain ⟨ao1, nn1, cc1, rfl⟩ := Rn.sl bx4
  obtain ⟨ao2, nn2, cc2, rfl⟩ := Rn.sl bx5
  refine ⟨_, rfl, hg0, ?_⟩
  replace hg0 := Gr.trans hw hg0; clear hw
  replace HG0 := Lib.hid (HG0.out.trans hg0)
  have HGS := Lib.hid hg0; clear hg0
  clear HGS
  have RN4 := Lib.hid bx4; clear bx4
  have RN5 := Lib.hid bx5; clear bx5
  clear lx0; have lx0 := fun w' (h : Gr _ w') => HF.out.c 0 rfl w' (HG0.out.trans h)
  simp only [Act.put, lA, lB, lC]
  refine tk ?_
  refine wpPlan_callE rfl (by rfl) Tryz.call26 (by rfl) (fun w' hw => (rbothz_neg (a) z0 k _ _ _ (by omega) (by first | exact ok | exact HAN0.out | exact HL.out | exact HH.out) HZ0.out (RN4.out.gr hw) (RN5.out.gr hw)).mono ?_)
  rintro e vv6 ⟨⟨rv3, rv4, rv5, rv6, rfl, bx6, bx7, bx8, bx9⟩, hg0⟩
  obtain ⟨ao3, nn3, cc3, rfl⟩ := Rn.sl bx6
  obtain ⟨ao4, nn4, cc4, rfl⟩ := Rn.sl bx7
  obtain ⟨ao5, nn5, cc5, rfl⟩ := Rn.sl bx8
  obtain ⟨ao6, nn6, cc6, rfl⟩ := Rn.sl bx9
  refine ⟨_, rfl, hg0, ?_⟩
  replace hg0 := Gr.trans hw hg0; clear hw
  replace HG0 := Lib.hid (HG0.out.trans hg0)
  have HGS := Lib.hid hg0; clear hg0
  replace RN4 := Lib.hid (RN4.out.gr HGS.out)
  replace RN5 := Lib.hid (RN5.out.gr HGS.out)
  clear HGS
  have RN6 := Lib.hid bx6; clear bx6
  have RN7 := Lib.hid bx7; clear bx7
  have RN8 := Lib.hid bx8; clear bx8
  have RN9 := Lib.hid bx9; clear bx9
  clear lx0; have lx0 := fun w' (h : Gr _ w') => HF.out.c 0 rfl w' (HG0.out.trans h)
  simp only [Act.put, lA, lB, lC]
  iterate 4 refine tk ?_
  refine wpPlan_nil (hT.out _ _ ?_)
  intro vw4 hg
  simp only [puts, Act.put, lA, lB, lC, lD, lE, ↓reduceIte, Nat.reduceEqDiff]
  have HG := Lib.hid (((((((HF.out.gr (HG0.out.trans hg)).ar (RN4.out.gr hg)).ar (RN5.out.gr hg)).ar (RN6.out.gr hg)).ar (RN7.out.gr hg)).ar (RN8.out.gr hg)).ar (RN9.out.gr hg))
  simp only [List.zip_cons_cons, List.zip_nil_right, List.map_cons, List.map_nil, lF, lG] at HG
  clear hT T HF hg HG0 RN4 RN5 RN6 RN7 RN8 RN9 lx0
  go_wp2
  refine hK.out _ _ ?_; clear hK K
  show Code.wp _ _ _ _ _
  refine fH ((((((HG.out).al (b := vw4.heap.size) (by first | rfl | simp) (by decide)).al (b := vw4.heap.size + 1) (by first | rfl | simp) (by decide)).er 4).er 3).er 0) fun Wx5 HF => ?_
  clear HG
  generalize vw4.heap.size + 1 = gx11 at *
  generalize vw4.heap.size = gx10 at *
  have HB := HPb HF
  have lx2 := HF.out.c 0 rfl
  have lx3 := HF.out.c 1 rfl
  have lx10 := HF.out.c 6 rfl
  have lx11 := HF.out.c 7 rfl
  refine kS fun K hK => ?_
  refine sq 22 [(true, 0), (true, 1), (true, 2), (true, 3), (true, 4), (true, 5), (true, 6), (true, 7), (true, 8), (true, 9), (true, 10), (true, 11), (true, 12), (true, 13), (true, 14), (true, 15), (true, 16), (true, 17), (true, 18), (true, 19), (true, 20), (true, 21)] fun T hT => ?_
  iterate 2 refine tk ?_
  refine ck Tryz.call28 (fun w' hw => fsame_any (z0) _ _ _ om (by omega) (HF.out.r 2 rfl hw) (HF.out.r 3 rfl hw) (Lib.hid (HT.out.gr (Gr.trans HB.out hw)))) ?_
  iterate 3 refine tk ?_
  refine ck Tryz.call28 (fun w' hw => fsame_any (z0) _ _ _ om (by omega) (HF.out.r 4 rfl hw) (HF.out.r 5 rfl hw) (Lib.hid (HT.out.gr (Gr.trans HB.out hw)))) ?_
  iterate 12 refine tk ?_
  refine ck Tryz.call22 (fun w' hw => works5_any _ (Lib.hid (HT.out.gr (Gr.trans HB.out hw)))) ?_
  iterate 2 refine tk ?_
  refine nlS hT HF fun vw5 HG => ?_
  clear hT T HF lx2 lx3 lx10 lx11 HB
  go_wp2
  refine hK.out _ _ ?_; clear hK K
  show Code.wp _ _ _ _ _
  refine fH (((((((((HG.out).er 7).er 6).er 5).er 4).er 3).er 2).er 1).er 0) fun Wx6 HF => ?_
  clear HG
  refine wp_ret ?_
  try simp only [Exit.then, Exit.inBlock]
  exact bodyPost_ret (v := .bool true) (by simp [results, Tryz.results4, go_sem]) rfl ⟨rfl, HF.out.1⟩

set_option maxRecDepth 100000 in
set_option maxHeartbeats 8000000 in
theorem bothl_ok (n d : Int) (a : Rat) (k : Nat) (l h : Rat) (w : World) (HA0 : Hid (qv n d = a)) (hsa : sz a ≤ 4) (hra : rz a ≤ 10) (h1 : -9223372036854775808 ≤ n) (h2 : n ≤ 9223372036854775807) (h3 : 0 ≤ d) (h4 : d ≤ 4294967295) (hk : k ≤ 40) (HAN0 : Hid (0 ≤ a)) (HAN : Hid (a < tq 32 * tq 32)) (HL : Hid (rlo a k = l)) (HH : Hid (rhi a k = h)) (hsl : sz l ≤ 20) (hsh : sz h ≤ 20) (hrl : rz l ≤ 60) (hrh : rz h ≤ 60) (HT : Hid (Tab w)) :
    Calls Tryz.prog 4 #[(Value.agg #[.int .i64 (n), .int .u32 (d)]), .int .i64 (((k : Nat) : Int))] w fun e w' => e = .returned (.bool true) ∧ Below w.heap.size w w' := by
  go_enter Tryz.func4, Tryz.ntmps4
  have HF := Lib.hid (hp0 w)
  refine kS fun K hK => ?_
  refine wp_region_lit ?_
  go_wp2
  refine hK.out _ _ ?_; clear hK K
  show Code.wp _ _ _ _ _
  refine fH ((HF.out).al (b := w.heap.size) (by first | rfl | simp) (by decide)) fun Wx0 HG => ?_
  clear HF; have HF := HG; clear HG
  refine wp_seq ?_
  have hd1 : ¬ (40 < (((k : Nat) : Int))) := by first | exact ok | exact HAN0.out | exact HL.out | exact HH.out
  refine kS fun K hK => ?_
  refine sq 6 [(true, 0), (true, 1), (true, 2), (true, 3), (true, 4), (true, 5)] fun T hT => ?_
  iterate 3 refine tk ?_
  iterate 2 refine sk ?_
  refine tk ?_
  refine nlS hT HF fun vw1 HG => ?_
  clear hT T HF
  go_wp2
  refine hK.out _ _ ?_; clear hK K
  show Code.wp _ _ _ _ _
  have HF := HG; clear HG
  clear hd1
  refine wp_cond_false (by rfl) ?_
  refine wp_skip ?_
  show Code.wp _ _ _ _ _
  have HZ1 : Hid (qv (n) (d) = a) := Lib.hid (HA0.out)
  have su1 : sz (a) ≤ 4 := by have e := HZ1.out; first | omega | (rw [← e]; exact sz_qv (n) (d) om om om om)
  have HZ2 : Hid (rlo (a) k = l) := Lib.hid (by first | exact ok | exact HAN0.out | exact HL.out | exact HH.out)
  have su2 : sz (l) ≤ 14 := by have e := HZ2.out; first | omega | (rw [← e]; exact Nat.le_trans (sz_rlo (by omega) om) (by omega))
  have lx0 := HF.out.c 0 rfl
  refine kS fun K hK => ?_
  refine sq 7 [(true, 0), (true, 1), (true, 2), (true, 3), (true, 4), (true, 5), (true, 6)] fun T hT => ?_
  refine tk ?_
  refine ck Tryz.call24 (fun w' hw => qv_any (n) (d) (a) _ HZ1.out om om om om) ?_
  refine tk ?_
  refine ck Tryz.call23 (fun w' hw => rBelow_ok (a) (l) k _ (Lib.hid (by first | exact ok | exact HAN0.out | exact HL.out | exact HH.out)) (Lib.hid HZ2.out) (by omega) om) ?_
  iterate 3 refine tk ?_
  refine nlS hT HF fun vw2 HG => ?_
  clear hT T HF lx0
  go_wp2
  refine hK.out _ _ ?_; clear hK K
  show Code.wp _ _ _ _ _
  refine fH ((HG.out).al (b := vw2.heap.size) (by first | rfl | simp) (by decide)) fun Wx3 HF => ?_
  clear HG
  generalize vw2.heap.size = gx2 at *
  have HZ3 : Hid (qv (n) (d) = a) := Lib.hid (HA0.out)
  have su3 : sz (a) ≤ 4 := by have e := HZ3.out; first | omega | (rw [← e]; exact sz_qv (n) (d) om om om om)
  have HZ4 : Hid (rhi (a) k = h) := Lib.hid (by first | exact ok | exact HAN0.out | exact HL.out | exact HH.out)
  have su4 : sz (h) ≤ 14 := by have e := HZ4.out; first | omega | (rw [← e]; exact Nat.le_trans (sz_rhi (by omega) om) (by omega))
  have lx0 := HF.out.c 0 rfl
  refine kS fun K hK => ?_
  refine sq 7 [(true, 0), (true, 1), (true, 2), (true, 3), (true, 4), (true, 5), (true, 6)] fun T hT => ?_
  refine tk ?_
  refine ck Tryz.call24 (fun w' hw => qv_any (n) (d) (a) _ HZ3.out om om om om) ?_
  refine tk ?_
  refine ck Tryz.call25 (fun w' hw => rAbove_ok (a) (h) k _ (Lib.hid (by first | exact ok | exact HAN0.out | exact HL.out | exact HH.out)) (Lib.hid HZ4.out) (by omega) om) ?_
  iterate 3 refine tk ?_
  refine nlS hT HF fun vw3 HG => ?_
  clear hT T HF lx0
  go_wp2
  refine hK.out _ _ ?_; clear hK K
  show Code.wp _ _ _ _ _
  refine fH ((HG.out).al (b := vw3.heap.size) (by first | rfl | simp) (by decide)) fun Wx4 HF => ?_
  clear HG
  generalize vw3.heap.size = gx3 at *
  have HZ5 : Hid (qv (n) (d) = a) := Lib.hid (HA0.out)
  have su5 : rz (a) ≤ 10 := by have e := HZ5.out; first | omega | (rw [← e]; exact rz_qv (n) (d) om om om om)
  have HZ6 : Hid (rlo (a) k = l) := Lib.hid (by first | exact ok | exact HAN0.out | exact HL.out | exact HH.out)
  have su6 : rz (l) ≤ 100 := by have e := HZ6.out; first | omega | (rw [← e]; omega)
  have HZ7 : Hid (rhi (a) k = h) := Lib.hid (by first | exact ok | exact HAN0.out | exact HL.out | exact HH.out)
  have su7 : rz (h) ≤ 100 := by have e := HZ7.out; first | omega | (rw [← e]; omega)
  have lx0 := HF.out.c 0 rfl
  refine kS fun K hK => ?_
  have HG0 : Hid (Gr Wx4 Wx4) := Lib.hid (Gr.refl _)
  refine sq 8 [(true, 0), (false, 1), (true, 2), (false, 3), (true, 4), (true, 5), (true, 6), (true, 7)] fun T hT => ?_
  refine tk ?_
  refine wpPlan_callE rfl (by rfl) Tryz.call27 (by rfl) (fun w' hw => (rqv_any (n) (d) (a) _ HZ5.out om om om om).mono ?_)
  rintro e vv4 ⟨⟨rv1, rv2, rfl, bx4, bx5⟩, hg0⟩
  obtain ⟨ao1, nn1, cc1, rfl⟩ := Rn.sl bx4
  obtain ⟨ao2, nn2, cc2, rfl⟩ := Rn.sl bx5
  refine ⟨_, rfl, hg0, ?_⟩
  replace hg0 := Gr.trans hw hg0; clear hw
  replace HG0 := Lib.hid (HG0.out.trans hg0)
  have HGS := Lib.hid hg0; clear hg0
  clear HGS
  have RN4 := Lib.hid bx4; clear bx4
  have RN5 := Lib.hid bx5; clear bx5
  clear lx0; have lx0 := fun w' (h : Gr _ w') => HF.out.c 0 rfl w' (HG0.out.trans h)
  simp only [Act.put, lA, lB, lC]
  refine tk ?_
  refine wpPlan_callE rfl (by rfl) Tryz.call26 (by rfl) (fun w' hw => (rboth (a) (l) (h) k 32 _ _ _ (by first | exact ok | exact HAN0.out | exact HL.out | exact HH.out) HAN.out (by decide) HZ6.out HZ7.out (by omega) (by omega) (by omega) (RN4.out.gr hw) (RN5.out.gr hw)).mono ?_)
  rintro e vv6 ⟨⟨rv3, rv4, rv5, rv6, rfl, bx6, bx7, bx8, bx9⟩, hg0⟩
  obtain ⟨ao3, nn3, cc3, rfl⟩ := Rn.sl bx6
  obtain ⟨ao4, nn4, cc4, rfl⟩ := Rn.sl bx7
  obtain ⟨ao5, nn5, cc5, rfl⟩ := Rn.sl bx8
  obtain ⟨ao6, nn6, cc6, rfl⟩ := Rn.sl bx9
  refine ⟨_, rfl, hg0, ?_⟩
  replace hg0 := Gr.trans hw hg0; clear hw
  replace HG0 := Lib.hid (HG0.out.trans hg0)
  have HGS := Lib.hid hg0; clear hg0
  replace RN4 := Lib.hid (RN4.out.gr HGS.out)
  replace RN5 := Lib.hid (RN5.out.gr HGS.out)
  clear HGS
  have RN6 := Lib.hid bx6; clear bx6
  have RN7 := Lib.hid bx7; clear bx7
  have RN8 := Lib.hid bx8; clear bx8
  have RN9 := Lib.hid bx9; clear bx9
  clear lx0; have lx0 := fun w' (h : Gr _ w') => HF.out.c 0 rfl w' (HG0.out.trans h)
  simp only [Act.put, lA, lB, lC]
  iterate 4 refine tk ?_
  refine wpPlan_nil (hT.out _ _ ?_)
  intro vw4 hg
  simp only [puts, Act.put, lA, lB, lC, lD, lE, ↓reduceIte, Nat.reduceEqDiff]
  have HG := Lib.hid (((((((HF.out.gr (HG0.out.trans hg)).ar (RN4.out.gr hg)).ar (RN5.out.gr hg)).ar (RN6.out.gr hg)).ar (RN7.out.gr hg)).ar (RN8.out.gr hg)).ar (RN9.out.gr hg))
  simp only [List.zip_cons_cons, List.zip_nil_right, List.map_cons, List.map_nil, lF, lG] at HG
  clear hT T HF hg HG0 RN4 RN5 RN6 RN7 RN8 RN9 lx0
  go_wp2
  refine hK.out _ _ ?_; clear hK K
  show Code.wp _ _ _ _ _
  refine fH ((((((HG.out).al (b := vw4.heap.size) (by first | rfl | simp) (by decide)).al (b := vw4.heap.size + 1) (by first | rfl | simp) (by decide)).er 4).er 3).er 0) fun Wx5 HF => ?_
  clear HG
  generalize vw4.heap.size + 1 = gx11 at *
  generalize vw4.heap.size = gx10 at *
  have HB := HPb HF
  have lx2 := HF.out.c 0 rfl
  have lx3 := HF.out.c 1 rfl
  have lx10 := HF.out.c 6 rfl
  have lx11 := HF.out.c 7 rfl
  refine kS fun K hK => ?_
  refine sq 22 [(true, 0), (true, 1), (true, 2), (true, 3), (true, 4), (true, 5), (true, 6), (true, 7), (true, 8), (true, 9), (true, 10), (true, 11), (true, 12), (true, 13), (true, 14), (true, 15), (true, 16), (true, 17), (true, 18), (true, 19), (true, 20), (true, 21)] fun T hT => ?_
  iterate 2 refine tk ?_
  refine ck Tryz.call28 (fun w' hw => fsame_any (l) _ _ _ om (by omega) (HF.out.r 2 rfl hw) (HF.out.r 3 rfl hw) (Lib.hid (HT.out.gr (Gr.trans HB.out hw)))) ?_
  iterate 3 refine tk ?_
  refine ck Tryz.call28 (fun w' hw => fsame_any (h) _ _ _ om (by omega) (HF.out.r 4 rfl hw) (HF.out.r 5 rfl hw) (Lib.hid (HT.out.gr (Gr.trans HB.out hw)))) ?_
  iterate 12 refine tk ?_
  refine ck Tryz.call22 (fun w' hw => works5_any _ (Lib.hid (HT.out.gr (Gr.trans HB.out hw)))) ?_
  iterate 2 refine tk ?_
  refine nlS hT HF fun vw5 HG => ?_
  clear hT T HF lx2 lx3 lx10 lx11 HB
  go_wp2
  refine hK.out _ _ ?_; clear hK K
  show Code.wp _ _ _ _ _
  refine fH (((((((((HG.out).er 7).er 6).er 5).er 4).er 3).er 2).er 1).er 0) fun Wx6 HF => ?_
  clear HG
  refine wp_ret ?_
  try simp only [Exit.then, Exit.inBlock]
  exact bodyPost_ret (v := .bool true) (by simp [results, Tryz.results4, go_sem]) rfl ⟨rfl, HF.out.1⟩

theorem both_law (n d p : Int) (w : World) (h1 : -9223372036854775808 ≤ n) (h2 : n ≤ 9223372036854775807) (h3 : 0 ≤ d) (h4 : d ≤ 4294967295) (HT : Hid (Tab w)) :
    Calls Tryz.prog 4 #[.agg #[.int .i64 n, .int .u32 d], .int .i64 p] w fun e w' => e = .returned (.bool true) ∧ Below w.heap.size w w' := by
  have hs := sz_qv n d h1 h2 h3 h4
  have hr := rz_qv n d h1 h2 h3 h4
  have hN := qv_lt n d h2 h3
  have z1 : sz (0 : Rat) ≤ 1 := sz_of (wl_le.2 (by decide +kernel)) (wl_le.2 (by decide +kernel))
  have z2 : rz (0 : Rat) ≤ 1 := rz_of (tw_le.2 (by decide +kernel)) (tw_le.2 (by decide +kernel))
  by_cases c1 : p < 0
  · exact bothl_lo n d _ p _ w (Lib.hid rfl) hs hr h1 h2 h3 h4 c1 (Lib.hid rfl) z1 z2 HT
  · by_cases c2 : 100 < p
    · exact bothl_far n d _ p _ w (Lib.hid rfl) hs hr h1 h2 h3 h4 c2 (Lib.hid rfl) z1 z2 HT
    · by_cases c3 : 40 < p
      · exact bothl_mid n d _ p w (Lib.hid rfl) hs hr h1 h2 h3 h4 c3 (by omega) HT
      · obtain ⟨k, rfl⟩ : ∃ k : Nat, p = (k : Int) := ⟨p.toNat, by omega⟩
        by_cases c4 : qv n d < 0
        · exact bothl_neg n d _ k _ w (Lib.hid rfl) hs hr h1 h2 h3 h4 (by omega) (Lib.hid c4) (Lib.hid rfl) z1 z2 HT
        · have e1 := sz_rlo (k := k) (by omega) hs
          have e2 := sz_rhi (k := k) (by omega) hs
          have e3 := rz_rlo (k := k) (by omega) hs
          have e4 := rz_rhi (k := k) (by omega) hs
          exact bothl_ok n d _ k _ _ w (Lib.hid rfl) hs hr h1 h2 h3 h4 (by omega) (Lib.hid (by grind)) (Lib.hid hN) (Lib.hid rfl) (Lib.hid rfl) (by omega) (by omega) (by omega) (by omega) HT

end Go.Proofs.YtaflakcemiilaaaGreatDoor
