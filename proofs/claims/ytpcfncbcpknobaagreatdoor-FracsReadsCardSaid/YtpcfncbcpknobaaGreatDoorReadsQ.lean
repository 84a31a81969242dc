
/- FracsReads: the law's walk. -/
import Derived.Test.YtpcfncbcpknobaaGreatDoorWorksQ
import Derived.Test.YtpcfncbcpknobaaGreatDoorQReadsJ
namespace Go.Proofs.YtpcfncbcpknobaaGreatDoor
open Go.RowKit
set_option linter.unusedSimpArgs false
set_option linter.unusedVariables false
attribute [local go_sem ↓] Go.wp_at_zero Go.wp_at_succ
attribute [local go_sem ↓] eq_nat eq_nat_zero eq_int eq_frac eq_frac_zero
attribute [local go_sem] Instr.field asAgg
set_option maxRecDepth 100000 in
set_option maxHeartbeats 8000000 in
theorem readq_long (s : ByteArray) (w : World) (hs : 8400 < s.size) (HT : Hid (Tab w)) :
    Calls Tryz.prog 6 #[.string s] w fun e w' => e = .returned (.bool true) ∧ Below w.heap.size w w' := by
  go_enter Tryz.func6, Tryz.ntmps6
  have HF := Lib.hid (hp0 w)
  refine kS fun K hK => ?_
  refine wp_region_lit ?_
  go_wp2
  refine hK.out _ _ ?_; clear hK K
  show Code.wp _ _ _ _ _
  refine fH (HF.out) fun Wx0 HG => ?_
  clear HF; have HF := HG; clear HG
  refine wp_seq ?_
  have hd1 : 8400 < ((s.size : Int)) := ok
  refine kS fun K hK => ?_
  refine sq 3 [(true, 0), (true, 1), (true, 2)] fun T hT => ?_
  iterate 3 refine tk ?_
  refine nlS hT HF fun vw1 HG => ?_
  clear hT T HF
  go_wp2
  refine hK.out _ _ ?_; clear hK K
  show Code.wp _ _ _ _ _
  have HF := HG; clear HG
  clear hd1
  refine wp_cond_true (by rfl) ?_
  have HB := HPb HF
  refine kS fun K hK => ?_
  refine sq 2 [(true, 0), (true, 1)] fun T hT => ?_
  refine ck Tryz.call49 (fun w' hw => worksq_any _ (Lib.hid (HT.out.gr (Gr.trans HB.out hw)))) ?_
  refine tk ?_
  refine nlS hT HF fun vw2 HG => ?_
  clear hT T HF HB
  go_wp2
  refine hK.out _ _ ?_; clear hK K
  show Code.wp _ _ _ _ _
  have HF := HG; clear HG
  refine wp_ret ?_
  try simp only [Exit.then, Exit.inBlock]
  exact bodyPost_ret (v := .bool true) (by simp [results, Tryz.results6, go_sem]) rfl ⟨rfl, HF.out.1⟩

set_option maxRecDepth 100000 in
set_option maxHeartbeats 8000000 in
theorem readq_m0 (s : ByteArray) (z : Rat) (w : World) (hs : s.size ≤ 8400) (hs2 : 300 < s.size) (HN : Hid (fnum s = z)) (HC : Hid (fcode s = 0)) (hs1 : sz z ≤ 600) (hr1 : rz z ≤ 1100) (HT : Hid (Tab w)) :
    Calls Tryz.prog 6 #[.string s] w fun e w' => e = .returned (.bool true) ∧ Below w.heap.size w w' := by
  go_enter Tryz.func6, Tryz.ntmps6
  have HF := Lib.hid (hp0 w)
  refine kS fun K hK => ?_
  refine wp_region_lit ?_
  go_wp2
  refine hK.out _ _ ?_; clear hK K
  show Code.wp _ _ _ _ _
  refine fH (HF.out) fun Wx0 HG => ?_
  clear HF; have HF := HG; clear HG
  refine wp_seq ?_
  have hd1 : ¬ (8400 < ((s.size : Int))) := ok
  refine kS fun K hK => ?_
  refine sq 3 [(true, 0), (true, 1), (true, 2)] fun T hT => ?_
  iterate 3 refine tk ?_
  refine nlS hT HF fun vw1 HG => ?_
  clear hT T HF
  go_wp2
  refine hK.out _ _ ?_; clear hK K
  show Code.wp _ _ _ _ _
  have HF := HG; clear HG
  clear hd1
  refine wp_cond_false (by rfl) ?_
  refine wp_skip ?_
  show Code.wp _ _ _ _ _
  refine kS fun K hK => ?_
  refine sq 5 [(true, 0), (true, 1), (true, 2), (true, 3), (true, 4)] fun T hT => ?_
  refine tk ?_
  refine ck Tryz.call50 (fun w' hw => zfparse s (z) (0) _ HN.out HC.out (by omega)) ?_
  iterate 3 refine tk ?_
  refine nlS hT HF fun vw2 HG => ?_
  clear hT T HF
  go_wp2
  refine hK.out _ _ ?_; clear hK K
  show Code.wp _ _ _ _ _
  refine fH ((HG.out).al (b := vw2.heap.size) (by first | rfl | simp) (by decide)) fun Wx3 HF => ?_
  clear HG
  generalize vw2.heap.size = gx1 at *
  refine wp_seq ?_
  have hd2 : 300 < ((s.size : Int)) := ok
  refine kS fun K hK => ?_
  refine sq 3 [(true, 0), (true, 1), (true, 2)] fun T hT => ?_
  iterate 3 refine tk ?_
  refine nlS hT HF fun vw3 HG => ?_
  clear hT T HF
  go_wp2
  refine hK.out _ _ ?_; clear hK K
  show Code.wp _ _ _ _ _
  have HF := HG; clear HG
  clear hd2
  refine wp_cond_true (by rfl) ?_
  have HB := HPb HF
  have lx1 := HF.out.c 0 rfl
  refine kS fun K hK => ?_
  refine sq 11 [(true, 0), (true, 1), (true, 2), (true, 3), (true, 4), (true, 5), (true, 6), (true, 7), (true, 8), (true, 9), (true, 10)] fun T hT => ?_
  iterate 3 refine tk ?_
  iterate 3 refine sk ?_
  iterate 2 refine tk ?_
  refine ck Tryz.call49 (fun w' hw => worksq_any _ (Lib.hid (HT.out.gr (Gr.trans HB.out hw)))) ?_
  iterate 2 refine tk ?_
  refine nlS hT HF fun vw4 HG => ?_
  clear hT T HF lx1 HB
  go_wp2
  refine hK.out _ _ ?_; clear hK K
  show Code.wp _ _ _ _ _
  have HF := HG; clear HG
  refine wp_ret ?_
  try simp only [Exit.then, Exit.inBlock]
  exact bodyPost_ret (v := .bool true) (by simp [results, Tryz.results6, go_sem]) rfl ⟨rfl, HF.out.1⟩

set_option maxRecDepth 100000 in
set_option maxHeartbeats 8000000 in
theorem readq_mc (s : ByteArray) (c : Int) (w : World) (hs : s.size ≤ 8400) (hs2 : 300 < s.size) (HN : Hid (fnum s = 0)) (HC : Hid (fcode s = c)) (hc : ¬ c = 0) (HT : Hid (Tab w)) :
    Calls Tryz.prog 6 #[.string s] w fun e w' => e = .returned (.bool true) ∧ Below w.heap.size w w' := by
  have hz0 : sz (0 : Rat) ≤ 1 := sz_of (wl_le.2 (by decide +kernel)) (wl_le.2 (by decide +kernel))
  have hr0 : rz (0 : Rat) ≤ 1 := rz_of (tw_le.2 (by decide +kernel)) (tw_le.2 (by decide +kernel))
  go_enter Tryz.func6, Tryz.ntmps6
  have HF := Lib.hid (hp0 w)
  refine kS fun K hK => ?_
  refine wp_region_lit ?_
  go_wp2
  refine hK.out _ _ ?_; clear hK K
  show Code.wp _ _ _ _ _
  refine fH (HF.out) fun Wx0 HG => ?_
  clear HF; have HF := HG; clear HG
  refine wp_seq ?_
  have hd1 : ¬ (8400 < ((s.size : Int))) := ok
  refine kS fun K hK => ?_
  refine sq 3 [(true, 0), (true, 1), (true, 2)] fun T hT => ?_
  iterate 3 refine tk ?_
  refine nlS hT HF fun vw1 HG => ?_
  clear hT T HF
  go_wp2
  refine hK.out _ _ ?_; clear hK K
  show Code.wp _ _ _ _ _
  have HF := HG; clear HG
  clear hd1
  refine wp_cond_false (by rfl) ?_
  refine wp_skip ?_
  show Code.wp _ _ _ _ _
  refine kS fun K hK => ?_
  refine sq 5 [(true, 0), (true, 1), (true, 2), (true, 3), (true, 4)] fun T hT => ?_
  refine tk ?_
  refine ck Tryz.call50 (fun w' hw => zfparse s (0 : Rat) (c) _ HN.out HC.out (by omega)) ?_
  iterate 3 refine tk ?_
  refine nlS hT HF fun vw2 HG => ?_
  clear hT T HF
  go_wp2
  refine hK.out _ _ ?_; clear hK K
  show Code.wp _ _ _ _ _
  refine fH ((HG.out).al (b := vw2.heap.size) (by first | rfl | simp) (by decide)) fun Wx3 HF => ?_
  clear HG
  generalize vw2.heap.size = gx1 at *
  refine wp_seq ?_
  have hd2 : 300 < ((s.size : Int)) := ok
  refine kS fun K hK => ?_
  refine sq 3 [(true, 0), (true, 1), (true, 2)] fun T hT => ?_
  iterate 3 refine tk ?_
  refine nlS hT HF fun vw3 HG => ?_
  clear hT T HF
  go_wp2
  refine hK.out _ _ ?_; clear hK K
  show Code.wp _ _ _ _ _
  have HF := HG; clear HG
  clear hd2
  refine wp_cond_true (by rfl) ?_
  have HB := HPb HF
  have hd3 : ((c) == (0)) = false := by have : ¬ (c = 0) := (ok); simpa using this
  have lx1 := HF.out.c 0 rfl
  refine kS fun K hK => ?_
  refine sq 11 [(true, 0), (true, 1), (true, 2), (true, 3), (true, 4), (true, 5), (true, 6), (true, 7), (true, 8), (true, 9), (true, 10)] fun T hT => ?_
  iterate 8 refine tk ?_
  refine ck Tryz.call49 (fun w' hw => worksq_any _ (Lib.hid (HT.out.gr (Gr.trans HB.out hw)))) ?_
  iterate 2 refine tk ?_
  refine nlS hT HF fun vw4 HG => ?_
  clear hT T HF lx1 HB
  go_wp2
  refine hK.out _ _ ?_; clear hK K
  show Code.wp _ _ _ _ _
  have HF := HG; clear HG
  clear hd3
  refine wp_ret ?_
  try simp only [Exit.then, Exit.inBlock]
  exact bodyPost_ret (v := .bool true) (by simp [results, Tryz.results6, go_sem]) rfl ⟨rfl, HF.out.1⟩

set_option maxRecDepth 100000 in
set_option maxHeartbeats 8000000 in
theorem readq_s0 (s : ByteArray) (z : Rat) (w : World) (hs : s.size ≤ 300) (HN : Hid (fnum s = z)) (HC : Hid (fcode s = 0)) (hs1 : sz z ≤ 600) (hr1 : rz z ≤ 1100) (HT : Hid (Tab w)) :
    Calls Tryz.prog 6 #[.string s] w fun e w' => e = .returned (.bool true) ∧ Below w.heap.size w w' := by
  go_enter Tryz.func6, Tryz.ntmps6
  have HF := Lib.hid (hp0 w)
  refine kS fun K hK => ?_
  refine wp_region_lit ?_
  go_wp2
  refine hK.out _ _ ?_; clear hK K
  show Code.wp _ _ _ _ _
  refine fH (HF.out) fun Wx0 HG => ?_
  clear HF; have HF := HG; clear HG
  refine wp_seq ?_
  have hd1 : ¬ (8400 < ((s.size : Int))) := ok
  refine kS fun K hK => ?_
  refine sq 3 [(true, 0), (true, 1), (true, 2)] fun T hT => ?_
  iterate 3 refine tk ?_
  refine nlS hT HF fun vw1 HG => ?_
  clear hT T HF
  go_wp2
  refine hK.out _ _ ?_; clear hK K
  show Code.wp _ _ _ _ _
  have HF := HG; clear HG
  clear hd1
  refine wp_cond_false (by rfl) ?_
  refine wp_skip ?_
  show Code.wp _ _ _ _ _
  refine kS fun K hK => ?_
  refine sq 5 [(true, 0), (true, 1), (true, 2), (true, 3), (true, 4)] fun T hT => ?_
  refine tk ?_
  refine ck Tryz.call50 (fun w' hw => zfparse s (z) (0) _ HN.out HC.out (by omega)) ?_
  iterate 3 refine tk ?_
  refine nlS hT HF fun vw2 HG => ?_
  clear hT T HF
  go_wp2
  refine hK.out _ _ ?_; clear hK K
  show Code.wp _ _ _ _ _
  refine fH ((HG.out).al (b := vw2.heap.size) (by first | rfl | simp) (by decide)) fun Wx3 HF => ?_
  clear HG
  generalize vw2.heap.size = gx1 at *
  refine wp_seq ?_
  have hd2 : ¬ (300 < ((s.size : Int))) := ok
  refine kS fun K hK => ?_
  refine sq 3 [(true, 0), (true, 1), (true, 2)] fun T hT => ?_
  iterate 3 refine tk ?_
  refine nlS hT HF fun vw3 HG => ?_
  clear hT T HF
  go_wp2
  refine hK.out _ _ ?_; clear hK K
  show Code.wp _ _ _ _ _
  have HF := HG; clear HG
  clear hd2
  refine wp_cond_false (by rfl) ?_
  refine wp_skip ?_
  show Code.wp _ _ _ _ _
  refine kS fun K hK => ?_
  have HG0 : Hid (Gr vw3 vw3) := Lib.hid (Gr.refl _)
  refine sq 5 [(true, 0), (false, 1), (true, 2), (true, 3), (true, 4)] fun T hT => ?_
  refine tk ?_
  refine wpPlan_callE rfl (by rfl) Tryz.call51 (by rfl) (fun w' hw => (zqreads s (z) (0) _ HN.out HC.out (by omega)).mono ?_)
  rintro e vv2 ⟨⟨rv1, rv2, rfl, bx2, bx3⟩, hg0⟩
  obtain ⟨ao1, nn1, cc1, rfl⟩ := Rn.sl bx2
  obtain ⟨ao2, nn2, cc2, rfl⟩ := Rn.sl bx3
  refine ⟨_, rfl, hg0, ?_⟩
  replace hg0 := Gr.trans hw hg0; clear hw
  replace HG0 := Lib.hid (HG0.out.trans hg0)
  have HGS := Lib.hid hg0; clear hg0
  clear HGS
  have RN2 := Lib.hid bx2; clear bx2
  have RN3 := Lib.hid bx3; clear bx3
  simp only [Act.put, lA, lB, lC]
  iterate 3 refine tk ?_
  refine wpPlan_nil (hT.out _ _ ?_)
  intro vw4 hg
  simp only [puts, Act.put, lA, lB, lC, lD, lE, ↓reduceIte, Nat.reduceEqDiff]
  have HG := Lib.hid (((HF.out.gr (HG0.out.trans hg)).ar (RN2.out.gr hg)).ar (RN3.out.gr hg))
  simp only [List.zip_cons_cons, List.zip_nil_right, List.map_cons, List.map_nil, lF, lG] at HG
  clear hT T HF hg HG0 RN2 RN3
  go_wp2
  refine hK.out _ _ ?_; clear hK K
  show Code.wp _ _ _ _ _
  refine fH ((HG.out).al (b := vw4.heap.size) (by first | rfl | simp) (by decide)) fun Wx6 HF => ?_
  clear HG
  generalize vw4.heap.size = gx4 at *
  have HB := HPb HF
  have lx1 := HF.out.c 0 rfl
  have lx4 := HF.out.c 3 rfl
  refine kS fun K hK => ?_
  refine sq 12 [(true, 0), (true, 1), (true, 2), (true, 3), (true, 4), (true, 5), (true, 6), (true, 7), (true, 8), (true, 9), (true, 10), (true, 11)] fun T hT => ?_
  iterate 2 refine tk ?_
  refine ck Tryz.call52 (fun w' hw => fsame_any (z) _ _ _ om (by omega) (HF.out.r 1 rfl hw) (HF.out.r 2 rfl hw) (Lib.hid (HT.out.gr (Gr.trans HB.out hw)))) ?_
  iterate 6 refine tk ?_
  refine ck Tryz.call49 (fun w' hw => worksq_any _ (Lib.hid (HT.out.gr (Gr.trans HB.out hw)))) ?_
  iterate 2 refine tk ?_
  refine nlS hT HF fun vw5 HG => ?_
  clear hT T HF lx1 lx4 HB
  go_wp2
  refine hK.out _ _ ?_; clear hK K
  show Code.wp _ _ _ _ _
  refine fH (((((HG.out).er 3).er 2).er 1).er 0) fun Wx7 HF => ?_
  clear HG
  refine wp_ret ?_
  try simp only [Exit.then, Exit.inBlock]
  exact bodyPost_ret (v := .bool true) (by simp [results, Tryz.results6, go_sem]) rfl ⟨rfl, HF.out.1⟩

set_option maxRecDepth 100000 in
set_option maxHeartbeats 8000000 in
theorem readq_sc (s : ByteArray) (c : Int) (w : World) (hs : s.size ≤ 300) (HN : Hid (fnum s = 0)) (HC : Hid (fcode s = c)) (hc : ¬ c = 0) (HT : Hid (Tab w)) :
    Calls Tryz.prog 6 #[.string s] w fun e w' => e = .returned (.bool true) ∧ Below w.heap.size w w' := by
  have hz0 : sz (0 : Rat) ≤ 1 := sz_of (wl_le.2 (by decide +kernel)) (wl_le.2 (by decide +kernel))
  have hr0 : rz (0 : Rat) ≤ 1 := rz_of (tw_le.2 (by decide +kernel)) (tw_le.2 (by decide +kernel))
  go_enter Tryz.func6, Tryz.ntmps6
  have HF := Lib.hid (hp0 w)
  refine kS fun K hK => ?_
  refine wp_region_lit ?_
  go_wp2
  refine hK.out _ _ ?_; clear hK K
  show Code.wp _ _ _ _ _
  refine fH (HF.out) fun Wx0 HG => ?_
  clear HF; have HF := HG; clear HG
  refine wp_seq ?_
  have hd1 : ¬ (8400 < ((s.size : Int))) := ok
  refine kS fun K hK => ?_
  refine sq 3 [(true, 0), (true, 1), (true, 2)] fun T hT => ?_
  iterate 3 refine tk ?_
  refine nlS hT HF fun vw1 HG => ?_
  clear hT T HF
  go_wp2
  refine hK.out _ _ ?_; clear hK K
  show Code.wp _ _ _ _ _
  have HF := HG; clear HG
  clear hd1
  refine wp_cond_false (by rfl) ?_
  refine wp_skip ?_
  show Code.wp _ _ _ _ _
  refine kS fun K hK => ?_
  refine sq 5 [(true, 0), (true, 1), (true, 2), (true, 3), (true, 4)] fun T hT => ?_
  refine tk ?_
  refine ck Tryz.call50 (fun w' hw => zfparse s (0 : Rat) (c) _ HN.out HC.out (by omega)) ?_
  iterate 3 refine tk ?_
  refine nlS hT HF fun vw2 HG => ?_
  clear hT T HF
  go_wp2
  refine hK.out _ _ ?_; clear hK K
  show Code.wp _ _ _ _ _
  refine fH ((HG.out).al (b := vw2.heap.size) (by first | rfl | simp) (by decide)) fun Wx3 HF => ?_
  clear HG
  generalize vw2.heap.size = gx1 at *
  refine wp_seq ?_
  have hd2 : ¬ (300 < ((s.size : Int))) := ok
  refine kS fun K hK => ?_
  refine sq 3 [(true, 0), (true, 1), (true, 2)] fun T hT => ?_
  iterate 3 refine tk ?_
  refine nlS hT HF fun vw3 HG => ?_
  clear hT T HF
  go_wp2
  refine hK.out _ _ ?_; clear hK K
  show Code.wp _ _ _ _ _
  have HF := HG; clear HG
  clear hd2
  refine wp_cond_false (by rfl) ?_
  refine wp_skip ?_
  show Code.wp _ _ _ _ _
  refine kS fun K hK => ?_
  have HG0 : Hid (Gr vw3 vw3) := Lib.hid (Gr.refl _)
  refine sq 5 [(true, 0), (false, 1), (true, 2), (true, 3), (true, 4)] fun T hT => ?_
  refine tk ?_
  refine wpPlan_callE rfl (by rfl) Tryz.call51 (by rfl) (fun w' hw => (zqreads s (0 : Rat) (c) _ HN.out HC.out (by omega)).mono ?_)
  rintro e vv2 ⟨⟨rv1, rv2, rfl, bx2, bx3⟩, hg0⟩
  obtain ⟨ao1, nn1, cc1, rfl⟩ := Rn.sl bx2
  obtain ⟨ao2, nn2, cc2, rfl⟩ := Rn.sl bx3
  refine ⟨_, rfl, hg0, ?_⟩
  replace hg0 := Gr.trans hw hg0; clear hw
  replace HG0 := Lib.hid (HG0.out.trans hg0)
  have HGS := Lib.hid hg0; clear hg0
  clear HGS
  have RN2 := Lib.hid bx2; clear bx2
  have RN3 := Lib.hid bx3; clear bx3
  simp only [Act.put, lA, lB, lC]
  iterate 3 refine tk ?_
  refine wpPlan_nil (hT.out _ _ ?_)
  intro vw4 hg
  simp only [puts, Act.put, lA, lB, lC, lD, lE, ↓reduceIte, Nat.reduceEqDiff]
  have HG := Lib.hid (((HF.out.gr (HG0.out.trans hg)).ar (RN2.out.gr hg)).ar (RN3.out.gr hg))
  simp only [List.zip_cons_cons, List.zip_nil_right, List.map_cons, List.map_nil, lF, lG] at HG
  clear hT T HF hg HG0 RN2 RN3
  go_wp2
  refine hK.out _ _ ?_; clear hK K
  show Code.wp _ _ _ _ _
  refine fH ((HG.out).al (b := vw4.heap.size) (by first | rfl | simp) (by decide)) fun Wx6 HF => ?_
  clear HG
  generalize vw4.heap.size = gx4 at *
  have HB := HPb HF
  have lx1 := HF.out.c 0 rfl
  have lx4 := HF.out.c 3 rfl
  refine kS fun K hK => ?_
  refine sq 12 [(true, 0), (true, 1), (true, 2), (true, 3), (true, 4), (true, 5), (true, 6), (true, 7), (true, 8), (true, 9), (true, 10), (true, 11)] fun T hT => ?_
  iterate 2 refine tk ?_
  refine ck Tryz.call52 (fun w' hw => fsame_any (0 : Rat) _ _ _ om (by omega) (HF.out.r 1 rfl hw) (HF.out.r 2 rfl hw) (Lib.hid (HT.out.gr (Gr.trans HB.out hw)))) ?_
  iterate 6 refine tk ?_
  refine ck Tryz.call49 (fun w' hw => worksq_any _ (Lib.hid (HT.out.gr (Gr.trans HB.out hw)))) ?_
  iterate 2 refine tk ?_
  refine nlS hT HF fun vw5 HG => ?_
  clear hT T HF lx1 lx4 HB
  go_wp2
  refine hK.out _ _ ?_; clear hK K
  show Code.wp _ _ _ _ _
  refine fH (((((HG.out).er 3).er 2).er 1).er 0) fun Wx7 HF => ?_
  clear HG
  refine wp_ret ?_
  try simp only [Exit.then, Exit.inBlock]
  exact bodyPost_ret (v := .bool true) (by simp [results, Tryz.results6, go_sem]) rfl ⟨rfl, HF.out.1⟩

theorem readq_law (s : ByteArray) (w : World) (hs : s.size ≤ 9223372036854775807) (HT : Hid (Tab w)) :
    Calls Tryz.prog 6 #[.string s] w fun e w' => e = .returned (.bool true) ∧ Below w.heap.size w w' := by
  by_cases h1 : 8400 < s.size
  · exact readq_long s w h1 HT
  · rcases fcode_cases s with ⟨hc, h2, h3⟩ | ⟨hc, hn⟩
    · by_cases h4 : 300 < s.size
      · exact readq_m0 s _ w (by omega) h4 (Lib.hid rfl) (Lib.hid hc) (by omega) (by omega) HT
      · exact readq_s0 s _ w (by omega) (Lib.hid rfl) (Lib.hid hc) (by omega) (by omega) HT
    · by_cases h4 : 300 < s.size
      · exact readq_mc s _ w (by omega) h4 (Lib.hid hn) (Lib.hid rfl) hc HT
      · exact readq_sc s _ w (by omega) (Lib.hid hn) (Lib.hid rfl) hc HT

end Go.Proofs.YtpcfncbcpknobaaGreatDoor
