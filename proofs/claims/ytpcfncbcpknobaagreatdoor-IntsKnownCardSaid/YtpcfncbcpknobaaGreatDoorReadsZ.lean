
/- IntsReads: the law's walk. -/
import Derived.Test.YtpcfncbcpknobaaGreatDoorWorksZ
namespace Go.Proofs.YtpcfncbcpknobaaGreatDoor
open Go.RowKit
set_option linter.unusedSimpArgs false
set_option linter.unusedVariables false
attribute [local go_sem ↓] Go.wp_at_zero Go.wp_at_succ
attribute [local go_sem ↓] eq_nat eq_nat_zero eq_int
set_option maxRecDepth 100000 in
set_option maxHeartbeats 4000000 in
theorem readz_long  (s : ByteArray) (w : World)  (hs : 4200 < s.size) (hs2 : s.size ≤ 9223372036854775807) (HT : Hid (Tab w)) :
    Calls Tryz.prog 22 #[.string s] w fun e w' => e = .returned (.bool true) ∧ Below w.heap.size w w' := by
  go_enter Tryz.func22, Tryz.ntmps22
  have HF := Lib.hid (hp0 w)
  refine kS fun K hK => ?_
  refine wp_region_lit ?_
  go_wp2
  refine hK.out _ _ ?_; clear hK K
  show Code.wp _ _ _ _ _
  refine fH (HF.out) fun Wx0 HG => ?_
  clear HF; have HF := HG; clear HG
  refine wp_seq ?_
  have hd1 : 4200 < ((s.size : Int)) := ok
  refine kS fun K hK => ?_
  refine sq 3 [(true, 0), (true, 1), (true, 2)] fun T hT => ?_
  iterate 3 refine tk ?_
  refine nlS hT HF fun vw1 HG => ?_
  clear hT T HF
  go_wp2
  refine hK.out _ _ ?_; clear hK K
  show Code.wp _ _ _ _ _
  have HF := HG; clear HG
  clear hd1
  refine wp_cond_true (by rfl) ?_
  have HB := HPb HF
  refine kS fun K hK => ?_
  refine sq 2 [(true, 0), (true, 1)] fun T hT => ?_
  refine ck Tryz.call23 (fun w' hw => worksz_any _ (Lib.hid (HT.out.gr (Gr.trans HB.out hw)))) ?_
  refine tk ?_
  refine nlS hT HF fun vw2 HG => ?_
  clear hT T HF HB
  go_wp2
  refine hK.out _ _ ?_; clear hK K
  show Code.wp _ _ _ _ _
  have HF := HG; clear HG
  refine wp_ret ?_
  try simp only [Exit.then, Exit.inBlock]
  exact bodyPost_ret (v := .bool true) (by simp [results, Tryz.results22, go_sem]) rfl ⟨rfl, HF.out.1⟩

set_option maxRecDepth 100000 in
set_option maxHeartbeats 4000000 in
theorem readz_3  (s : ByteArray) (w : World)  (hs : s.size ≤ 4200) (HPC : Hid (icode s = 3)) (HPN : Hid (inum s = 0)) (HT : Hid (Tab w)) :
    Calls Tryz.prog 22 #[.string s] w fun e w' => e = .returned (.bool true) ∧ Below w.heap.size w w' := by
  go_enter Tryz.func22, Tryz.ntmps22
  have HF := Lib.hid (hp0 w)
  refine kS fun K hK => ?_
  refine wp_region_lit ?_
  go_wp2
  refine hK.out _ _ ?_; clear hK K
  show Code.wp _ _ _ _ _
  refine fH (HF.out) fun Wx0 HG => ?_
  clear HF; have HF := HG; clear HG
  refine wp_seq ?_
  have hd1 : ¬ (4200 < ((s.size : Int))) := ok
  refine kS fun K hK => ?_
  refine sq 3 [(true, 0), (true, 1), (true, 2)] fun T hT => ?_
  iterate 3 refine tk ?_
  refine nlS hT HF fun vw1 HG => ?_
  clear hT T HF
  go_wp2
  refine hK.out _ _ ?_; clear hK K
  show Code.wp _ _ _ _ _
  have HF := HG; clear HG
  clear hd1
  refine wp_cond_false (by rfl) ?_
  refine wp_skip ?_
  show Code.wp _ _ _ _ _
  refine kS fun K hK => ?_
  refine sq 5 [(true, 0), (true, 1), (true, 2), (true, 3), (true, 4)] fun T hT => ?_
  refine tk ?_
  refine ck Tryz.call123 (fun w' hw => ziparse s (0) 3 _ HPN.out HPC.out (by omega)) ?_
  iterate 3 refine tk ?_
  refine nlS hT HF fun vw2 HG => ?_
  clear hT T HF
  go_wp2
  refine hK.out _ _ ?_; clear hK K
  show Code.wp _ _ _ _ _
  refine fH ((HG.out).al (b := vw2.heap.size) (by first | rfl | simp) (by decide)) fun Wx3 HF => ?_
  clear HG
  generalize vw2.heap.size = gx1 at *
  refine kS fun K hK => ?_
  have HG0 : Hid (Gr Wx3 Wx3) := Lib.hid (Gr.refl _)
  refine sq 5 [(true, 0), (false, 1), (true, 2), (true, 3), (true, 4)] fun T hT => ?_
  refine tk ?_
  refine wpPlan_callE rfl (by rfl) Tryz.call124 (by rfl) (fun w' hw => (zrziparse s (0) 3 _ HPN.out HPC.out (by omega)).mono ?_)
  rintro e vv2 ⟨⟨rv1, rfl, bx2⟩, hg0⟩
  obtain ⟨ao1, nn1, cc1, rfl⟩ := Rn.sl bx2
  refine ⟨_, rfl, hg0, ?_⟩
  replace hg0 := Gr.trans hw hg0; clear hw
  replace HG0 := Lib.hid (HG0.out.trans hg0)
  have HGS := Lib.hid hg0; clear hg0
  clear HGS
  have RN2 := Lib.hid bx2; clear bx2
  simp only [Act.put, lA, lB, lC]
  iterate 3 refine tk ?_
  refine wpPlan_nil (hT.out _ _ ?_)
  intro vw3 hg
  simp only [puts, Act.put, lA, lB, lC, lD, lE, ↓reduceIte, Nat.reduceEqDiff]
  have HG := Lib.hid ((HF.out.gr (HG0.out.trans hg)).ar (RN2.out.gr hg))
  simp only [List.zip_cons_cons, List.zip_nil_right, List.map_cons, List.map_nil, lF, lG] at HG
  clear hT T HF hg HG0 RN2
  go_wp2
  refine hK.out _ _ ?_; clear hK K
  show Code.wp _ _ _ _ _
  refine fH ((HG.out).al (b := vw3.heap.size) (by first | rfl | simp) (by decide)) fun Wx4 HF => ?_
  clear HG
  generalize vw3.heap.size = gx3 at *
  refine wp_seq ?_
  refine kS fun K hK => ?_
  refine sq 3 [(true, 0), (true, 1), (true, 2)] fun T hT => ?_
  iterate 3 refine tk ?_
  refine nlS hT HF fun vw4 HG => ?_
  clear hT T HF
  go_wp2
  refine hK.out _ _ ?_; clear hK K
  show Code.wp _ _ _ _ _
  have HF := HG; clear HG
  refine wp_cond_false (by rfl) ?_
  refine wp_skip ?_
  show Code.wp _ _ _ _ _
  have HB := HPb HF
  have lx1 := HF.out.c 0 rfl
  have lx3 := HF.out.c 2 rfl
  refine kS fun K hK => ?_
  refine sq 26 [(true, 0), (true, 1), (true, 2), (true, 3), (true, 4), (true, 5), (true, 6), (true, 7), (true, 8), (true, 9), (true, 10), (true, 11), (true, 12), (true, 13), (true, 14), (true, 15), (true, 16), (true, 17), (true, 18), (true, 19), (true, 20), (true, 21), (true, 22), (true, 23), (true, 24), (true, 25)] fun T hT => ?_
  iterate 3 refine tk ?_
  iterate 4 refine sk ?_
  iterate 2 refine tk ?_
  iterate 4 refine sk ?_
  iterate 6 refine tk ?_
  refine ck Tryz.call119 (fun w' hw => is_any (0) (0) true _ (Lib.hid (decide_eq_true (by decide))) (by decide) (by decide)) ?_
  iterate 3 refine tk ?_
  refine ck Tryz.call23 (fun w' hw => worksz_any _ (Lib.hid (HT.out.gr (Gr.trans HB.out hw)))) ?_
  iterate 2 refine tk ?_
  refine nlS hT HF fun vw5 HG => ?_
  clear hT T HF lx1 lx3 HB
  go_wp2
  refine hK.out _ _ ?_; clear hK K
  show Code.wp _ _ _ _ _
  refine fH ((((HG.out).er 2).er 1).er 0) fun Wx7 HF => ?_
  clear HG
  refine wp_ret ?_
  try simp only [Exit.then, Exit.inBlock]
  exact bodyPost_ret (v := .bool true) (by simp [results, Tryz.results22, go_sem]) rfl ⟨rfl, HF.out.1⟩

set_option maxRecDepth 100000 in
set_option maxHeartbeats 4000000 in
theorem readz_4  (s : ByteArray) (w : World)  (hs : s.size ≤ 4200) (HPC : Hid (icode s = 4)) (HPN : Hid (inum s = 0)) (HT : Hid (Tab w)) :
    Calls Tryz.prog 22 #[.string s] w fun e w' => e = .returned (.bool true) ∧ Below w.heap.size w w' := by
  go_enter Tryz.func22, Tryz.ntmps22
  have HF := Lib.hid (hp0 w)
  refine kS fun K hK => ?_
  refine wp_region_lit ?_
  go_wp2
  refine hK.out _ _ ?_; clear hK K
  show Code.wp _ _ _ _ _
  refine fH (HF.out) fun Wx0 HG => ?_
  clear HF; have HF := HG; clear HG
  refine wp_seq ?_
  have hd1 : ¬ (4200 < ((s.size : Int))) := ok
  refine kS fun K hK => ?_
  refine sq 3 [(true, 0), (true, 1), (true, 2)] fun T hT => ?_
  iterate 3 refine tk ?_
  refine nlS hT HF fun vw1 HG => ?_
  clear hT T HF
  go_wp2
  refine hK.out _ _ ?_; clear hK K
  show Code.wp _ _ _ _ _
  have HF := HG; clear HG
  clear hd1
  refine wp_cond_false (by rfl) ?_
  refine wp_skip ?_
  show Code.wp _ _ _ _ _
  refine kS fun K hK => ?_
  refine sq 5 [(true, 0), (true, 1), (true, 2), (true, 3), (true, 4)] fun T hT => ?_
  refine tk ?_
  refine ck Tryz.call123 (fun w' hw => ziparse s (0) 4 _ HPN.out HPC.out (by omega)) ?_
  iterate 3 refine tk ?_
  refine nlS hT HF fun vw2 HG => ?_
  clear hT T HF
  go_wp2
  refine hK.out _ _ ?_; clear hK K
  show Code.wp _ _ _ _ _
  refine fH ((HG.out).al (b := vw2.heap.size) (by first | rfl | simp) (by decide)) fun Wx3 HF => ?_
  clear HG
  generalize vw2.heap.size = gx1 at *
  refine kS fun K hK => ?_
  have HG0 : Hid (Gr Wx3 Wx3) := Lib.hid (Gr.refl _)
  refine sq 5 [(true, 0), (false, 1), (true, 2), (true, 3), (true, 4)] fun T hT => ?_
  refine tk ?_
  refine wpPlan_callE rfl (by rfl) Tryz.call124 (by rfl) (fun w' hw => (zrziparse s (0) 4 _ HPN.out HPC.out (by omega)).mono ?_)
  rintro e vv2 ⟨⟨rv1, rfl, bx2⟩, hg0⟩
  obtain ⟨ao1, nn1, cc1, rfl⟩ := Rn.sl bx2
  refine ⟨_, rfl, hg0, ?_⟩
  replace hg0 := Gr.trans hw hg0; clear hw
  replace HG0 := Lib.hid (HG0.out.trans hg0)
  have HGS := Lib.hid hg0; clear hg0
  clear HGS
  have RN2 := Lib.hid bx2; clear bx2
  simp only [Act.put, lA, lB, lC]
  iterate 3 refine tk ?_
  refine wpPlan_nil (hT.out _ _ ?_)
  intro vw3 hg
  simp only [puts, Act.put, lA, lB, lC, lD, lE, ↓reduceIte, Nat.reduceEqDiff]
  have HG := Lib.hid ((HF.out.gr (HG0.out.trans hg)).ar (RN2.out.gr hg))
  simp only [List.zip_cons_cons, List.zip_nil_right, List.map_cons, List.map_nil, lF, lG] at HG
  clear hT T HF hg HG0 RN2
  go_wp2
  refine hK.out _ _ ?_; clear hK K
  show Code.wp _ _ _ _ _
  refine fH ((HG.out).al (b := vw3.heap.size) (by first | rfl | simp) (by decide)) fun Wx4 HF => ?_
  clear HG
  generalize vw3.heap.size = gx3 at *
  refine wp_seq ?_
  refine kS fun K hK => ?_
  refine sq 3 [(true, 0), (true, 1), (true, 2)] fun T hT => ?_
  iterate 3 refine tk ?_
  refine nlS hT HF fun vw4 HG => ?_
  clear hT T HF
  go_wp2
  refine hK.out _ _ ?_; clear hK K
  show Code.wp _ _ _ _ _
  have HF := HG; clear HG
  refine wp_cond_false (by rfl) ?_
  refine wp_skip ?_
  show Code.wp _ _ _ _ _
  have HB := HPb HF
  have lx1 := HF.out.c 0 rfl
  have lx3 := HF.out.c 2 rfl
  refine kS fun K hK => ?_
  refine sq 26 [(true, 0), (true, 1), (true, 2), (true, 3), (true, 4), (true, 5), (true, 6), (true, 7), (true, 8), (true, 9), (true, 10), (true, 11), (true, 12), (true, 13), (true, 14), (true, 15), (true, 16), (true, 17), (true, 18), (true, 19), (true, 20), (true, 21), (true, 22), (true, 23), (true, 24), (true, 25)] fun T hT => ?_
  iterate 3 refine tk ?_
  iterate 4 refine sk ?_
  iterate 2 refine tk ?_
  iterate 4 refine sk ?_
  iterate 6 refine tk ?_
  refine ck Tryz.call119 (fun w' hw => is_any (0) (0) true _ (Lib.hid (decide_eq_true (by decide))) (by decide) (by decide)) ?_
  iterate 3 refine tk ?_
  refine ck Tryz.call23 (fun w' hw => worksz_any _ (Lib.hid (HT.out.gr (Gr.trans HB.out hw)))) ?_
  iterate 2 refine tk ?_
  refine nlS hT HF fun vw5 HG => ?_
  clear hT T HF lx1 lx3 HB
  go_wp2
  refine hK.out _ _ ?_; clear hK K
  show Code.wp _ _ _ _ _
  refine fH ((((HG.out).er 2).er 1).er 0) fun Wx7 HF => ?_
  clear HG
  refine wp_ret ?_
  try simp only [Exit.then, Exit.inBlock]
  exact bodyPost_ret (v := .bool true) (by simp [results, Tryz.results22, go_sem]) rfl ⟨rfl, HF.out.1⟩

set_option maxRecDepth 100000 in
set_option maxHeartbeats 4000000 in
theorem readz_good  (s : ByteArray) (a : Int) (w : World)  (hs : s.size ≤ 4200) (HPC : Hid (icode s = 0)) (HPN : Hid (inum s = a)) (HTX : Hid (itx a = s)) (hw : wl (Int.natAbs a) ≤ 600) (ht : tw (Int.natAbs a) ≤ 1100) (HT : Hid (Tab w)) :
    Calls Tryz.prog 22 #[.string s] w fun e w' => e = .returned (.bool true) ∧ Below w.heap.size w w' := by
  go_enter Tryz.func22, Tryz.ntmps22
  have HF := Lib.hid (hp0 w)
  refine kS fun K hK => ?_
  refine wp_region_lit ?_
  go_wp2
  refine hK.out _ _ ?_; clear hK K
  show Code.wp _ _ _ _ _
  refine fH (HF.out) fun Wx0 HG => ?_
  clear HF; have HF := HG; clear HG
  refine wp_seq ?_
  have hd1 : ¬ (4200 < ((s.size : Int))) := ok
  refine kS fun K hK => ?_
  refine sq 3 [(true, 0), (true, 1), (true, 2)] fun T hT => ?_
  iterate 3 refine tk ?_
  refine nlS hT HF fun vw1 HG => ?_
  clear hT T HF
  go_wp2
  refine hK.out _ _ ?_; clear hK K
  show Code.wp _ _ _ _ _
  have HF := HG; clear HG
  clear hd1
  refine wp_cond_false (by rfl) ?_
  refine wp_skip ?_
  show Code.wp _ _ _ _ _
  refine kS fun K hK => ?_
  refine sq 5 [(true, 0), (true, 1), (true, 2), (true, 3), (true, 4)] fun T hT => ?_
  refine tk ?_
  refine ck Tryz.call123 (fun w' hw => ziparse s (a) 0 _ HPN.out HPC.out (by omega)) ?_
  iterate 3 refine tk ?_
  refine nlS hT HF fun vw2 HG => ?_
  clear hT T HF
  go_wp2
  refine hK.out _ _ ?_; clear hK K
  show Code.wp _ _ _ _ _
  refine fH ((HG.out).al (b := vw2.heap.size) (by first | rfl | simp) (by decide)) fun Wx3 HF => ?_
  clear HG
  generalize vw2.heap.size = gx1 at *
  refine kS fun K hK => ?_
  have HG0 : Hid (Gr Wx3 Wx3) := Lib.hid (Gr.refl _)
  refine sq 5 [(true, 0), (false, 1), (true, 2), (true, 3), (true, 4)] fun T hT => ?_
  refine tk ?_
  refine wpPlan_callE rfl (by rfl) Tryz.call124 (by rfl) (fun w' hw => (zrziparse s (a) 0 _ HPN.out HPC.out (by omega)).mono ?_)
  rintro e vv2 ⟨⟨rv1, rfl, bx2⟩, hg0⟩
  obtain ⟨ao1, nn1, cc1, rfl⟩ := Rn.sl bx2
  refine ⟨_, rfl, hg0, ?_⟩
  replace hg0 := Gr.trans hw hg0; clear hw
  replace HG0 := Lib.hid (HG0.out.trans hg0)
  have HGS := Lib.hid hg0; clear hg0
  clear HGS
  have RN2 := Lib.hid bx2; clear bx2
  simp only [Act.put, lA, lB, lC]
  iterate 3 refine tk ?_
  refine wpPlan_nil (hT.out _ _ ?_)
  intro vw3 hg
  simp only [puts, Act.put, lA, lB, lC, lD, lE, ↓reduceIte, Nat.reduceEqDiff]
  have HG := Lib.hid ((HF.out.gr (HG0.out.trans hg)).ar (RN2.out.gr hg))
  simp only [List.zip_cons_cons, List.zip_nil_right, List.map_cons, List.map_nil, lF, lG] at HG
  clear hT T HF hg HG0 RN2
  go_wp2
  refine hK.out _ _ ?_; clear hK K
  show Code.wp _ _ _ _ _
  refine fH ((HG.out).al (b := vw3.heap.size) (by first | rfl | simp) (by decide)) fun Wx4 HF => ?_
  clear HG
  generalize vw3.heap.size = gx3 at *
  refine wp_seq ?_
  refine kS fun K hK => ?_
  refine sq 3 [(true, 0), (true, 1), (true, 2)] fun T hT => ?_
  iterate 3 refine tk ?_
  refine nlS hT HF fun vw4 HG => ?_
  clear hT T HF
  go_wp2
  refine hK.out _ _ ?_; clear hK K
  show Code.wp _ _ _ _ _
  have HF := HG; clear HG
  refine wp_cond_false (by rfl) ?_
  refine wp_skip ?_
  show Code.wp _ _ _ _ _
  have HB := HPb HF
  have lx1 := HF.out.c 0 rfl
  have lx3 := HF.out.c 2 rfl
  refine kS fun K hK => ?_
  refine sq 26 [(true, 0), (true, 1), (true, 2), (true, 3), (true, 4), (true, 5), (true, 6), (true, 7), (true, 8), (true, 9), (true, 10), (true, 11), (true, 12), (true, 13), (true, 14), (true, 15), (true, 16), (true, 17), (true, 18), (true, 19), (true, 20), (true, 21), (true, 22), (true, 23), (true, 24), (true, 25)] fun T hT => ?_
  iterate 4 refine tk ?_
  refine ck Tryz.call72 (fun w' hw => zitext (a) s _ HTX.out om (Lib.hid (HT.out.gr (Gr.trans HB.out hw)))) ?_
  iterate 5 refine tk ?_
  refine ck Tryz.call87 (fun w' hw => zrtextz (a) s _ _ HTX.out (HF.out.r 1 rfl hw) (by omega)) ?_
  iterate 4 refine tk ?_
  iterate 6 refine sk ?_
  iterate 2 refine tk ?_
  refine ck Tryz.call23 (fun w' hw => worksz_any _ (Lib.hid (HT.out.gr (Gr.trans HB.out hw)))) ?_
  iterate 2 refine tk ?_
  refine nlS hT HF fun vw5 HG => ?_
  clear hT T HF lx1 lx3 HB
  go_wp2
  refine hK.out _ _ ?_; clear hK K
  show Code.wp _ _ _ _ _
  refine fH ((((HG.out).er 2).er 1).er 0) fun Wx7 HF => ?_
  clear HG
  refine wp_ret ?_
  try simp only [Exit.then, Exit.inBlock]
  exact bodyPost_ret (v := .bool true) (by simp [results, Tryz.results22, go_sem]) rfl ⟨rfl, HF.out.1⟩

theorem readz_law (s : ByteArray) (w : World) (hs : s.size ≤ 9223372036854775807) (HT : Hid (Tab w)) :
    Calls Tryz.prog 22 #[.string s] w fun e w' => e = .returned (.bool true) ∧ Below w.heap.size w w' := by
  by_cases h1 : 4200 < s.size
  · exact readz_long s w h1 hs HT
  · rcases icode_cases s with hc | hc | hc
    · have ha := inum_abs s hc
      have hw : wl (inum s).natAbs ≤ 600 := by rw [ha]; exact Nat.le_trans (wl_le.2 (pnum_bp (idig s) 512 rfl)) (by decide)
      have ht : tw (inum s).natAbs ≤ 1100 := by rw [ha]; exact Nat.le_trans (tw_le.2 (pnum_tp (idig s) 1024 rfl)) (by decide)
      exact readz_good s _ w (by omega) (Lib.hid hc) (Lib.hid rfl) (Lib.hid (itx_inum s hc)) hw ht HT
    · exact readz_3 s w (by omega) (Lib.hid hc) (Lib.hid (inum_bad (by rw [hc]; decide))) HT
    · exact readz_4 s w (by omega) (Lib.hid hc) (Lib.hid (inum_bad (by rw [hc]; decide))) HT

end Go.Proofs.YtpcfncbcpknobaaGreatDoor
