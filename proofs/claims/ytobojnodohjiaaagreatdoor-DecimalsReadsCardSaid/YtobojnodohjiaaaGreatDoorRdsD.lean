
/- DecimalsReads: the law's walk. -/
import Derived.Test.YtobojnodohjiaaaGreatDoorDecW
import Derived.Test.YtobojnodohjiaaaGreatDoorRdP
import Derived.Test.YtobojnodohjiaaaGreatDoorHp2
namespace Go.Proofs.YtobojnodohjiaaaGreatDoor
open Go.RowKit
set_option linter.unusedSimpArgs false
set_option linter.unusedVariables false
attribute [local go_sem ↓] Go.wp_at_zero Go.wp_at_succ
attribute [local go_sem ↓] eq_nat eq_nat_zero eq_int eq_frac eq_frac_zero
attribute [local go_sem] Instr.field asAgg
theorem pnum_130 {s : ByteArray} (h : s.size ≤ 101) : wl (pnum s) ≤ 130 := by
  unfold pnum
  split
  · rename_i g
    obtain ⟨_, g⟩ := g
    have h1 := pvr_lt s 0 s.size (fun i hi => by rw [Nat.zero_add]; exact (g.2.2 i hi).2)
    exact Nat.le_trans (wl_mono (Nat.le_of_lt (Nat.lt_of_lt_of_le h1 (Nat.pow_le_pow_right (by decide) h)))) (wl_le.2 (by decide +kernel))
  · exact Nat.le_trans (wl_small (by decide)) (by decide)

set_option maxRecDepth 100000 in
set_option maxHeartbeats 8000000 in
theorem rdsd_far (s : ByteArray) (w : World) (hs9 : s.size ≤ 9223372036854775807) (hs : 4096 < s.size) (HN : Hid (dnum s = 0)) (HC : Hid (dcode s = 3)) (HT : Hid (Tab w)) :
    Calls Tryz.prog 13 #[.string s] w fun e w' => e = .returned (.bool true) ∧ Below w.heap.size w w' := by
  go_enter Tryz.func13, Tryz.ntmps13
  have HF := Lib.hid (hp0 w)
  refine kS fun K hK => ?_
  refine wp_region_lit ?_
  go_wp2
  refine hK.out _ _ ?_; clear hK K
  show Code.wp _ _ _ _ _
  refine fH (HF.out) fun Wx0 HG => ?_
  clear HF; have HF := HG; clear HG
  refine wp_seq ?_
  have hd1 : 4096 < ((s.size : Int)) := ok
  refine kS fun K hK => ?_
  refine sq 3 [(true, 0), (true, 1), (true, 2)] fun T hT => ?_
  iterate 3 refine tk ?_
  refine nlS hT HF fun vw1 HG => ?_
  clear hT T HF
  go_wp2
  refine hK.out _ _ ?_; clear hK K
  show Code.wp _ _ _ _ _
  have HF := HG; clear HG
  clear hd1
  refine wp_cond_true (by rfl) ?_
  refine kS fun K hK => ?_
  refine sq 5 [(true, 0), (true, 1), (true, 2), (true, 3), (true, 4)] fun T hT => ?_
  refine tk ?_
  refine ck Tryz.call63 (fun w' hw => dparse s (0 : Rat) (3) _ HN.out HC.out (by omega)) ?_
  iterate 3 refine tk ?_
  refine nlS hT HF fun vw2 HG => ?_
  clear hT T HF
  go_wp2
  refine hK.out _ _ ?_; clear hK K
  show Code.wp _ _ _ _ _
  refine fH ((HG.out).al (b := vw2.heap.size) (by first | rfl | simp) (by decide)) fun Wx2 HF => ?_
  clear HG
  generalize vw2.heap.size = gx1 at *
  have HB := HPb HF
  have lx1 := HF.out.c 0 rfl
  refine kS fun K hK => ?_
  refine sq 11 [(true, 0), (true, 1), (true, 2), (true, 3), (true, 4), (true, 5), (true, 6), (true, 7), (true, 8), (true, 9), (true, 10)] fun T hT => ?_
  iterate 8 refine tk ?_
  refine ck Tryz.call64 (fun w' hw => worksd_any _ (Lib.hid (HT.out.gr (Gr.trans HB.out hw)))) ?_
  iterate 2 refine tk ?_
  refine nlS hT HF fun vw3 HG => ?_
  clear hT T HF lx1 HB
  go_wp2
  refine hK.out _ _ ?_; clear hK K
  show Code.wp _ _ _ _ _
  refine fH ((HG.out).er 0) fun Wx3 HF => ?_
  clear HG
  refine wp_ret ?_
  try simp only [Exit.then, Exit.inBlock]
  exact bodyPost_ret (v := .bool true) (by simp [results, Tryz.results13, go_sem]) rfl ⟨rfl, HF.out.1⟩

set_option maxRecDepth 100000 in
set_option maxHeartbeats 8000000 in
theorem rdsd_mid (s : ByteArray) (w : World) (hs : 100 < s.size) (hs2 : s.size ≤ 4096) (HT : Hid (Tab w)) :
    Calls Tryz.prog 13 #[.string s] w fun e w' => e = .returned (.bool true) ∧ Below w.heap.size w w' := by
  go_enter Tryz.func13, Tryz.ntmps13
  have HF := Lib.hid (hp0 w)
  refine kS fun K hK => ?_
  refine wp_region_lit ?_
  go_wp2
  refine hK.out _ _ ?_; clear hK K
  show Code.wp _ _ _ _ _
  refine fH (HF.out) fun Wx0 HG => ?_
  clear HF; have HF := HG; clear HG
  refine wp_seq ?_
  have hd1 : ¬ (4096 < ((s.size : Int))) := ok
  refine kS fun K hK => ?_
  refine sq 3 [(true, 0), (true, 1), (true, 2)] fun T hT => ?_
  iterate 3 refine tk ?_
  refine nlS hT HF fun vw1 HG => ?_
  clear hT T HF
  go_wp2
  refine hK.out _ _ ?_; clear hK K
  show Code.wp _ _ _ _ _
  have HF := HG; clear HG
  clear hd1
  refine wp_cond_false (by rfl) ?_
  refine wp_skip ?_
  show Code.wp _ _ _ _ _
  refine wp_seq ?_
  have hd2 : 100 < ((s.size : Int)) := ok
  refine kS fun K hK => ?_
  refine sq 3 [(true, 0), (true, 1), (true, 2)] fun T hT => ?_
  iterate 3 refine tk ?_
  refine nlS hT HF fun vw2 HG => ?_
  clear hT T HF
  go_wp2
  refine hK.out _ _ ?_; clear hK K
  show Code.wp _ _ _ _ _
  have HF := HG; clear HG
  clear hd2
  refine wp_cond_true (by rfl) ?_
  have HB := HPb HF
  refine kS fun K hK => ?_
  refine sq 2 [(true, 0), (true, 1)] fun T hT => ?_
  refine ck Tryz.call64 (fun w' hw => worksd_any _ (Lib.hid (HT.out.gr (Gr.trans HB.out hw)))) ?_
  refine tk ?_
  refine nlS hT HF fun vw3 HG => ?_
  clear hT T HF HB
  go_wp2
  refine hK.out _ _ ?_; clear hK K
  show Code.wp _ _ _ _ _
  have HF := HG; clear HG
  refine wp_ret ?_
  try simp only [Exit.then, Exit.inBlock]
  exact bodyPost_ret (v := .bool true) (by simp [results, Tryz.results13, go_sem]) rfl ⟨rfl, HF.out.1⟩

set_option maxRecDepth 100000 in
set_option maxHeartbeats 8000000 in
theorem rdsd_ok (s : ByteArray) (z : Rat) (c : Int) (w : World) (hs : s.size ≤ 100) (HN : Hid (dnum s = z)) (HC : Hid (dcode s = c)) (hsz : sz z ≤ 300) (hrz : rz z ≤ 1000) (HT : Hid (Tab w)) :
    Calls Tryz.prog 13 #[.string s] w fun e w' => e = .returned (.bool true) ∧ Below w.heap.size w w' := by
  go_enter Tryz.func13, Tryz.ntmps13
  have HF := Lib.hid (hp0 w)
  refine kS fun K hK => ?_
  refine wp_region_lit ?_
  go_wp2
  refine hK.out _ _ ?_; clear hK K
  show Code.wp _ _ _ _ _
  refine fH (HF.out) fun Wx0 HG => ?_
  clear HF; have HF := HG; clear HG
  refine wp_seq ?_
  have hd1 : ¬ (4096 < ((s.size : Int))) := ok
  refine kS fun K hK => ?_
  refine sq 3 [(true, 0), (true, 1), (true, 2)] fun T hT => ?_
  iterate 3 refine tk ?_
  refine nlS hT HF fun vw1 HG => ?_
  clear hT T HF
  go_wp2
  refine hK.out _ _ ?_; clear hK K
  show Code.wp _ _ _ _ _
  have HF := HG; clear HG
  clear hd1
  refine wp_cond_false (by rfl) ?_
  refine wp_skip ?_
  show Code.wp _ _ _ _ _
  refine wp_seq ?_
  have hd2 : ¬ (100 < ((s.size : Int))) := ok
  refine kS fun K hK => ?_
  refine sq 3 [(true, 0), (true, 1), (true, 2)] fun T hT => ?_
  iterate 3 refine tk ?_
  refine nlS hT HF fun vw2 HG => ?_
  clear hT T HF
  go_wp2
  refine hK.out _ _ ?_; clear hK K
  show Code.wp _ _ _ _ _
  have HF := HG; clear HG
  clear hd2
  refine wp_cond_false (by rfl) ?_
  refine wp_skip ?_
  show Code.wp _ _ _ _ _
  refine kS fun K hK => ?_
  refine sq 5 [(true, 0), (true, 1), (true, 2), (true, 3), (true, 4)] fun T hT => ?_
  refine tk ?_
  refine ck Tryz.call63 (fun w' hw => dparse s (z) (c) _ HN.out HC.out (by omega)) ?_
  iterate 3 refine tk ?_
  refine nlS hT HF fun vw3 HG => ?_
  clear hT T HF
  go_wp2
  refine hK.out _ _ ?_; clear hK K
  show Code.wp _ _ _ _ _
  refine fH ((HG.out).al (b := vw3.heap.size) (by first | rfl | simp) (by decide)) fun Wx6 HF => ?_
  clear HG
  generalize vw3.heap.size = gx1 at *
  refine kS fun K hK => ?_
  have HG0 : Hid (Gr Wx6 Wx6) := Lib.hid (Gr.refl _)
  refine sq 5 [(true, 0), (false, 1), (true, 2), (true, 3), (true, 4)] fun T hT => ?_
  refine tk ?_
  refine wpPlan_callE rfl (by rfl) Tryz.call65 (by rfl) (fun w' hw => (rparse04 s z (c) _ (by omega) HN.out HC.out).mono ?_)
  rintro e vv2 ⟨⟨rv1, rv2, rfl, bx2, bx3⟩, hg0⟩
  obtain ⟨ao1, nn1, cc1, rfl⟩ := Rn.sl bx2
  obtain ⟨ao2, nn2, cc2, rfl⟩ := Rn.sl bx3
  refine ⟨_, rfl, hg0, ?_⟩
  replace hg0 := Gr.trans hw hg0; clear hw
  replace HG0 := Lib.hid (HG0.out.trans hg0)
  have HGS := Lib.hid hg0; clear hg0
  clear HGS
  have RN2 := Lib.hid bx2; clear bx2
  have RN3 := Lib.hid bx3; clear bx3
  simp only [Act.put, lA, lB, lC]
  iterate 3 refine tk ?_
  refine wpPlan_nil (hT.out _ _ ?_)
  intro vw4 hg
  simp only [puts, Act.put, lA, lB, lC, lD, lE, ↓reduceIte, Nat.reduceEqDiff]
  have HG := Lib.hid (((HF.out.gr (HG0.out.trans hg)).ar (RN2.out.gr hg)).ar (RN3.out.gr hg))
  simp only [List.zip_cons_cons, List.zip_nil_right, List.map_cons, List.map_nil, lF, lG] at HG
  clear hT T HF hg HG0 RN2 RN3
  go_wp2
  refine hK.out _ _ ?_; clear hK K
  show Code.wp _ _ _ _ _
  refine fH ((HG.out).al (b := vw4.heap.size) (by first | rfl | simp) (by decide)) fun Wx7 HF => ?_
  clear HG
  generalize vw4.heap.size = gx4 at *
  have HB := HPb HF
  have lx1 := HF.out.c 0 rfl
  have lx4 := HF.out.c 3 rfl
  refine kS fun K hK => ?_
  refine sq 12 [(true, 0), (true, 1), (true, 2), (true, 3), (true, 4), (true, 5), (true, 6), (true, 7), (true, 8), (true, 9), (true, 10), (true, 11)] fun T hT => ?_
  iterate 2 refine tk ?_
  refine ck Tryz.call66 (fun w' hw => fsame_any (z) _ _ _ om (by omega) (HF.out.r 1 rfl hw) (HF.out.r 2 rfl hw) (Lib.hid (HT.out.gr (Gr.trans HB.out hw)))) ?_
  iterate 6 refine tk ?_
  refine ck Tryz.call64 (fun w' hw => worksd_any _ (Lib.hid (HT.out.gr (Gr.trans HB.out hw)))) ?_
  iterate 2 refine tk ?_
  refine nlS hT HF fun vw5 HG => ?_
  clear hT T HF lx1 lx4 HB
  go_wp2
  refine hK.out _ _ ?_; clear hK K
  show Code.wp _ _ _ _ _
  refine fH (((((HG.out).er 3).er 2).er 1).er 0) fun Wx8 HF => ?_
  clear HG
  refine wp_ret ?_
  try simp only [Exit.then, Exit.inBlock]
  exact bodyPost_ret (v := .bool true) (by simp [results, Tryz.results13, go_sem]) rfl ⟨rfl, HF.out.1⟩

theorem sz_dnum {s : ByteArray} (hs : s.size ≤ 100) : sz (dnum s) ≤ 300 ∧ rz (dnum s) ≤ 1000 := by
  have h1 := idig_size s
  have h3 := ddn_size (idig s)
  have hB : (dB s).size ≤ 100 := by unfold dB; omega
  have e1 : wl (dK s) ≤ 290 := by
    unfold dK
    have a1 : wl (pnum (dA s)) ≤ 130 := pnum_130 (by unfold dA; have := dup_size (idig s); omega)
    have a2 : wl (10 ^ (dB s).size) ≤ 12 := wl_ten (by omega)
    have a3 : wl (pnum (dO s)) ≤ 130 := pnum_130 (by unfold dO; rw [cat_sz]; have : (⟨#[49]⟩ : ByteArray).size = 1 := rfl; omega)
    have a4 := wl_mul (pnum (dA s)) (10 ^ (dB s).size)
    have a5 : wl (pnum (dO s) - 10 ^ (dB s).size) ≤ 130 := Nat.le_trans (wl_mono (Nat.sub_le _ _)) a3
    have a6 := wl_add (pnum (dA s) * 10 ^ (dB s).size) (pnum (dO s) - 10 ^ (dB s).size)
    omega
  have e2 : Int.natAbs (dZ s) = dK s := by unfold dZ; split <;> omega
  have e3 : wl (10 ^ (dB s).size) ≤ 12 := wl_ten (by omega)
  unfold dnum
  split
  · refine ⟨sz_mkRat (by rw [e2]; omega) (by omega) (by decide), rz_mkRat ?_ ?_ (by decide)⟩
    · rw [e2]; have := tw_wl (dK s); omega
    · have := tw_wl (10 ^ (dB s).size); omega
  · exact ⟨Nat.le_trans (sz_of (wl_le.2 (by decide +kernel)) (wl_le.2 (by decide +kernel)) : sz (0 : Rat) ≤ 1) (by decide), Nat.le_trans (rz_of (tw_le.2 (by decide +kernel)) (tw_le.2 (by decide +kernel)) : rz (0 : Rat) ≤ 1) (by decide)⟩
theorem readsd_law (s : ByteArray) (w : World) (hs : s.size ≤ 9223372036854775807) (HT : Hid (Tab w)) :
    Calls Tryz.prog 13 #[.string s] w fun e w' => e = .returned (.bool true) ∧ Below w.heap.size w w' := by
  by_cases h1 : 4096 < s.size
  · have e1 : dcode s = 3 := by unfold dcode; rw [if_pos h1]
    have e2 : dnum s = 0 := by unfold dnum; rw [e1, if_neg (by decide)]
    exact rdsd_far s w hs h1 (Lib.hid e2) (Lib.hid e1) HT
  · by_cases h2 : 100 < s.size
    · exact rdsd_mid s w h2 (by omega) HT
    · obtain ⟨a, b⟩ := sz_dnum (show s.size ≤ 100 by omega)
      exact rdsd_ok s _ _ w (by omega) (Lib.hid rfl) (Lib.hid rfl) a b HT

end Go.Proofs.YtobojnodohjiaaaGreatDoor
