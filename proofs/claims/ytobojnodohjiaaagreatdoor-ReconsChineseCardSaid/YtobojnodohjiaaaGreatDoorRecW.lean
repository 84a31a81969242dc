
/- gussetlaw07: works. -/
import Derived.Test.YtobojnodohjiaaaGreatDoorRecW0
import Derived.Test.YtobojnodohjiaaaGreatDoorIntE
import Derived.Test.YtobojnodohjiaaaGreatDoorPJ
import Derived.Test.YtobojnodohjiaaaGreatDoorEarly
namespace Go.Proofs.YtobojnodohjiaaaGreatDoor
open Go.RowKit
set_option linter.unusedSimpArgs false
set_option linter.unusedVariables false
attribute [local go_sem ↓] Go.wp_at_zero Go.wp_at_succ
attribute [local go_sem ↓] eq_nat eq_nat_zero eq_int
attribute [local go_sem ↓] eq_frac eq_frac_zero eq_nat eq_nat_zero
set_option maxRecDepth 100000 in
set_option maxHeartbeats 16000000 in
theorem works7_any  (w : World)  (HT : Hid (Tab w)) :
    Calls Tryz.prog 27 #[] w fun e w' => e = .returned (.bool true) ∧ Below w.heap.size w w' := by
  go_enter Tryz.func27, Tryz.ntmps27
  have HF := Lib.hid (hp0 w)
  refine kS fun K hK => ?_
  refine wp_region_lit ?_
  go_wp2
  refine hK.out _ _ ?_; clear hK K
  show Code.wp _ _ _ _ _
  refine fH (HF.out) fun Wx0 HG => ?_
  clear HF; have HF := HG; clear HG
  refine wp_seq ?_
  have HB := HPb HF
  refine kS fun K hK => ?_
  refine sq 34 [(true, 0), (true, 1), (true, 2), (true, 3), (true, 4), (true, 5), (true, 6), (true, 7), (true, 8), (true, 9), (true, 10), (true, 11), (true, 12), (true, 13), (true, 14), (true, 15), (true, 16), (true, 17), (true, 18), (true, 19), (true, 20), (true, 21), (true, 22), (true, 23), (true, 24), (true, 25), (true, 26), (true, 27), (true, 28), (true, 29), (true, 30), (true, 31), (true, 32), (true, 33)] fun T hT => ?_
  refine ck Tryz.call105 (fun w' hw => bkt_ok (5) 9 (1/2 : Rat) ⟨#[49, 47, 50]⟩ _ (Lib.hid (bk_ok (by decide +kernel) (by decide +kernel))) (Lib.hid (by decide +kernel)) (by decide) (by decide) (by decide) (wl_le.2 (by decide +kernel)) (Lib.hid (HT.out.gr (Gr.trans HB.out hw)))) ?_
  iterate 2 refine tk ?_
  refine ck Tryz.call105 (fun w' hw => bkt_ok (-4) 9 (1/2 : Rat) ⟨#[49, 47, 50]⟩ _ (Lib.hid (bk_ok (by decide +kernel) (by decide +kernel))) (Lib.hid (by decide +kernel)) (by decide) (by decide) (by decide) (wl_le.2 (by decide +kernel)) (Lib.hid (HT.out.gr (Gr.trans HB.out hw)))) ?_
  iterate 3 refine tk ?_
  refine ck Tryz.call105 (fun w' hw => bkt_no (3) 9 _ (Lib.hid (bk_not (bk_none (k := 3) (by decide) (by decide +kernel)))) (by decide) (by decide) (by decide) (wl_le.2 (by decide +kernel))) ?_
  iterate 3 refine tk ?_
  refine ck Tryz.call105 (fun w' hw => bkt_ok (0) 3 (0 : Rat) ⟨#[48]⟩ _ (Lib.hid (bk_ok (by decide +kernel) (by decide +kernel))) (Lib.hid (by decide +kernel)) (by decide) (by decide) (by decide) (wl_le.2 (by decide +kernel)) (Lib.hid (HT.out.gr (Gr.trans HB.out hw)))) ?_
  iterate 3 refine tk ?_
  refine ck Tryz.call105 (fun w' hw => bkt_no (0) 2 _ (Lib.hid (bk_not (bk_none (k := 1) (by decide) (by decide +kernel)))) (by decide) (by decide) (by decide) (wl_le.2 (by decide +kernel))) ?_
  iterate 3 refine tk ?_
  refine ck Tryz.call105 (fun w' hw => bkt_no (10) 101 _ (Lib.hid (bk_not (bk_none (k := 8) (by decide) (by decide +kernel)))) (by decide) (by decide) (by decide) (wl_le.2 (by decide +kernel))) ?_
  iterate 3 refine tk ?_
  refine ck Tryz.call105 (fun w' hw => bkt_ok (67) 101 (-1/3 : Rat) ⟨#[45, 49, 47, 51]⟩ _ (Lib.hid (bk_ok (by decide +kernel) (by decide +kernel))) (Lib.hid (by decide +kernel)) (by decide) (by decide) (by decide) (wl_le.2 (by decide +kernel)) (Lib.hid (HT.out.gr (Gr.trans HB.out hw)))) ?_
  iterate 3 refine tk ?_
  refine ck Tryz.call105 (fun w' hw => bkt_ok (34) 101 (1/3 : Rat) ⟨#[49, 47, 51]⟩ _ (Lib.hid (bk_ok (by decide +kernel) (by decide +kernel))) (Lib.hid (by decide +kernel)) (by decide) (by decide) (by decide) (wl_le.2 (by decide +kernel)) (Lib.hid (HT.out.gr (Gr.trans HB.out hw)))) ?_
  iterate 3 refine tk ?_
  refine ck Tryz.call105 (fun w' hw => bkt_ok (20) 101 (-1/5 : Rat) ⟨#[45, 49, 47, 53]⟩ _ (Lib.hid (bk_ok (by decide +kernel) (by decide +kernel))) (Lib.hid (by decide +kernel)) (by decide) (by decide) (by decide) (wl_le.2 (by decide +kernel)) (Lib.hid (HT.out.gr (Gr.trans HB.out hw)))) ?_
  iterate 2 refine tk ?_
  refine nlS hT HF fun vw1 HG => ?_
  clear hT T HF HB
  go_wp2
  refine hK.out _ _ ?_; clear hK K
  show Code.wp _ _ _ _ _
  have HF := HG; clear HG
  refine wp_cond_false (by rfl) ?_
  refine wp_skip ?_
  show Code.wp _ _ _ _ _
  have su1 : wl (Int.natAbs (5)) ≤ 1 := wl_le.2 (by decide +kernel)
  have su_0_3 : wl 9 ≤ 1 := wl_le.2 (by decide +kernel)
  have su2 : wl (Int.natAbs (0)) ≤ 1 := wl_le.2 (by decide +kernel)
  refine kS fun K hK => ?_
  refine sq 3 [(true, 0), (true, 1), (true, 2)] fun T hT => ?_
  refine ck Tryz.call23 (fun w' hw => iof_any (5) _ (by decide) (by decide)) ?_
  refine ck Tryz.call24 (fun w' hw => nzof 9 _ (by decide)) ?_
  refine ck Tryz.call23 (fun w' hw => iof_any (0) _ (by decide) (by decide)) ?_
  refine nlS hT HF fun vw2 HG => ?_
  clear hT T HF
  go_wp2
  refine hK.out _ _ ?_; clear hK K
  show Code.wp _ _ _ _ _
  refine fH ((((HG.out).al (b := vw2.heap.size) (by first | rfl | simp) (by decide)).al (b := vw2.heap.size + 1) (by first | rfl | simp) (by decide)).al (b := vw2.heap.size + 1 + 1) (by first | rfl | simp) (by decide)) fun Wx3 HF => ?_
  clear HG
  generalize vw2.heap.size + 1 + 1 = gx3 at *
  generalize vw2.heap.size + 1 = gx2 at *
  generalize vw2.heap.size = gx1 at *
  refine wp_seq ?_
  have HZ3 : Hid (((1 : Int) : Rat) / ((2 : Int) : Rat) = (1/2 : Rat)) := Lib.hid (by decide +kernel)
  have su3 : sz ((1/2 : Rat)) ≤ 4 := sz_of (wl_le.2 (by decide +kernel)) (wl_le.2 (by decide +kernel))
  have HZ4 : Hid (((1 : Int) : Rat) / ((3 : Int) : Rat) = (1/3 : Rat)) := Lib.hid (by decide +kernel)
  have su4 : sz ((1/3 : Rat)) ≤ 4 := sz_of (wl_le.2 (by decide +kernel)) (wl_le.2 (by decide +kernel))
  have HZ5 : Hid (((2 : Int) : Rat) / ((1 : Int) : Rat) = (2 : Rat)) := Lib.hid (by decide +kernel)
  have su5 : sz ((2 : Rat)) ≤ 4 := sz_of (wl_le.2 (by decide +kernel)) (wl_le.2 (by decide +kernel))
  have HZ6 : Hid (((2 : Int) : Rat) / ((1 : Int) : Rat) = (2 : Rat)) := Lib.hid (by decide +kernel)
  have su6 : sz ((2 : Rat)) ≤ 4 := sz_of (wl_le.2 (by decide +kernel)) (wl_le.2 (by decide +kernel))
  have su_1_4 : wl 8 ≤ 1 := wl_le.2 (by decide +kernel)
  have lx1 := HF.out.c 0 rfl
  have lx2 := HF.out.c 1 rfl
  have lx3 := HF.out.c 2 rfl
  refine kS fun K hK => ?_
  refine pd 21 [(true, 1), (true, 2), (true, 0), (true, 3), (true, 4), (true, 5), (true, 7), (true, 8), (true, 6), (true, 9), (true, 10), (true, 11), (true, 13), (true, 12), (true, 14), (true, 15), (true, 16), (true, 17), (true, 18), (true, 19), (true, 20)] fun T hT => ?_
  iterate 2 refine tk ?_
  refine ck Tryz.call26 (fun w' hw => ofr_any (1) (2) (1/2 : Rat) _ (Lib.hid HZ3.out) (by decide) om om om om) ?_
  refine ck Tryz.call33 (fun w' hw => rFits (1/2 : Rat) (5) (9) true _ (decide_eq_true (by decide +kernel)) om om om) ?_
  iterate 4 refine tk ?_
  refine ck Tryz.call26 (fun w' hw => ofr_any (1) (3) (1/3 : Rat) _ (Lib.hid HZ4.out) (by decide) om om om om) ?_
  refine ck Tryz.call33 (fun w' hw => rFits (1/3 : Rat) (0) (9) false _ (decide_eq_false (by decide +kernel)) om om om) ?_
  iterate 3 refine tk ?_
  refine ck Tryz.call26 (fun w' hw => ofr_any (2) (1) (2 : Rat) _ (Lib.hid HZ5.out) (by decide) om om om om) ?_
  refine ck Tryz.call34 (fun w' hw => rFar (2 : Rat) (9) true _ (decide_eq_true (by decide +kernel)) om om) ?_
  iterate 3 refine tk ?_
  refine ck Tryz.call26 (fun w' hw => ofr_any (2) (1) (2 : Rat) _ (Lib.hid HZ6.out) (by decide) om om om om) ?_
  refine ck Tryz.call24 (fun w' hw => nzof 8 _ (by decide)) ?_
  refine ck Tryz.call34 (fun w' hw => rFar (2 : Rat) (8) false _ (decide_eq_false (by decide +kernel)) om om) ?_
  refine nlD hT HF fun vw3 HG => ?_
  clear hT T HF lx1 lx2 lx3
  go_wp2
  refine hK.out _ _ ?_; clear hK K
  show Code.wp _ _ _ _ _
  refine fH ((((HG.out).er 2).er 1).er 0) fun Wx4 HF => ?_
  clear HG
  refine wp_cond_false (by rfl) ?_
  refine wp_skip ?_
  show Code.wp _ _ _ _ _
  have HB := HPb HF
  refine kS fun K hK => ?_
  have HG0 : Hid (Gr Wx4 Wx4) := Lib.hid (Gr.refl _)
  refine sq 24 [(true, 0), (true, 1), (false, 2), (true, 3), (true, 4), (true, 5), (true, 6), (true, 7), (false, 8), (true, 9), (true, 10), (true, 11), (true, 12), (true, 13), (true, 14), (false, 15), (true, 16), (true, 17), (true, 18), (true, 19), (true, 20), (true, 21), (true, 22), (true, 23)] fun T hT => ?_
  iterate 2 refine tk ?_
  refine wpPlan_slice (cs := #[.int .i64 2, .int .u32 3, .int .i64 3, .int .u32 5]) (E := 69) (n := 2) rfl (by rfl) (fun w' hw => ?_) (fun gx4 vv4 hg0 yx4 bx4 => ?_)
  · go_simp
  clear yx4
  replace HG0 := Lib.hid (HG0.out.trans hg0)
  have HGS := Lib.hid hg0; clear hg0
  replace HB := Lib.hid (HB.out.trans (HGS.out.mono HB.out.size))
  clear HGS
  have BX4 := Lib.hid bx4; clear bx4
  simp only [Act.put, lA, lB, lC]
  refine ck Tryz.call106 (fun w' hw => joined_2 2 3 3 5 gx4 8 15 ⟨#[56]⟩ ⟨#[49, 53]⟩ ⟨#[56, 32, 98, 121, 32]⟩ ⟨#[56, 32, 98, 121, 32, 49, 53]⟩ _ (BX4.out.gr hw) (by decide) (by decide) (by decide) (by decide) (by decide) (by decide) (Lib.hid (chv_some (lt_two (P := fun i => 0 < (f2r 2 3 3 5 i).2) (by decide) (by decide)) (chn_two (by decide) (by decide) (by decide +kernel) (by decide) (by decide) (by decide) (by decide)))) (wl_le.2 (by decide +kernel)) (wl_le.2 (by decide +kernel)) (Lib.hid (itx_lit 8 (n := 8) (by decide) (dec_lit 1 (by decide +kernel) (by decide +kernel)))) (Lib.hid (congrArg (fun l : List UInt8 => (⟨l.toArray⟩ : ByteArray)) (dec_lit 2 (by decide +kernel) (by decide +kernel)))) (Lib.hid (by decide +kernel)) (Lib.hid (by decide +kernel)) (by decide) (by decide) (by decide) (Lib.hid (HT.out.gr (Gr.trans HB.out hw)))) ?_
  iterate 4 refine tk ?_
  refine wpPlan_slice (cs := #[.int .i64 1, .int .u32 4, .int .i64 3, .int .u32 6]) (E := 69) (n := 2) rfl (by rfl) (fun w' hw => ?_) (fun gx5 vv5 hg0 yx5 bx5 => ?_)
  · go_simp
  clear yx5
  replace HG0 := Lib.hid (HG0.out.trans hg0)
  have HGS := Lib.hid hg0; clear hg0
  replace BX4 := Lib.hid (BX4.out.gr HGS.out)
  replace HB := Lib.hid (HB.out.trans (HGS.out.mono HB.out.size))
  clear HGS
  have BX5 := Lib.hid bx5; clear bx5
  simp only [Act.put, lA, lB, lC]
  refine ck Tryz.call106 (fun w' hw => joined_2 1 3 4 6 gx5 9 12 ⟨#[57]⟩ ⟨#[49, 50]⟩ ⟨#[57, 32, 98, 121, 32]⟩ ⟨#[57, 32, 98, 121, 32, 49, 50]⟩ _ (BX5.out.gr hw) (by decide) (by decide) (by decide) (by decide) (by decide) (by decide) (Lib.hid (chv_some (lt_two (P := fun i => 0 < (f2r 1 4 3 6 i).2) (by decide) (by decide)) (chn_two (by decide) (by decide) (by decide +kernel) (by decide) (by decide) (by decide) (by decide)))) (wl_le.2 (by decide +kernel)) (wl_le.2 (by decide +kernel)) (Lib.hid (itx_lit 9 (n := 9) (by decide) (dec_lit 1 (by decide +kernel) (by decide +kernel)))) (Lib.hid (congrArg (fun l : List UInt8 => (⟨l.toArray⟩ : ByteArray)) (dec_lit 2 (by decide +kernel) (by decide +kernel)))) (Lib.hid (by decide +kernel)) (Lib.hid (by decide +kernel)) (by decide) (by decide) (by decide) (Lib.hid (HT.out.gr (Gr.trans HB.out hw)))) ?_
  iterate 5 refine tk ?_
  refine wpPlan_slice (cs := #[.int .i64 1, .int .u32 4, .int .i64 2, .int .u32 6]) (E := 69) (n := 2) rfl (by rfl) (fun w' hw => ?_) (fun gx6 vv6 hg0 yx6 bx6 => ?_)
  · go_simp
  clear yx6
  replace HG0 := Lib.hid (HG0.out.trans hg0)
  have HGS := Lib.hid hg0; clear hg0
  replace BX4 := Lib.hid (BX4.out.gr HGS.out)
  replace BX5 := Lib.hid (BX5.out.gr HGS.out)
  replace HB := Lib.hid (HB.out.trans (HGS.out.mono HB.out.size))
  clear HGS
  have BX6 := Lib.hid bx6; clear bx6
  simp only [Act.put, lA, lB, lC]
  refine ck Tryz.call106 (fun w' hw => joined_2n 1 2 4 6 gx6 _ (BX6.out.gr hw) (by decide) (by decide) (by decide) (by decide) (by decide) (by decide) (Lib.hid (chv_none (lt_two (P := fun i => 0 < (f2r 1 4 2 6 i).2) (by decide) (by decide)) (chn_two_no (by decide) (by decide) (by decide))))) ?_
  iterate 3 refine tk ?_
  refine ck Tryz.call106 (fun w' hw => joined_0 0 1 ⟨#[48]⟩ ⟨#[49]⟩ ⟨#[48, 32, 98, 121, 32]⟩ ⟨#[48, 32, 98, 121, 32, 49]⟩ _ (Lib.hid (chv_some (fun i hi => absurd hi (Nat.not_lt_zero _)) rfl)) (wl_le.2 (by decide +kernel)) (wl_le.2 (by decide +kernel)) (Lib.hid (itx_lit 0 (n := 0) (by decide) (dec_lit 1 (by decide +kernel) (by decide +kernel)))) (Lib.hid (congrArg (fun l : List UInt8 => (⟨l.toArray⟩ : ByteArray)) (dec_lit 1 (by decide +kernel) (by decide +kernel)))) (Lib.hid (by decide +kernel)) (Lib.hid (by decide +kernel)) (by decide) (by decide) (by decide) (Lib.hid (HT.out.gr (Gr.trans HB.out hw)))) ?_
  iterate 3 refine tk ?_
  refine wpPlan_nil (hT.out _ _ ?_)
  intro vw4 hg
  simp only [puts, Act.put, lA, lB, lC, lD, lE, ↓reduceIte, Nat.reduceEqDiff]
  have HG := Lib.hid (HF.out.gr (HG0.out.trans hg))
  clear hT T HF hg HG0 BX4 BX5 BX6 HB
  go_wp2
  refine hK.out _ _ ?_; clear hK K
  show Code.wp _ _ _ _ _
  have HF := HG; clear HG
  refine wp_ret ?_
  try simp only [Exit.then, Exit.inBlock]
  exact bodyPost_ret (v := .bool true) (by simp [results, Tryz.results27, go_sem]) rfl ⟨rfl, HF.out.1⟩

end Go.Proofs.YtobojnodohjiaaaGreatDoor
