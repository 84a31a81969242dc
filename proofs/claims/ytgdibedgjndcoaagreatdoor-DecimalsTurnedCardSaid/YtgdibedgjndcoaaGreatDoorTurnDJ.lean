
/- DecimalsTurned: all ways. -/
import Derived.Test.YtgdibedgjndcoaaGreatDoorTurnD
namespace Go.Proofs.YtgdibedgjndcoaaGreatDoor
open Go.RowKit
set_option linter.unusedSimpArgs false
set_option linter.unusedVariables false
attribute [local go_sem ↓] Go.wp_at_zero Go.wp_at_succ
attribute [local go_sem ↓] eq_nat eq_nat_zero eq_int eq_frac eq_frac_zero
attribute [local go_sem] Instr.field asAgg
set_option maxRecDepth 100000 in
set_option maxHeartbeats 8000000 in
theorem dturn_big1 (bbxn : Bool) (vxn : Value) (kxn : Nat) (fxn : Nat → Nat) (mxn : Nat) (ixn : Int) (vxd : Value) (kxd : Nat) (fxd : Nat → Nat) (mxd : Nat) (bbyn : Bool) (vyn : Value) (kyn : Nat) (fyn : Nat → Nat) (myn : Nat) (iyn : Int) (vyd : Value) (kyd : Nat) (fyd : Nat → Nat) (myd : Nat) (a b : Rat) (m : Int) (n : Int) (w : World) (HWxn : Hid (Wa w vxn kxn fxn)) (HFxn : Hid (∀ i, i < kxn → fxn i < 4294967296)) (HVxn : Hid (vl fxn kxn = mxn)) (HAxn : Hid ((if bbxn then -((mxn : Nat) : Int) else ((mxn : Nat) : Int)) = ixn)) (HWxd : Hid (Wa w vxd kxd fxd)) (HFxd : Hid (∀ i, i < kxd → fxd i < 4294967296)) (HVxd : Hid (vl fxd kxd = mxd)) (HQx : Hid (mkRat ixn (mxd + 1) = a)) (HWyn : Hid (Wa w vyn kyn fyn)) (HFyn : Hid (∀ i, i < kyn → fyn i < 4294967296)) (HVyn : Hid (vl fyn kyn = myn)) (HAyn : Hid ((if bbyn then -((myn : Nat) : Int) else ((myn : Nat) : Int)) = iyn)) (HWyd : Hid (Wa w vyd kyd fyd)) (HFyd : Hid (∀ i, i < kyd → fyd i < 4294967296)) (HVyd : Hid (vl fyd kyd = myd)) (HQy : Hid (mkRat iyn (myd + 1) = b))  (hkxn : 4 < kxn) (HT : Hid (Tab w)) :
    Calls Tryz.prog 10 #[.agg #[.bool bbxn, vxn, vxd], .agg #[.bool bbyn, vyn, vyd], .int .u8 (m), .int .u8 (n)] w fun e w' => e = .returned (.bool true) ∧ Below w.heap.size w w' := by
  obtain ⟨ao_xn, c_xn, rfl⟩ := HWxn.out.slice
  obtain ⟨ao_xd, c_xd, rfl⟩ := HWxd.out.slice
  obtain ⟨ao_yn, c_yn, rfl⟩ := HWyn.out.slice
  obtain ⟨ao_yd, c_yd, rfl⟩ := HWyd.out.slice
  go_enter Tryz.func10, Tryz.ntmps10
  have HF := Lib.hid (hp0 w)
  refine kS fun K hK => ?_
  refine wp_region_lit ?_
  go_wp2
  refine hK.out _ _ ?_; clear hK K
  show Code.wp _ _ _ _ _
  refine fH (((HF.out).al (b := w.heap.size) (by first | rfl | simp) (by decide)).al (b := w.heap.size + 1) (by first | rfl | simp) (by decide)) fun Wx0 HG => ?_
  clear HF; have HF := HG; clear HG
  generalize w.heap.size + 1 = gx1 at *
  refine wp_seq ?_
  have hd1 : 4 < ((kxn : Int)) := ok
  have lx0 := HF.out.c 0 rfl
  refine kS fun K hK => ?_
  refine sq 24 [(true, 0), (true, 1), (true, 2), (true, 3), (true, 4), (true, 5), (true, 6), (true, 7), (true, 8), (true, 9), (true, 10), (true, 11), (true, 12), (true, 13), (true, 14), (true, 15), (true, 16), (true, 17), (true, 18), (true, 19), (true, 20), (true, 21), (true, 22), (true, 23)] fun T hT => ?_
  iterate 6 refine tk ?_
  iterate 4 refine sk ?_
  iterate 2 refine tk ?_
  iterate 5 refine sk ?_
  iterate 2 refine tk ?_
  iterate 4 refine sk ?_
  refine tk ?_
  refine nlS hT HF fun vw1 HG => ?_
  clear hT T HF lx0
  go_wp2
  refine hK.out _ _ ?_; clear hK K
  show Code.wp _ _ _ _ _
  have HF := HG; clear HG
  clear hd1
  refine wp_cond_true (by rfl) ?_
  have HB := HPb HF
  refine kS fun K hK => ?_
  refine sq 2 [(true, 0), (true, 1)] fun T hT => ?_
  refine ck Tryz.call35 (fun w' hw => worksd_any _ (Lib.hid (HT.out.gr (Gr.trans HB.out hw)))) ?_
  refine tk ?_
  refine nlS hT HF fun vw2 HG => ?_
  clear hT T HF HB
  go_wp2
  refine hK.out _ _ ?_; clear hK K
  show Code.wp _ _ _ _ _
  have HF := HG; clear HG
  refine wp_ret ?_
  try simp only [Exit.then, Exit.inBlock]
  exact bodyPost_ret (v := .bool true) (by simp [results, Tryz.results10, go_sem]) rfl ⟨rfl, HF.out.1⟩

set_option maxRecDepth 100000 in
set_option maxHeartbeats 8000000 in
theorem dturn_big2 (bbxn : Bool) (vxn : Value) (kxn : Nat) (fxn : Nat → Nat) (mxn : Nat) (ixn : Int) (vxd : Value) (kxd : Nat) (fxd : Nat → Nat) (mxd : Nat) (bbyn : Bool) (vyn : Value) (kyn : Nat) (fyn : Nat → Nat) (myn : Nat) (iyn : Int) (vyd : Value) (kyd : Nat) (fyd : Nat → Nat) (myd : Nat) (a b : Rat) (m : Int) (n : Int) (w : World) (HWxn : Hid (Wa w vxn kxn fxn)) (HFxn : Hid (∀ i, i < kxn → fxn i < 4294967296)) (HVxn : Hid (vl fxn kxn = mxn)) (HAxn : Hid ((if bbxn then -((mxn : Nat) : Int) else ((mxn : Nat) : Int)) = ixn)) (HWxd : Hid (Wa w vxd kxd fxd)) (HFxd : Hid (∀ i, i < kxd → fxd i < 4294967296)) (HVxd : Hid (vl fxd kxd = mxd)) (HQx : Hid (mkRat ixn (mxd + 1) = a)) (HWyn : Hid (Wa w vyn kyn fyn)) (HFyn : Hid (∀ i, i < kyn → fyn i < 4294967296)) (HVyn : Hid (vl fyn kyn = myn)) (HAyn : Hid ((if bbyn then -((myn : Nat) : Int) else ((myn : Nat) : Int)) = iyn)) (HWyd : Hid (Wa w vyd kyd fyd)) (HFyd : Hid (∀ i, i < kyd → fyd i < 4294967296)) (HVyd : Hid (vl fyd kyd = myd)) (HQy : Hid (mkRat iyn (myd + 1) = b)) (hkxn : kxn ≤ 4) (hkxd : 4 < kxd) (HT : Hid (Tab w)) :
    Calls Tryz.prog 10 #[.agg #[.bool bbxn, vxn, vxd], .agg #[.bool bbyn, vyn, vyd], .int .u8 (m), .int .u8 (n)] w fun e w' => e = .returned (.bool true) ∧ Below w.heap.size w w' := by
  obtain ⟨ao_xn, c_xn, rfl⟩ := HWxn.out.slice
  obtain ⟨ao_xd, c_xd, rfl⟩ := HWxd.out.slice
  obtain ⟨ao_yn, c_yn, rfl⟩ := HWyn.out.slice
  obtain ⟨ao_yd, c_yd, rfl⟩ := HWyd.out.slice
  go_enter Tryz.func10, Tryz.ntmps10
  have HF := Lib.hid (hp0 w)
  refine kS fun K hK => ?_
  refine wp_region_lit ?_
  go_wp2
  refine hK.out _ _ ?_; clear hK K
  show Code.wp _ _ _ _ _
  refine fH (((HF.out).al (b := w.heap.size) (by first | rfl | simp) (by decide)).al (b := w.heap.size + 1) (by first | rfl | simp) (by decide)) fun Wx0 HG => ?_
  clear HF; have HF := HG; clear HG
  generalize w.heap.size + 1 = gx1 at *
  refine wp_seq ?_
  have hd1 : ¬ (4 < ((kxn : Int))) := ok
  have hd2 : 4 < ((kxd : Int)) := ok
  have lx0 := HF.out.c 0 rfl
  refine kS fun K hK => ?_
  refine sq 24 [(true, 0), (true, 1), (true, 2), (true, 3), (true, 4), (true, 5), (true, 6), (true, 7), (true, 8), (true, 9), (true, 10), (true, 11), (true, 12), (true, 13), (true, 14), (true, 15), (true, 16), (true, 17), (true, 18), (true, 19), (true, 20), (true, 21), (true, 22), (true, 23)] fun T hT => ?_
  iterate 12 refine tk ?_
  iterate 5 refine sk ?_
  iterate 2 refine tk ?_
  iterate 4 refine sk ?_
  refine tk ?_
  refine nlS hT HF fun vw1 HG => ?_
  clear hT T HF lx0
  go_wp2
  refine hK.out _ _ ?_; clear hK K
  show Code.wp _ _ _ _ _
  have HF := HG; clear HG
  clear hd1 hd2
  refine wp_cond_true (by rfl) ?_
  have HB := HPb HF
  refine kS fun K hK => ?_
  refine sq 2 [(true, 0), (true, 1)] fun T hT => ?_
  refine ck Tryz.call35 (fun w' hw => worksd_any _ (Lib.hid (HT.out.gr (Gr.trans HB.out hw)))) ?_
  refine tk ?_
  refine nlS hT HF fun vw2 HG => ?_
  clear hT T HF HB
  go_wp2
  refine hK.out _ _ ?_; clear hK K
  show Code.wp _ _ _ _ _
  have HF := HG; clear HG
  refine wp_ret ?_
  try simp only [Exit.then, Exit.inBlock]
  exact bodyPost_ret (v := .bool true) (by simp [results, Tryz.results10, go_sem]) rfl ⟨rfl, HF.out.1⟩

set_option maxRecDepth 100000 in
set_option maxHeartbeats 8000000 in
theorem dturn_big3 (bbxn : Bool) (vxn : Value) (kxn : Nat) (fxn : Nat → Nat) (mxn : Nat) (ixn : Int) (vxd : Value) (kxd : Nat) (fxd : Nat → Nat) (mxd : Nat) (bbyn : Bool) (vyn : Value) (kyn : Nat) (fyn : Nat → Nat) (myn : Nat) (iyn : Int) (vyd : Value) (kyd : Nat) (fyd : Nat → Nat) (myd : Nat) (a b : Rat) (m : Int) (n : Int) (w : World) (HWxn : Hid (Wa w vxn kxn fxn)) (HFxn : Hid (∀ i, i < kxn → fxn i < 4294967296)) (HVxn : Hid (vl fxn kxn = mxn)) (HAxn : Hid ((if bbxn then -((mxn : Nat) : Int) else ((mxn : Nat) : Int)) = ixn)) (HWxd : Hid (Wa w vxd kxd fxd)) (HFxd : Hid (∀ i, i < kxd → fxd i < 4294967296)) (HVxd : Hid (vl fxd kxd = mxd)) (HQx : Hid (mkRat ixn (mxd + 1) = a)) (HWyn : Hid (Wa w vyn kyn fyn)) (HFyn : Hid (∀ i, i < kyn → fyn i < 4294967296)) (HVyn : Hid (vl fyn kyn = myn)) (HAyn : Hid ((if bbyn then -((myn : Nat) : Int) else ((myn : Nat) : Int)) = iyn)) (HWyd : Hid (Wa w vyd kyd fyd)) (HFyd : Hid (∀ i, i < kyd → fyd i < 4294967296)) (HVyd : Hid (vl fyd kyd = myd)) (HQy : Hid (mkRat iyn (myd + 1) = b)) (hkxn : kxn ≤ 4) (hkxd : kxd ≤ 4) (hkyn : 4 < kyn) (HT : Hid (Tab w)) :
    Calls Tryz.prog 10 #[.agg #[.bool bbxn, vxn, vxd], .agg #[.bool bbyn, vyn, vyd], .int .u8 (m), .int .u8 (n)] w fun e w' => e = .returned (.bool true) ∧ Below w.heap.size w w' := by
  obtain ⟨ao_xn, c_xn, rfl⟩ := HWxn.out.slice
  obtain ⟨ao_xd, c_xd, rfl⟩ := HWxd.out.slice
  obtain ⟨ao_yn, c_yn, rfl⟩ := HWyn.out.slice
  obtain ⟨ao_yd, c_yd, rfl⟩ := HWyd.out.slice
  go_enter Tryz.func10, Tryz.ntmps10
  have HF := Lib.hid (hp0 w)
  refine kS fun K hK => ?_
  refine wp_region_lit ?_
  go_wp2
  refine hK.out _ _ ?_; clear hK K
  show Code.wp _ _ _ _ _
  refine fH (((HF.out).al (b := w.heap.size) (by first | rfl | simp) (by decide)).al (b := w.heap.size + 1) (by first | rfl | simp) (by decide)) fun Wx0 HG => ?_
  clear HF; have HF := HG; clear HG
  generalize w.heap.size + 1 = gx1 at *
  refine wp_seq ?_
  have hd1 : ¬ (4 < ((kxn : Int))) := ok
  have hd2 : ¬ (4 < ((kxd : Int))) := ok
  have hd3 : 4 < ((kyn : Int)) := ok
  have lx0 := HF.out.c 0 rfl
  have lx1 := HF.out.c 1 rfl
  refine kS fun K hK => ?_
  refine sq 24 [(true, 0), (true, 1), (true, 2), (true, 3), (true, 4), (true, 5), (true, 6), (true, 7), (true, 8), (true, 9), (true, 10), (true, 11), (true, 12), (true, 13), (true, 14), (true, 15), (true, 16), (true, 17), (true, 18), (true, 19), (true, 20), (true, 21), (true, 22), (true, 23)] fun T hT => ?_
  iterate 19 refine tk ?_
  iterate 4 refine sk ?_
  refine tk ?_
  refine nlS hT HF fun vw1 HG => ?_
  clear hT T HF lx0 lx1
  go_wp2
  refine hK.out _ _ ?_; clear hK K
  show Code.wp _ _ _ _ _
  have HF := HG; clear HG
  clear hd1 hd2 hd3
  refine wp_cond_true (by rfl) ?_
  have HB := HPb HF
  refine kS fun K hK => ?_
  refine sq 2 [(true, 0), (true, 1)] fun T hT => ?_
  refine ck Tryz.call35 (fun w' hw => worksd_any _ (Lib.hid (HT.out.gr (Gr.trans HB.out hw)))) ?_
  refine tk ?_
  refine nlS hT HF fun vw2 HG => ?_
  clear hT T HF HB
  go_wp2
  refine hK.out _ _ ?_; clear hK K
  show Code.wp _ _ _ _ _
  have HF := HG; clear HG
  refine wp_ret ?_
  try simp only [Exit.then, Exit.inBlock]
  exact bodyPost_ret (v := .bool true) (by simp [results, Tryz.results10, go_sem]) rfl ⟨rfl, HF.out.1⟩

set_option maxRecDepth 100000 in
set_option maxHeartbeats 8000000 in
theorem dturn_big4 (bbxn : Bool) (vxn : Value) (kxn : Nat) (fxn : Nat → Nat) (mxn : Nat) (ixn : Int) (vxd : Value) (kxd : Nat) (fxd : Nat → Nat) (mxd : Nat) (bbyn : Bool) (vyn : Value) (kyn : Nat) (fyn : Nat → Nat) (myn : Nat) (iyn : Int) (vyd : Value) (kyd : Nat) (fyd : Nat → Nat) (myd : Nat) (a b : Rat) (m : Int) (n : Int) (w : World) (HWxn : Hid (Wa w vxn kxn fxn)) (HFxn : Hid (∀ i, i < kxn → fxn i < 4294967296)) (HVxn : Hid (vl fxn kxn = mxn)) (HAxn : Hid ((if bbxn then -((mxn : Nat) : Int) else ((mxn : Nat) : Int)) = ixn)) (HWxd : Hid (Wa w vxd kxd fxd)) (HFxd : Hid (∀ i, i < kxd → fxd i < 4294967296)) (HVxd : Hid (vl fxd kxd = mxd)) (HQx : Hid (mkRat ixn (mxd + 1) = a)) (HWyn : Hid (Wa w vyn kyn fyn)) (HFyn : Hid (∀ i, i < kyn → fyn i < 4294967296)) (HVyn : Hid (vl fyn kyn = myn)) (HAyn : Hid ((if bbyn then -((myn : Nat) : Int) else ((myn : Nat) : Int)) = iyn)) (HWyd : Hid (Wa w vyd kyd fyd)) (HFyd : Hid (∀ i, i < kyd → fyd i < 4294967296)) (HVyd : Hid (vl fyd kyd = myd)) (HQy : Hid (mkRat iyn (myd + 1) = b)) (hkxn : kxn ≤ 4) (hkxd : kxd ≤ 4) (hkyn : kyn ≤ 4) (hkyd : 4 < kyd) (HT : Hid (Tab w)) :
    Calls Tryz.prog 10 #[.agg #[.bool bbxn, vxn, vxd], .agg #[.bool bbyn, vyn, vyd], .int .u8 (m), .int .u8 (n)] w fun e w' => e = .returned (.bool true) ∧ Below w.heap.size w w' := by
  obtain ⟨ao_xn, c_xn, rfl⟩ := HWxn.out.slice
  obtain ⟨ao_xd, c_xd, rfl⟩ := HWxd.out.slice
  obtain ⟨ao_yn, c_yn, rfl⟩ := HWyn.out.slice
  obtain ⟨ao_yd, c_yd, rfl⟩ := HWyd.out.slice
  go_enter Tryz.func10, Tryz.ntmps10
  have HF := Lib.hid (hp0 w)
  refine kS fun K hK => ?_
  refine wp_region_lit ?_
  go_wp2
  refine hK.out _ _ ?_; clear hK K
  show Code.wp _ _ _ _ _
  refine fH (((HF.out).al (b := w.heap.size) (by first | rfl | simp) (by decide)).al (b := w.heap.size + 1) (by first | rfl | simp) (by decide)) fun Wx0 HG => ?_
  clear HF; have HF := HG; clear HG
  generalize w.heap.size + 1 = gx1 at *
  refine wp_seq ?_
  have hd1 : ¬ (4 < ((kxn : Int))) := ok
  have hd2 : ¬ (4 < ((kxd : Int))) := ok
  have hd3 : ¬ (4 < ((kyn : Int))) := ok
  have hd4 : 4 < ((kyd : Int)) := ok
  have lx0 := HF.out.c 0 rfl
  have lx1 := HF.out.c 1 rfl
  refine kS fun K hK => ?_
  refine sq 24 [(true, 0), (true, 1), (true, 2), (true, 3), (true, 4), (true, 5), (true, 6), (true, 7), (true, 8), (true, 9), (true, 10), (true, 11), (true, 12), (true, 13), (true, 14), (true, 15), (true, 16), (true, 17), (true, 18), (true, 19), (true, 20), (true, 21), (true, 22), (true, 23)] fun T hT => ?_
  iterate 24 refine tk ?_
  refine nlS hT HF fun vw1 HG => ?_
  clear hT T HF lx0 lx1
  go_wp2
  refine hK.out _ _ ?_; clear hK K
  show Code.wp _ _ _ _ _
  have HF := HG; clear HG
  clear hd1 hd2 hd3 hd4
  refine wp_cond_true (by rfl) ?_
  have HB := HPb HF
  refine kS fun K hK => ?_
  refine sq 2 [(true, 0), (true, 1)] fun T hT => ?_
  refine ck Tryz.call35 (fun w' hw => worksd_any _ (Lib.hid (HT.out.gr (Gr.trans HB.out hw)))) ?_
  refine tk ?_
  refine nlS hT HF fun vw2 HG => ?_
  clear hT T HF HB
  go_wp2
  refine hK.out _ _ ?_; clear hK K
  show Code.wp _ _ _ _ _
  have HF := HG; clear HG
  refine wp_ret ?_
  try simp only [Exit.then, Exit.inBlock]
  exact bodyPost_ret (v := .bool true) (by simp [results, Tryz.results10, go_sem]) rfl ⟨rfl, HF.out.1⟩

theorem turnd_law (bbxn : Bool) (vxn : Value) (kxn : Nat) (fxn : Nat → Nat) (vxd : Value) (kxd : Nat) (fxd : Nat → Nat) (bbyn : Bool) (vyn : Value) (kyn : Nat) (fyn : Nat → Nat) (vyd : Value) (kyd : Nat) (fyd : Nat → Nat) (m n : Int) (w : World) (HWxn : Hid (Wa w vxn kxn fxn)) (HFxn : Hid (∀ i, i < kxn → fxn i < 4294967296)) (HWxd : Hid (Wa w vxd kxd fxd)) (HFxd : Hid (∀ i, i < kxd → fxd i < 4294967296)) (HWyn : Hid (Wa w vyn kyn fyn)) (HFyn : Hid (∀ i, i < kyn → fyn i < 4294967296)) (HWyd : Hid (Wa w vyd kyd fyd)) (HFyd : Hid (∀ i, i < kyd → fyd i < 4294967296)) (hm1 : 0 ≤ m) (hm2 : m ≤ 255) (hn1 : 0 ≤ n) (hn2 : n ≤ 255) (HT : Hid (Tab w)) :
    Calls Tryz.prog 10 #[.agg #[.bool bbxn, vxn, vxd], .agg #[.bool bbyn, vyn, vyd], .int .u8 m, .int .u8 n] w fun e w' => e = .returned (.bool true) ∧ Below w.heap.size w w' := by
  obtain ⟨ixn, HAxn⟩ : ∃ z, Hid ((if bbxn then -((vl fxn kxn : Nat) : Int) else ((vl fxn kxn : Nat) : Int)) = z) := ⟨_, Lib.hid rfl⟩
  obtain ⟨a, HQx⟩ : ∃ z, Hid (mkRat ixn (vl fxd kxd + 1) = z) := ⟨_, Lib.hid rfl⟩
  obtain ⟨iyn, HAyn⟩ : ∃ z, Hid ((if bbyn then -((vl fyn kyn : Nat) : Int) else ((vl fyn kyn : Nat) : Int)) = z) := ⟨_, Lib.hid rfl⟩
  obtain ⟨b, HQy⟩ : ∃ z, Hid (mkRat iyn (vl fyd kyd + 1) = z) := ⟨_, Lib.hid rfl⟩
  by_cases hkxn : kxn ≤ 4
  · skip
    by_cases hkxd : kxd ≤ 4
    · skip
      by_cases hkyn : kyn ≤ 4
      · skip
        by_cases hkyd : kyd ≤ 4
        · skip
          obtain ⟨r, hr, hr2⟩ := tmod_nat hm1
          obtain ⟨t, ht, ht2⟩ := tmod_nat hn1
          by_cases hc : 0 < sgQ (a - b)
          · have hab := ge_sgQ hc
            exact dturn_s bbxn vxn kxn fxn _ ixn vxd kxd fxd _ bbyn vyn kyn fyn _ iyn vyd kyd fyd _ a b m n r t (min r t) (max r t) _ _ _ w HWxn HFxn (Lib.hid rfl) HAxn HWxd HFxd (Lib.hid rfl) HQx HWyn HFyn (Lib.hid rfl) HAyn HWyd HFyd (Lib.hid rfl) HQy hkxn hkxd hkyn hkyd hm1 hm2 hn1 hn2 (Lib.hid hr) (Lib.hid ht) (by omega) (by omega) (by omega) (by omega) (Lib.hid rfl) hc (Lib.hid hab) (Lib.hid rfl) (sgQ_np (rdd_more1 b (by omega))) (Lib.hid rfl) (sgQ_np (rdd_more2 b (by omega))) (Lib.hid (fun w => sgQ_np (rdd_mono hab))) HT
          · have hab := le_sgQ hc
            exact dturn_n bbxn vxn kxn fxn _ ixn vxd kxd fxd _ bbyn vyn kyn fyn _ iyn vyd kyd fyd _ a b m n r t (min r t) (max r t) _ _ _ w HWxn HFxn (Lib.hid rfl) HAxn HWxd HFxd (Lib.hid rfl) HQx HWyn HFyn (Lib.hid rfl) HAyn HWyd HFyd (Lib.hid rfl) HQy hkxn hkxd hkyn hkyd hm1 hm2 hn1 hn2 (Lib.hid hr) (Lib.hid ht) (by omega) (by omega) (by omega) (by omega) (Lib.hid rfl) hc (Lib.hid hab) (Lib.hid rfl) (sgQ_np (rdd_more1 a (by omega))) (Lib.hid rfl) (sgQ_np (rdd_more2 a (by omega))) (Lib.hid (fun w => sgQ_np (rdd_mono hab))) HT
        · exact dturn_big4 bbxn vxn kxn fxn _ ixn vxd kxd fxd _ bbyn vyn kyn fyn _ iyn vyd kyd fyd _ a b m n w HWxn HFxn (Lib.hid rfl) HAxn HWxd HFxd (Lib.hid rfl) HQx HWyn HFyn (Lib.hid rfl) HAyn HWyd HFyd (Lib.hid rfl) HQy  hkxn hkxd hkyn (by omega) HT
      · exact dturn_big3 bbxn vxn kxn fxn _ ixn vxd kxd fxd _ bbyn vyn kyn fyn _ iyn vyd kyd fyd _ a b m n w HWxn HFxn (Lib.hid rfl) HAxn HWxd HFxd (Lib.hid rfl) HQx HWyn HFyn (Lib.hid rfl) HAyn HWyd HFyd (Lib.hid rfl) HQy  hkxn hkxd (by omega) HT
    · exact dturn_big2 bbxn vxn kxn fxn _ ixn vxd kxd fxd _ bbyn vyn kyn fyn _ iyn vyd kyd fyd _ a b m n w HWxn HFxn (Lib.hid rfl) HAxn HWxd HFxd (Lib.hid rfl) HQx HWyn HFyn (Lib.hid rfl) HAyn HWyd HFyd (Lib.hid rfl) HQy  hkxn (by omega) HT
  · exact dturn_big1 bbxn vxn kxn fxn _ ixn vxd kxd fxd _ bbyn vyn kyn fyn _ iyn vyd kyd fyd _ a b m n w HWxn HFxn (Lib.hid rfl) HAxn HWxd HFxd (Lib.hid rfl) HQx HWyn HFyn (Lib.hid rfl) HAyn HWyd HFyd (Lib.hid rfl) HQy   (by omega) HT

end Go.Proofs.YtgdibedgjndcoaaGreatDoor
