
/- DecimalsTexts: the law's walk. -/
import Derived.Test.YtaflakcemiilaaaGreatDoorDecW
import Derived.Test.YtaflakcemiilaaaGreatDoorRDec3
set_option linter.unusedVariables false
set_option linter.unusedSimpArgs false
namespace Go.Proofs.YtaflakcemiilaaaGreatDoor
open Go.RowKit
attribute [local go_sem ↓] Go.wp_at_zero Go.wp_at_succ
attribute [local go_sem ↓] eq_nat eq_nat_zero eq_int eq_frac eq_frac_zero
attribute [local go_sem] Instr.field asAgg
set_option maxRecDepth 100000 in
set_option maxHeartbeats 8000000 in
theorem txd_ok (bbxn : Bool) (vxn : Value) (kxn : Nat) (fxn : Nat → Nat) (mxn : Nat) (ixn : Int) (vxd : Value) (kxd : Nat) (fxd : Nat → Nat) (mxd : Nat) (a : Rat) (k : Nat) (way : Int) (s : ByteArray) (w : World) (HWxn : Hid (Wa w vxn kxn fxn)) (HFxn : Hid (∀ i, i < kxn → fxn i < 4294967296)) (HVxn : Hid (vl fxn kxn = mxn)) (HAxn : Hid ((if bbxn then -((mxn : Nat) : Int) else ((mxn : Nat) : Int)) = ixn)) (HWxd : Hid (Wa w vxd kxd fxd)) (HFxd : Hid (∀ i, i < kxd → fxd i < 4294967296)) (HVxd : Hid (vl fxd kxd = mxd)) (HQx : Hid (mkRat ixn (mxd + 1) = a)) (hkxn : kxn ≤ 5) (hkxd : kxd ≤ 5) (hk : k ≤ 40) (hw1 : 1 ≤ way) (hw2 : way ≤ 3) (HS : Hid (dtx (rnd way (a * (((10 ^ k : Nat) : Int) : Rat))) k = s)) (HT : Hid (Tab w)) :
    Calls Tryz.prog 12 #[.agg #[.bool bbxn, vxn, vxd], .int .i64 (((k : Nat) : Int)), .int .i64 (way)] w fun e w' => e = .returned (.bool true) ∧ Below w.heap.size w w' := by
  obtain ⟨ao_xn, c_xn, rfl⟩ := HWxn.out.slice
  obtain ⟨ao_xd, c_xd, rfl⟩ := HWxd.out.slice
  have hm_xn : wl mxn ≤ 5 := by rw [← HVxn.out]; have := wl_le.2 (vl_lt HFxn.out); omega
  have hm_xd : wl mxd ≤ 5 := by rw [← HVxd.out]; have := wl_le.2 (vl_lt HFxd.out); omega
  have hi_x : wl (Int.natAbs ixn) ≤ 5 := by rw [zsize HAxn.out]; exact hm_xn
  have hs_x : sz a ≤ 6 := by rw [← HQx.out]; exact sz_great hi_x hm_xd
  have hr_x : rz a ≤ 18 := by rw [← HQx.out]; exact rz_great hi_x hm_xd (by decide)
  go_enter Tryz.func12, Tryz.ntmps12
  have HF := Lib.hid (hp0 w)
  refine kS fun K hK => ?_
  refine wp_region_lit ?_
  go_wp2
  refine kO hK ?_; clear hK K
  refine fH ((HF.out).aL (w.heap.size)) fun Wx0 HG => ?_
  clear HF; have HF := HG; clear HG
  refine wp_seq ?_
  have hd1 : ¬ (5 < ((kxn : Int))) := ok
  have hd2 : ¬ (5 < ((kxd : Int))) := ok
  have hd3 : ¬ (40 < (((k : Nat) : Int))) := ok
  have lx0 := HF.out.c 0 rfl
  refine kS fun K hK => ?_
  refine sq 19 [(true, 0), (true, 1), (true, 2), (true, 3), (true, 4), (true, 5), (true, 6), (true, 7), (true, 8), (true, 9), (true, 10), (true, 11), (true, 12), (true, 13), (true, 14), (true, 15), (true, 16), (true, 17), (true, 18)] fun T hT => ?_
  iterate 15 refine tk ?_
  iterate 2 refine sk ?_
  iterate 2 refine tk ?_
  refine nlS hT HF fun vw1 HG => ?_
  clear hT T HF lx0
  go_wp2
  refine kO hK ?_; clear hK K
  have HF := HG; clear HG
  clear hd1 hd2 hd3
  refine wp_cond_false (by rfl) ?_
  refine wp_skip ?_
  show Code.wp _ _ _ _ _
  have HB := HPb HF
  obtain ⟨u1, HZ1⟩ : ∃ z, Hid (rdd (way) (a) k = z) := ⟨_, Lib.hid rfl⟩
  have su1 : sz (u1) ≤ 19 := by rw [← HZ1.out]; exact sz_rdd (by omega) om
  have lx0 := HF.out.c 0 rfl
  refine kS fun K hK => ?_
  refine sq 8 [(true, 0), (true, 1), (true, 2), (true, 3), (true, 4), (true, 5), (true, 6), (true, 7)] fun T hT => ?_
  refine tk ?_
  refine ck Tryz.call36 (fun w' hw => gof_any bbxn kxn fxn mxn ixn kxd fxd mxd a ao_xn c_xn ao_xd c_xd w' (Lib.hid (HWxn.out.gr (Gr.trans HB.out hw))) HFxn HVxn HAxn (Lib.hid (HWxd.out.gr (Gr.trans HB.out hw))) HFxd HVxd HQx om om om om) ?_
  iterate 2 refine tk ?_
  refine ck Tryz.call56 (fun w' hw => dround (way) (a) k (u1) _ HZ1.out (by omega) (by omega) (by omega) om) ?_
  iterate 3 refine tk ?_
  refine nlS hT HF fun vw2 HG => ?_
  clear hT T HF lx0 HB
  go_wp2
  refine kO hK ?_; clear hK K
  refine fH ((HG.out).aL (vw2.heap.size)) fun Wx3 HF => ?_
  clear HG
  generalize vw2.heap.size = gx2 at *
  have HB := HPb HF
  have lx0 := HF.out.c 0 rfl
  refine kS fun K hK => ?_
  refine sq 10 [(true, 0), (true, 1), (true, 2), (true, 3), (true, 4), (true, 5), (true, 6), (true, 7), (true, 8), (true, 9)] fun T hT => ?_
  refine tk ?_
  refine ck Tryz.call36 (fun w' hw => gof_any bbxn kxn fxn mxn ixn kxd fxd mxd a ao_xn c_xn ao_xd c_xd w' (Lib.hid (HWxn.out.gr (Gr.trans HB.out hw))) HFxn HVxn HAxn (Lib.hid (HWxd.out.gr (Gr.trans HB.out hw))) HFxd HVxd HQx om om om om) ?_
  iterate 2 refine tk ?_
  refine ck Tryz.call57 (fun w' hw => dtext (way) (a) k s _ (HS.out) (by omega) (by omega) (by omega) om (Lib.hid (HT.out.gr (Gr.trans HB.out hw)))) ?_
  iterate 5 refine tk ?_
  refine nlS hT HF fun vw3 HG => ?_
  clear hT T HF lx0 HB
  go_wp2
  refine kO hK ?_; clear hK K
  have HF := HG; clear HG
  have HB := HPb HF
  have HZ2 : Hid (rdd (way) (a) k = u1) := Lib.hid (by first | exact ok | (simp only [← HZ1.out] <;> first | exact ok))
  have su2 : rz (u1) ≤ 154 := by have e := HZ2.out; first | omega | (rw [← e]; exact rz_rdd (by omega) (by omega))
  have lx0 := HF.out.c 0 rfl
  refine kS fun K hK => ?_
  have HG0 : Hid (Gr vw3 vw3) := Lib.hid (Gr.refl _)
  refine sq 8 [(true, 0), (false, 1), (true, 2), (true, 3), (false, 4), (true, 5), (true, 6), (true, 7)] fun T hT => ?_
  refine tk ?_
  refine wpPlan_callE rfl (by rfl) Tryz.call59 (by rfl) (fun w' hw => ((gref_any bbxn kxn fxn mxn ixn kxd fxd mxd a ao_xn c_xn ao_xd c_xd w' (Lib.hid (HWxn.out.gr (Gr.trans HB.out hw))) HFxn HVxn HAxn (Lib.hid (HWxd.out.gr (Gr.trans HB.out hw))) HFxd HVxd HQx om om om om)).mono ?_)
  rintro e vv3 ⟨⟨rv1, rv2, rfl, bx3, bx4⟩, hg0⟩
  obtain ⟨ao1, nn1, cc1, rfl⟩ := Rn.sl bx3
  obtain ⟨ao2, nn2, cc2, rfl⟩ := Rn.sl bx4
  refine ⟨_, rfl, hg0, ?_⟩
  replace hg0 := Gr.trans hw hg0; clear hw
  replace HG0 := Lib.hid (HG0.out.trans hg0)
  have HGS := Lib.hid hg0; clear hg0
  replace HB := Lib.hid (HB.out.trans (HGS.out.mono HB.out.size))
  clear HGS
  have RN3 := Lib.hid bx3; clear bx3
  have RN4 := Lib.hid bx4; clear bx4
  clear lx0; have lx0 := fun w' (h : Gr _ w') => HF.out.c 0 rfl w' (HG0.out.trans h)
  simp only [Act.put, lA, lB, lC]
  iterate 2 refine tk ?_
  refine wpPlan_callE rfl (by rfl) Tryz.call58 (by rfl) (fun w' hw => (rround (way) (a) k (u1) _ _ _ HZ2.out (by omega) (by omega) (by omega) (by omega) (RN3.out.gr hw) (RN4.out.gr hw)).mono ?_)
  rintro e vv5 ⟨⟨rv3, rv4, rfl, bx5, bx6⟩, hg0⟩
  obtain ⟨ao3, nn3, cc3, rfl⟩ := Rn.sl bx5
  obtain ⟨ao4, nn4, cc4, rfl⟩ := Rn.sl bx6
  refine ⟨_, rfl, hg0, ?_⟩
  replace hg0 := Gr.trans hw hg0; clear hw
  replace HG0 := Lib.hid (HG0.out.trans hg0)
  have HGS := Lib.hid hg0; clear hg0
  replace RN3 := Lib.hid (RN3.out.gr HGS.out)
  replace RN4 := Lib.hid (RN4.out.gr HGS.out)
  replace HB := Lib.hid (HB.out.trans (HGS.out.mono HB.out.size))
  clear HGS
  have RN5 := Lib.hid bx5; clear bx5
  have RN6 := Lib.hid bx6; clear bx6
  clear lx0; have lx0 := fun w' (h : Gr _ w') => HF.out.c 0 rfl w' (HG0.out.trans h)
  simp only [Act.put, lA, lB, lC]
  iterate 3 refine tk ?_
  refine wpPlan_nil (hT.out _ _ ?_)
  intro vw4 hg
  simp only [puts, Act.put, lA, lB, lC, lD, lE, ↓reduceIte, Nat.reduceEqDiff]
  have HG := Lib.hid (((((HF.out.gr (HG0.out.trans hg)).ar (RN3.out.gr hg)).ar (RN4.out.gr hg)).ar (RN5.out.gr hg)).ar (RN6.out.gr hg))
  simp only [zq1_, zq2_, zq3_, zq4_, lF, lG] at HG
  clear hT T HF hg HG0 RN3 RN4 RN5 RN6 lx0 HB
  go_wp2
  refine kO hK ?_; clear hK K
  refine fH ((((HG.out).aL (vw4.heap.size)).er 3).er 2) fun Wx5 HF => ?_
  clear HG
  generalize vw4.heap.size = gx7 at *
  have HB := HPb HF
  have lx0 := HF.out.c 0 rfl
  refine kS fun K hK => ?_
  have HG0 : Hid (Gr Wx5 Wx5) := Lib.hid (Gr.refl _)
  refine sq 10 [(true, 0), (false, 1), (true, 2), (true, 3), (true, 4), (true, 5), (true, 6), (true, 7), (true, 8), (true, 9)] fun T hT => ?_
  refine tk ?_
  refine wpPlan_callE rfl (by rfl) Tryz.call59 (by rfl) (fun w' hw => ((gref_any bbxn kxn fxn mxn ixn kxd fxd mxd a ao_xn c_xn ao_xd c_xd w' (Lib.hid (HWxn.out.gr (Gr.trans HB.out hw))) HFxn HVxn HAxn (Lib.hid (HWxd.out.gr (Gr.trans HB.out hw))) HFxd HVxd HQx om om om om)).mono ?_)
  rintro e vv8 ⟨⟨rv5, rv6, rfl, bx8, bx9⟩, hg0⟩
  obtain ⟨ao5, nn5, cc5, rfl⟩ := Rn.sl bx8
  obtain ⟨ao6, nn6, cc6, rfl⟩ := Rn.sl bx9
  refine ⟨_, rfl, hg0, ?_⟩
  replace hg0 := Gr.trans hw hg0; clear hw
  replace HG0 := Lib.hid (HG0.out.trans hg0)
  have HGS := Lib.hid hg0; clear hg0
  replace HB := Lib.hid (HB.out.trans (HGS.out.mono HB.out.size))
  clear HGS
  have RN8 := Lib.hid bx8; clear bx8
  have RN9 := Lib.hid bx9; clear bx9
  clear lx0; have lx0 := fun w' (h : Gr _ w') => HF.out.c 0 rfl w' (HG0.out.trans h)
  simp only [Act.put, lA, lB, lC]
  iterate 2 refine tk ?_
  refine ck Tryz.call60 (fun w' hw => rtext04 (way) (a) k s _ _ _ (HS.out) (by omega) (by omega) (by omega) (by omega) (RN8.out.gr hw) (RN9.out.gr hw)) ?_
  iterate 5 refine tk ?_
  refine wpPlan_nil (hT.out _ _ ?_)
  intro vw5 hg
  simp only [puts, Act.put, lA, lB, lC, lD, lE, ↓reduceIte, Nat.reduceEqDiff]
  have HG := Lib.hid (((HF.out.gr (HG0.out.trans hg)).ar (RN8.out.gr hg)).ar (RN9.out.gr hg))
  simp only [zq1_, zq2_, zq3_, zq4_, lF, lG] at HG
  clear hT T HF hg HG0 RN8 RN9 lx0 HB
  go_wp2
  refine kO hK ?_; clear hK K
  refine fH ((((HG.out).er 6).er 5).er 0) fun Wx6 HF => ?_
  clear HG
  have HB := HPb HF
  have hd4 : ((s).toList == (s).toList) = true := by simp
  have lx2 := HF.out.c 0 rfl
  have lx7 := HF.out.c 3 rfl
  refine kS fun K hK => ?_
  refine sq 22 [(true, 0), (true, 1), (true, 2), (true, 3), (true, 4), (true, 5), (true, 6), (true, 7), (true, 8), (true, 9), (true, 10), (true, 11), (true, 12), (true, 13), (true, 14), (true, 15), (true, 16), (true, 17), (true, 18), (true, 19), (true, 20), (true, 21)] fun T hT => ?_
  iterate 2 refine tk ?_
  refine ck Tryz.call28 (fun w' hw => fsame_any (u1) _ _ _ om (by omega) (HF.out.r 1 rfl hw) (HF.out.r 2 rfl hw) (Lib.hid (HT.out.gr (Gr.trans HB.out hw)))) ?_
  iterate 16 refine tk ?_
  refine ck Tryz.call55 (fun w' hw => worksd_any _ (Lib.hid (HT.out.gr (Gr.trans HB.out hw)))) ?_
  iterate 2 refine tk ?_
  refine nlS hT HF fun vw6 HG => ?_
  clear hT T HF lx2 lx7 HB
  go_wp2
  refine kO hK ?_; clear hK K
  refine fH (((((HG.out).er 3).er 2).er 1).er 0) fun Wx7 HF => ?_
  clear HG
  clear hd4
  refine wp_ret ?_
  try simp only [Exit.then, Exit.inBlock]
  exact bodyPost_ret (v := .bool true) (by simp [results, Tryz.results12, go_sem]) rfl ⟨rfl, HF.out.1⟩
set_option maxRecDepth 100000 in
set_option maxHeartbeats 8000000 in
theorem txd_mid (bbxn : Bool) (vxn : Value) (kxn : Nat) (fxn : Nat → Nat) (mxn : Nat) (ixn : Int) (vxd : Value) (kxd : Nat) (fxd : Nat → Nat) (mxd : Nat) (a : Rat) (n : Int) (way : Int) (w : World) (HWxn : Hid (Wa w vxn kxn fxn)) (HFxn : Hid (∀ i, i < kxn → fxn i < 4294967296)) (HVxn : Hid (vl fxn kxn = mxn)) (HAxn : Hid ((if bbxn then -((mxn : Nat) : Int) else ((mxn : Nat) : Int)) = ixn)) (HWxd : Hid (Wa w vxd kxd fxd)) (HFxd : Hid (∀ i, i < kxd → fxd i < 4294967296)) (HVxd : Hid (vl fxd kxd = mxd)) (HQx : Hid (mkRat ixn (mxd + 1) = a)) (hkxn : kxn ≤ 5) (hkxd : kxd ≤ 5) (hn1 : 40 < n) (hn2 : n ≤ 100) (HT : Hid (Tab w)) :
    Calls Tryz.prog 12 #[.agg #[.bool bbxn, vxn, vxd], .int .i64 (n), .int .i64 (way)] w fun e w' => e = .returned (.bool true) ∧ Below w.heap.size w w' := by
  obtain ⟨ao_xn, c_xn, rfl⟩ := HWxn.out.slice
  obtain ⟨ao_xd, c_xd, rfl⟩ := HWxd.out.slice
  have hm_xn : wl mxn ≤ 5 := by rw [← HVxn.out]; have := wl_le.2 (vl_lt HFxn.out); omega
  have hm_xd : wl mxd ≤ 5 := by rw [← HVxd.out]; have := wl_le.2 (vl_lt HFxd.out); omega
  have hi_x : wl (Int.natAbs ixn) ≤ 5 := by rw [zsize HAxn.out]; exact hm_xn
  have hs_x : sz a ≤ 6 := by rw [← HQx.out]; exact sz_great hi_x hm_xd
  have hr_x : rz a ≤ 18 := by rw [← HQx.out]; exact rz_great hi_x hm_xd (by decide)
  go_enter Tryz.func12, Tryz.ntmps12
  have HF := Lib.hid (hp0 w)
  refine kS fun K hK => ?_
  refine wp_region_lit ?_
  go_wp2
  refine kO hK ?_; clear hK K
  refine fH ((HF.out).aL (w.heap.size)) fun Wx0 HG => ?_
  clear HF; have HF := HG; clear HG
  refine wp_seq ?_
  have hd1 : ¬ (5 < ((kxn : Int))) := ok
  have hd2 : ¬ (5 < ((kxd : Int))) := ok
  have hd3 : 40 < n := ok
  have hd4 : n ≤ 100 := ok
  have lx0 := HF.out.c 0 rfl
  refine kS fun K hK => ?_
  refine sq 19 [(true, 0), (true, 1), (true, 2), (true, 3), (true, 4), (true, 5), (true, 6), (true, 7), (true, 8), (true, 9), (true, 10), (true, 11), (true, 12), (true, 13), (true, 14), (true, 15), (true, 16), (true, 17), (true, 18)] fun T hT => ?_
  iterate 19 refine tk ?_
  refine nlS hT HF fun vw1 HG => ?_
  clear hT T HF lx0
  go_wp2
  refine kO hK ?_; clear hK K
  have HF := HG; clear HG
  clear hd1 hd2 hd3 hd4
  refine wp_cond_true (by rfl) ?_
  have HB := HPb HF
  refine kS fun K hK => ?_
  refine sq 2 [(true, 0), (true, 1)] fun T hT => ?_
  refine ck Tryz.call55 (fun w' hw => worksd_any _ (Lib.hid (HT.out.gr (Gr.trans HB.out hw)))) ?_
  refine tk ?_
  refine nlS hT HF fun vw2 HG => ?_
  clear hT T HF HB
  go_wp2
  refine kO hK ?_; clear hK K
  have HF := HG; clear HG
  refine wp_ret ?_
  try simp only [Exit.then, Exit.inBlock]
  exact bodyPost_ret (v := .bool true) (by simp [results, Tryz.results12, go_sem]) rfl ⟨rfl, HF.out.1⟩
set_option maxRecDepth 100000 in
set_option maxHeartbeats 8000000 in
theorem txd_far (bbxn : Bool) (vxn : Value) (kxn : Nat) (fxn : Nat → Nat) (mxn : Nat) (ixn : Int) (vxd : Value) (kxd : Nat) (fxd : Nat → Nat) (mxd : Nat) (a : Rat) (n : Int) (way : Int) (c : Int) (z0 : Rat) (w : World) (HWxn : Hid (Wa w vxn kxn fxn)) (HFxn : Hid (∀ i, i < kxn → fxn i < 4294967296)) (HVxn : Hid (vl fxn kxn = mxn)) (HAxn : Hid ((if bbxn then -((mxn : Nat) : Int) else ((mxn : Nat) : Int)) = ixn)) (HWxd : Hid (Wa w vxd kxd fxd)) (HFxd : Hid (∀ i, i < kxd → fxd i < 4294967296)) (HVxd : Hid (vl fxd kxd = mxd)) (HQx : Hid (mkRat ixn (mxd + 1) = a)) (hkxn : kxn ≤ 5) (hkxd : kxd ≤ 5) (hn1 : 100 < n) (HC : Hid (rcode n way = c)) (hc0 : ¬ c = 0) (HZ0 : Hid ((0 : Rat) = z0)) (hz0 : sz z0 ≤ 1) (hrz : rz z0 ≤ 1) (HT : Hid (Tab w)) :
    Calls Tryz.prog 12 #[.agg #[.bool bbxn, vxn, vxd], .int .i64 (n), .int .i64 (way)] w fun e w' => e = .returned (.bool true) ∧ Below w.heap.size w w' := by
  obtain ⟨ao_xn, c_xn, rfl⟩ := HWxn.out.slice
  obtain ⟨ao_xd, c_xd, rfl⟩ := HWxd.out.slice
  have hm_xn : wl mxn ≤ 5 := by rw [← HVxn.out]; have := wl_le.2 (vl_lt HFxn.out); omega
  have hm_xd : wl mxd ≤ 5 := by rw [← HVxd.out]; have := wl_le.2 (vl_lt HFxd.out); omega
  have hi_x : wl (Int.natAbs ixn) ≤ 5 := by rw [zsize HAxn.out]; exact hm_xn
  have hs_x : sz a ≤ 6 := by rw [← HQx.out]; exact sz_great hi_x hm_xd
  have hr_x : rz a ≤ 18 := by rw [← HQx.out]; exact rz_great hi_x hm_xd (by decide)
  go_enter Tryz.func12, Tryz.ntmps12
  have HF := Lib.hid (hp0 w)
  refine kS fun K hK => ?_
  refine wp_region_lit ?_
  go_wp2
  refine kO hK ?_; clear hK K
  refine fH ((HF.out).aL (w.heap.size)) fun Wx0 HG => ?_
  clear HF; have HF := HG; clear HG
  refine wp_seq ?_
  have hd1 : ¬ (5 < ((kxn : Int))) := ok
  have hd2 : ¬ (5 < ((kxd : Int))) := ok
  have hd3 : 40 < n := ok
  have hd4 : ¬ (n ≤ 100) := ok
  have lx0 := HF.out.c 0 rfl
  refine kS fun K hK => ?_
  refine sq 19 [(true, 0), (true, 1), (true, 2), (true, 3), (true, 4), (true, 5), (true, 6), (true, 7), (true, 8), (true, 9), (true, 10), (true, 11), (true, 12), (true, 13), (true, 14), (true, 15), (true, 16), (true, 17), (true, 18)] fun T hT => ?_
  iterate 19 refine tk ?_
  refine nlS hT HF fun vw1 HG => ?_
  clear hT T HF lx0
  go_wp2
  refine kO hK ?_; clear hK K
  have HF := HG; clear HG
  clear hd1 hd2 hd3 hd4
  refine wp_cond_false (by rfl) ?_
  refine wp_skip ?_
  show Code.wp _ _ _ _ _
  have HB := HPb HF
  have lx0 := HF.out.c 0 rfl
  refine kS fun K hK => ?_
  refine sq 8 [(true, 0), (true, 1), (true, 2), (true, 3), (true, 4), (true, 5), (true, 6), (true, 7)] fun T hT => ?_
  refine tk ?_
  refine ck Tryz.call36 (fun w' hw => gof_any bbxn kxn fxn mxn ixn kxd fxd mxd a ao_xn c_xn ao_xd c_xd w' (Lib.hid (HWxn.out.gr (Gr.trans HB.out hw))) HFxn HVxn HAxn (Lib.hid (HWxd.out.gr (Gr.trans HB.out hw))) HFxd HVxd HQx om om om om) ?_
  iterate 2 refine tk ?_
  refine ck Tryz.call56 (fun w' hw => dround_badz (a) z0 (n) (way) (c) _ (HC.out) (hc0) HZ0.out om) ?_
  iterate 3 refine tk ?_
  refine nlS hT HF fun vw2 HG => ?_
  clear hT T HF lx0 HB
  go_wp2
  refine kO hK ?_; clear hK K
  refine fH ((HG.out).aL (vw2.heap.size)) fun Wx3 HF => ?_
  clear HG
  generalize vw2.heap.size = gx2 at *
  have HB := HPb HF
  have lx0 := HF.out.c 0 rfl
  refine kS fun K hK => ?_
  refine sq 10 [(true, 0), (true, 1), (true, 2), (true, 3), (true, 4), (true, 5), (true, 6), (true, 7), (true, 8), (true, 9)] fun T hT => ?_
  refine tk ?_
  refine ck Tryz.call36 (fun w' hw => gof_any bbxn kxn fxn mxn ixn kxd fxd mxd a ao_xn c_xn ao_xd c_xd w' (Lib.hid (HWxn.out.gr (Gr.trans HB.out hw))) HFxn HVxn HAxn (Lib.hid (HWxd.out.gr (Gr.trans HB.out hw))) HFxd HVxd HQx om om om om) ?_
  iterate 2 refine tk ?_
  refine ck Tryz.call57 (fun w' hw => dtext_bad (a) (n) (way) (c) _ (HC.out) (hc0) om) ?_
  iterate 5 refine tk ?_
  refine nlS hT HF fun vw3 HG => ?_
  clear hT T HF lx0 HB
  go_wp2
  refine kO hK ?_; clear hK K
  have HF := HG; clear HG
  have HB := HPb HF
  have lx0 := HF.out.c 0 rfl
  refine kS fun K hK => ?_
  have HG0 : Hid (Gr vw3 vw3) := Lib.hid (Gr.refl _)
  refine sq 8 [(true, 0), (false, 1), (true, 2), (true, 3), (false, 4), (true, 5), (true, 6), (true, 7)] fun T hT => ?_
  refine tk ?_
  refine wpPlan_callE rfl (by rfl) Tryz.call59 (by rfl) (fun w' hw => ((gref_any bbxn kxn fxn mxn ixn kxd fxd mxd a ao_xn c_xn ao_xd c_xd w' (Lib.hid (HWxn.out.gr (Gr.trans HB.out hw))) HFxn HVxn HAxn (Lib.hid (HWxd.out.gr (Gr.trans HB.out hw))) HFxd HVxd HQx om om om om)).mono ?_)
  rintro e vv3 ⟨⟨rv1, rv2, rfl, bx3, bx4⟩, hg0⟩
  obtain ⟨ao1, nn1, cc1, rfl⟩ := Rn.sl bx3
  obtain ⟨ao2, nn2, cc2, rfl⟩ := Rn.sl bx4
  refine ⟨_, rfl, hg0, ?_⟩
  replace hg0 := Gr.trans hw hg0; clear hw
  replace HG0 := Lib.hid (HG0.out.trans hg0)
  have HGS := Lib.hid hg0; clear hg0
  replace HB := Lib.hid (HB.out.trans (HGS.out.mono HB.out.size))
  clear HGS
  have RN3 := Lib.hid bx3; clear bx3
  have RN4 := Lib.hid bx4; clear bx4
  clear lx0; have lx0 := fun w' (h : Gr _ w') => HF.out.c 0 rfl w' (HG0.out.trans h)
  simp only [Act.put, lA, lB, lC]
  iterate 2 refine tk ?_
  refine wpPlan_callE rfl (by rfl) Tryz.call58 (by rfl) (fun w' hw => (rround_badz (a) z0 (n) (way) (c) _ _ _ (HC.out) (hc0) HZ0.out (RN3.out.gr hw) (RN4.out.gr hw)).mono ?_)
  rintro e vv5 ⟨⟨rv3, rv4, rfl, bx5, bx6⟩, hg0⟩
  obtain ⟨ao3, nn3, cc3, rfl⟩ := Rn.sl bx5
  obtain ⟨ao4, nn4, cc4, rfl⟩ := Rn.sl bx6
  refine ⟨_, rfl, hg0, ?_⟩
  replace hg0 := Gr.trans hw hg0; clear hw
  replace HG0 := Lib.hid (HG0.out.trans hg0)
  have HGS := Lib.hid hg0; clear hg0
  replace RN3 := Lib.hid (RN3.out.gr HGS.out)
  replace RN4 := Lib.hid (RN4.out.gr HGS.out)
  replace HB := Lib.hid (HB.out.trans (HGS.out.mono HB.out.size))
  clear HGS
  have RN5 := Lib.hid bx5; clear bx5
  have RN6 := Lib.hid bx6; clear bx6
  clear lx0; have lx0 := fun w' (h : Gr _ w') => HF.out.c 0 rfl w' (HG0.out.trans h)
  simp only [Act.put, lA, lB, lC]
  iterate 3 refine tk ?_
  refine wpPlan_nil (hT.out _ _ ?_)
  intro vw4 hg
  simp only [puts, Act.put, lA, lB, lC, lD, lE, ↓reduceIte, Nat.reduceEqDiff]
  have HG := Lib.hid (((((HF.out.gr (HG0.out.trans hg)).ar (RN3.out.gr hg)).ar (RN4.out.gr hg)).ar (RN5.out.gr hg)).ar (RN6.out.gr hg))
  simp only [zq1_, zq2_, zq3_, zq4_, lF, lG] at HG
  clear hT T HF hg HG0 RN3 RN4 RN5 RN6 lx0 HB
  go_wp2
  refine kO hK ?_; clear hK K
  refine fH ((((HG.out).aL (vw4.heap.size)).er 3).er 2) fun Wx5 HF => ?_
  clear HG
  generalize vw4.heap.size = gx7 at *
  have HB := HPb HF
  have lx0 := HF.out.c 0 rfl
  refine kS fun K hK => ?_
  have HG0 : Hid (Gr Wx5 Wx5) := Lib.hid (Gr.refl _)
  refine sq 10 [(true, 0), (false, 1), (true, 2), (true, 3), (true, 4), (true, 5), (true, 6), (true, 7), (true, 8), (true, 9)] fun T hT => ?_
  refine tk ?_
  refine wpPlan_callE rfl (by rfl) Tryz.call59 (by rfl) (fun w' hw => ((gref_any bbxn kxn fxn mxn ixn kxd fxd mxd a ao_xn c_xn ao_xd c_xd w' (Lib.hid (HWxn.out.gr (Gr.trans HB.out hw))) HFxn HVxn HAxn (Lib.hid (HWxd.out.gr (Gr.trans HB.out hw))) HFxd HVxd HQx om om om om)).mono ?_)
  rintro e vv8 ⟨⟨rv5, rv6, rfl, bx8, bx9⟩, hg0⟩
  obtain ⟨ao5, nn5, cc5, rfl⟩ := Rn.sl bx8
  obtain ⟨ao6, nn6, cc6, rfl⟩ := Rn.sl bx9
  refine ⟨_, rfl, hg0, ?_⟩
  replace hg0 := Gr.trans hw hg0; clear hw
  replace HG0 := Lib.hid (HG0.out.trans hg0)
  have HGS := Lib.hid hg0; clear hg0
  replace HB := Lib.hid (HB.out.trans (HGS.out.mono HB.out.size))
  clear HGS
  have RN8 := Lib.hid bx8; clear bx8
  have RN9 := Lib.hid bx9; clear bx9
  clear lx0; have lx0 := fun w' (h : Gr _ w') => HF.out.c 0 rfl w' (HG0.out.trans h)
  simp only [Act.put, lA, lB, lC]
  iterate 2 refine tk ?_
  refine ck Tryz.call60 (fun w' hw => rtext_bad (a) (n) (way) (c) _ _ _ (HC.out) (hc0) (RN8.out.gr hw) (RN9.out.gr hw)) ?_
  iterate 5 refine tk ?_
  refine wpPlan_nil (hT.out _ _ ?_)
  intro vw5 hg
  simp only [puts, Act.put, lA, lB, lC, lD, lE, ↓reduceIte, Nat.reduceEqDiff]
  have HG := Lib.hid (((HF.out.gr (HG0.out.trans hg)).ar (RN8.out.gr hg)).ar (RN9.out.gr hg))
  simp only [zq1_, zq2_, zq3_, zq4_, lF, lG] at HG
  clear hT T HF hg HG0 RN8 RN9 lx0 HB
  go_wp2
  refine kO hK ?_; clear hK K
  refine fH ((((HG.out).er 6).er 5).er 0) fun Wx6 HF => ?_
  clear HG
  have HB := HPb HF
  have lx2 := HF.out.c 0 rfl
  have lx7 := HF.out.c 3 rfl
  refine kS fun K hK => ?_
  refine sq 22 [(true, 0), (true, 1), (true, 2), (true, 3), (true, 4), (true, 5), (true, 6), (true, 7), (true, 8), (true, 9), (true, 10), (true, 11), (true, 12), (true, 13), (true, 14), (true, 15), (true, 16), (true, 17), (true, 18), (true, 19), (true, 20), (true, 21)] fun T hT => ?_
  iterate 2 refine tk ?_
  refine ck Tryz.call28 (fun w' hw => fsame_any (z0) _ _ _ om (by omega) (HF.out.r 1 rfl hw) (HF.out.r 2 rfl hw) (Lib.hid (HT.out.gr (Gr.trans HB.out hw)))) ?_
  iterate 16 refine tk ?_
  refine ck Tryz.call55 (fun w' hw => worksd_any _ (Lib.hid (HT.out.gr (Gr.trans HB.out hw)))) ?_
  iterate 2 refine tk ?_
  refine nlS hT HF fun vw6 HG => ?_
  clear hT T HF lx2 lx7 HB
  go_wp2
  refine kO hK ?_; clear hK K
  refine fH (((((HG.out).er 3).er 2).er 1).er 0) fun Wx7 HF => ?_
  clear HG
  refine wp_ret ?_
  try simp only [Exit.then, Exit.inBlock]
  exact bodyPost_ret (v := .bool true) (by simp [results, Tryz.results12, go_sem]) rfl ⟨rfl, HF.out.1⟩
set_option maxRecDepth 100000 in
set_option maxHeartbeats 8000000 in
theorem txd_bad (bbxn : Bool) (vxn : Value) (kxn : Nat) (fxn : Nat → Nat) (mxn : Nat) (ixn : Int) (vxd : Value) (kxd : Nat) (fxd : Nat → Nat) (mxd : Nat) (a : Rat) (n : Int) (way : Int) (c : Int) (z0 : Rat) (w : World) (HWxn : Hid (Wa w vxn kxn fxn)) (HFxn : Hid (∀ i, i < kxn → fxn i < 4294967296)) (HVxn : Hid (vl fxn kxn = mxn)) (HAxn : Hid ((if bbxn then -((mxn : Nat) : Int) else ((mxn : Nat) : Int)) = ixn)) (HWxd : Hid (Wa w vxd kxd fxd)) (HFxd : Hid (∀ i, i < kxd → fxd i < 4294967296)) (HVxd : Hid (vl fxd kxd = mxd)) (HQx : Hid (mkRat ixn (mxd + 1) = a)) (hkxn : kxn ≤ 5) (hkxd : kxd ≤ 5) (hn1 : n ≤ 40) (HC : Hid (rcode n way = c)) (hc0 : ¬ c = 0) (HZ0 : Hid ((0 : Rat) = z0)) (hz0 : sz z0 ≤ 1) (hrz : rz z0 ≤ 1) (HT : Hid (Tab w)) :
    Calls Tryz.prog 12 #[.agg #[.bool bbxn, vxn, vxd], .int .i64 (n), .int .i64 (way)] w fun e w' => e = .returned (.bool true) ∧ Below w.heap.size w w' := by
  obtain ⟨ao_xn, c_xn, rfl⟩ := HWxn.out.slice
  obtain ⟨ao_xd, c_xd, rfl⟩ := HWxd.out.slice
  have hm_xn : wl mxn ≤ 5 := by rw [← HVxn.out]; have := wl_le.2 (vl_lt HFxn.out); omega
  have hm_xd : wl mxd ≤ 5 := by rw [← HVxd.out]; have := wl_le.2 (vl_lt HFxd.out); omega
  have hi_x : wl (Int.natAbs ixn) ≤ 5 := by rw [zsize HAxn.out]; exact hm_xn
  have hs_x : sz a ≤ 6 := by rw [← HQx.out]; exact sz_great hi_x hm_xd
  have hr_x : rz a ≤ 18 := by rw [← HQx.out]; exact rz_great hi_x hm_xd (by decide)
  go_enter Tryz.func12, Tryz.ntmps12
  have HF := Lib.hid (hp0 w)
  refine kS fun K hK => ?_
  refine wp_region_lit ?_
  go_wp2
  refine kO hK ?_; clear hK K
  refine fH ((HF.out).aL (w.heap.size)) fun Wx0 HG => ?_
  clear HF; have HF := HG; clear HG
  refine wp_seq ?_
  have hd1 : ¬ (5 < ((kxn : Int))) := ok
  have hd2 : ¬ (5 < ((kxd : Int))) := ok
  have hd3 : ¬ (40 < n) := ok
  have lx0 := HF.out.c 0 rfl
  refine kS fun K hK => ?_
  refine sq 19 [(true, 0), (true, 1), (true, 2), (true, 3), (true, 4), (true, 5), (true, 6), (true, 7), (true, 8), (true, 9), (true, 10), (true, 11), (true, 12), (true, 13), (true, 14), (true, 15), (true, 16), (true, 17), (true, 18)] fun T hT => ?_
  iterate 15 refine tk ?_
  iterate 2 refine sk ?_
  iterate 2 refine tk ?_
  refine nlS hT HF fun vw1 HG => ?_
  clear hT T HF lx0
  go_wp2
  refine kO hK ?_; clear hK K
  have HF := HG; clear HG
  clear hd1 hd2 hd3
  refine wp_cond_false (by rfl) ?_
  refine wp_skip ?_
  show Code.wp _ _ _ _ _
  have HB := HPb HF
  have lx0 := HF.out.c 0 rfl
  refine kS fun K hK => ?_
  refine sq 8 [(true, 0), (true, 1), (true, 2), (true, 3), (true, 4), (true, 5), (true, 6), (true, 7)] fun T hT => ?_
  refine tk ?_
  refine ck Tryz.call36 (fun w' hw => gof_any bbxn kxn fxn mxn ixn kxd fxd mxd a ao_xn c_xn ao_xd c_xd w' (Lib.hid (HWxn.out.gr (Gr.trans HB.out hw))) HFxn HVxn HAxn (Lib.hid (HWxd.out.gr (Gr.trans HB.out hw))) HFxd HVxd HQx om om om om) ?_
  iterate 2 refine tk ?_
  refine ck Tryz.call56 (fun w' hw => dround_badz (a) z0 (n) (way) (c) _ (HC.out) (hc0) HZ0.out om) ?_
  iterate 3 refine tk ?_
  refine nlS hT HF fun vw2 HG => ?_
  clear hT T HF lx0 HB
  go_wp2
  refine kO hK ?_; clear hK K
  refine fH ((HG.out).aL (vw2.heap.size)) fun Wx3 HF => ?_
  clear HG
  generalize vw2.heap.size = gx2 at *
  have HB := HPb HF
  have lx0 := HF.out.c 0 rfl
  refine kS fun K hK => ?_
  refine sq 10 [(true, 0), (true, 1), (true, 2), (true, 3), (true, 4), (true, 5), (true, 6), (true, 7), (true, 8), (true, 9)] fun T hT => ?_
  refine tk ?_
  refine ck Tryz.call36 (fun w' hw => gof_any bbxn kxn fxn mxn ixn kxd fxd mxd a ao_xn c_xn ao_xd c_xd w' (Lib.hid (HWxn.out.gr (Gr.trans HB.out hw))) HFxn HVxn HAxn (Lib.hid (HWxd.out.gr (Gr.trans HB.out hw))) HFxd HVxd HQx om om om om) ?_
  iterate 2 refine tk ?_
  refine ck Tryz.call57 (fun w' hw => dtext_bad (a) (n) (way) (c) _ (HC.out) (hc0) om) ?_
  iterate 5 refine tk ?_
  refine nlS hT HF fun vw3 HG => ?_
  clear hT T HF lx0 HB
  go_wp2
  refine kO hK ?_; clear hK K
  have HF := HG; clear HG
  have HB := HPb HF
  have lx0 := HF.out.c 0 rfl
  refine kS fun K hK => ?_
  have HG0 : Hid (Gr vw3 vw3) := Lib.hid (Gr.refl _)
  refine sq 8 [(true, 0), (false, 1), (true, 2), (true, 3), (false, 4), (true, 5), (true, 6), (true, 7)] fun T hT => ?_
  refine tk ?_
  refine wpPlan_callE rfl (by rfl) Tryz.call59 (by rfl) (fun w' hw => ((gref_any bbxn kxn fxn mxn ixn kxd fxd mxd a ao_xn c_xn ao_xd c_xd w' (Lib.hid (HWxn.out.gr (Gr.trans HB.out hw))) HFxn HVxn HAxn (Lib.hid (HWxd.out.gr (Gr.trans HB.out hw))) HFxd HVxd HQx om om om om)).mono ?_)
  rintro e vv3 ⟨⟨rv1, rv2, rfl, bx3, bx4⟩, hg0⟩
  obtain ⟨ao1, nn1, cc1, rfl⟩ := Rn.sl bx3
  obtain ⟨ao2, nn2, cc2, rfl⟩ := Rn.sl bx4
  refine ⟨_, rfl, hg0, ?_⟩
  replace hg0 := Gr.trans hw hg0; clear hw
  replace HG0 := Lib.hid (HG0.out.trans hg0)
  have HGS := Lib.hid hg0; clear hg0
  replace HB := Lib.hid (HB.out.trans (HGS.out.mono HB.out.size))
  clear HGS
  have RN3 := Lib.hid bx3; clear bx3
  have RN4 := Lib.hid bx4; clear bx4
  clear lx0; have lx0 := fun w' (h : Gr _ w') => HF.out.c 0 rfl w' (HG0.out.trans h)
  simp only [Act.put, lA, lB, lC]
  iterate 2 refine tk ?_
  refine wpPlan_callE rfl (by rfl) Tryz.call58 (by rfl) (fun w' hw => (rround_badz (a) z0 (n) (way) (c) _ _ _ (HC.out) (hc0) HZ0.out (RN3.out.gr hw) (RN4.out.gr hw)).mono ?_)
  rintro e vv5 ⟨⟨rv3, rv4, rfl, bx5, bx6⟩, hg0⟩
  obtain ⟨ao3, nn3, cc3, rfl⟩ := Rn.sl bx5
  obtain ⟨ao4, nn4, cc4, rfl⟩ := Rn.sl bx6
  refine ⟨_, rfl, hg0, ?_⟩
  replace hg0 := Gr.trans hw hg0; clear hw
  replace HG0 := Lib.hid (HG0.out.trans hg0)
  have HGS := Lib.hid hg0; clear hg0
  replace RN3 := Lib.hid (RN3.out.gr HGS.out)
  replace RN4 := Lib.hid (RN4.out.gr HGS.out)
  replace HB := Lib.hid (HB.out.trans (HGS.out.mono HB.out.size))
  clear HGS
  have RN5 := Lib.hid bx5; clear bx5
  have RN6 := Lib.hid bx6; clear bx6
  clear lx0; have lx0 := fun w' (h : Gr _ w') => HF.out.c 0 rfl w' (HG0.out.trans h)
  simp only [Act.put, lA, lB, lC]
  iterate 3 refine tk ?_
  refine wpPlan_nil (hT.out _ _ ?_)
  intro vw4 hg
  simp only [puts, Act.put, lA, lB, lC, lD, lE, ↓reduceIte, Nat.reduceEqDiff]
  have HG := Lib.hid (((((HF.out.gr (HG0.out.trans hg)).ar (RN3.out.gr hg)).ar (RN4.out.gr hg)).ar (RN5.out.gr hg)).ar (RN6.out.gr hg))
  simp only [zq1_, zq2_, zq3_, zq4_, lF, lG] at HG
  clear hT T HF hg HG0 RN3 RN4 RN5 RN6 lx0 HB
  go_wp2
  refine kO hK ?_; clear hK K
  refine fH ((((HG.out).aL (vw4.heap.size)).er 3).er 2) fun Wx5 HF => ?_
  clear HG
  generalize vw4.heap.size = gx7 at *
  have HB := HPb HF
  have lx0 := HF.out.c 0 rfl
  refine kS fun K hK => ?_
  have HG0 : Hid (Gr Wx5 Wx5) := Lib.hid (Gr.refl _)
  refine sq 10 [(true, 0), (false, 1), (true, 2), (true, 3), (true, 4), (true, 5), (true, 6), (true, 7), (true, 8), (true, 9)] fun T hT => ?_
  refine tk ?_
  refine wpPlan_callE rfl (by rfl) Tryz.call59 (by rfl) (fun w' hw => ((gref_any bbxn kxn fxn mxn ixn kxd fxd mxd a ao_xn c_xn ao_xd c_xd w' (Lib.hid (HWxn.out.gr (Gr.trans HB.out hw))) HFxn HVxn HAxn (Lib.hid (HWxd.out.gr (Gr.trans HB.out hw))) HFxd HVxd HQx om om om om)).mono ?_)
  rintro e vv8 ⟨⟨rv5, rv6, rfl, bx8, bx9⟩, hg0⟩
  obtain ⟨ao5, nn5, cc5, rfl⟩ := Rn.sl bx8
  obtain ⟨ao6, nn6, cc6, rfl⟩ := Rn.sl bx9
  refine ⟨_, rfl, hg0, ?_⟩
  replace hg0 := Gr.trans hw hg0; clear hw
  replace HG0 := Lib.hid (HG0.out.trans hg0)
  have HGS := Lib.hid hg0; clear hg0
  replace HB := Lib.hid (HB.out.trans (HGS.out.mono HB.out.size))
  clear HGS
  have RN8 := Lib.hid bx8; clear bx8
  have RN9 := Lib.hid bx9; clear bx9
  clear lx0; have lx0 := fun w' (h : Gr _ w') => HF.out.c 0 rfl w' (HG0.out.trans h)
  simp only [Act.put, lA, lB, lC]
  iterate 2 refine tk ?_
  refine ck Tryz.call60 (fun w' hw => rtext_bad (a) (n) (way) (c) _ _ _ (HC.out) (hc0) (RN8.out.gr hw) (RN9.out.gr hw)) ?_
  iterate 5 refine tk ?_
  refine wpPlan_nil (hT.out _ _ ?_)
  intro vw5 hg
  simp only [puts, Act.put, lA, lB, lC, lD, lE, ↓reduceIte, Nat.reduceEqDiff]
  have HG := Lib.hid (((HF.out.gr (HG0.out.trans hg)).ar (RN8.out.gr hg)).ar (RN9.out.gr hg))
  simp only [zq1_, zq2_, zq3_, zq4_, lF, lG] at HG
  clear hT T HF hg HG0 RN8 RN9 lx0 HB
  go_wp2
  refine kO hK ?_; clear hK K
  refine fH ((((HG.out).er 6).er 5).er 0) fun Wx6 HF => ?_
  clear HG
  have HB := HPb HF
  have lx2 := HF.out.c 0 rfl
  have lx7 := HF.out.c 3 rfl
  refine kS fun K hK => ?_
  refine sq 22 [(true, 0), (true, 1), (true, 2), (true, 3), (true, 4), (true, 5), (true, 6), (true, 7), (true, 8), (true, 9), (true, 10), (true, 11), (true, 12), (true, 13), (true, 14), (true, 15), (true, 16), (true, 17), (true, 18), (true, 19), (true, 20), (true, 21)] fun T hT => ?_
  iterate 2 refine tk ?_
  refine ck Tryz.call28 (fun w' hw => fsame_any (z0) _ _ _ om (by omega) (HF.out.r 1 rfl hw) (HF.out.r 2 rfl hw) (Lib.hid (HT.out.gr (Gr.trans HB.out hw)))) ?_
  iterate 16 refine tk ?_
  refine ck Tryz.call55 (fun w' hw => worksd_any _ (Lib.hid (HT.out.gr (Gr.trans HB.out hw)))) ?_
  iterate 2 refine tk ?_
  refine nlS hT HF fun vw6 HG => ?_
  clear hT T HF lx2 lx7 HB
  go_wp2
  refine kO hK ?_; clear hK K
  refine fH (((((HG.out).er 3).er 2).er 1).er 0) fun Wx7 HF => ?_
  clear HG
  refine wp_ret ?_
  try simp only [Exit.then, Exit.inBlock]
  exact bodyPost_ret (v := .bool true) (by simp [results, Tryz.results12, go_sem]) rfl ⟨rfl, HF.out.1⟩
set_option maxRecDepth 100000 in
set_option maxHeartbeats 8000000 in
theorem txd_big1 (bbxn : Bool) (vxn : Value) (kxn : Nat) (fxn : Nat → Nat) (mxn : Nat) (ixn : Int) (vxd : Value) (kxd : Nat) (fxd : Nat → Nat) (mxd : Nat) (a : Rat) (n : Int) (way : Int) (w : World) (HWxn : Hid (Wa w vxn kxn fxn)) (HFxn : Hid (∀ i, i < kxn → fxn i < 4294967296)) (HVxn : Hid (vl fxn kxn = mxn)) (HAxn : Hid ((if bbxn then -((mxn : Nat) : Int) else ((mxn : Nat) : Int)) = ixn)) (HWxd : Hid (Wa w vxd kxd fxd)) (HFxd : Hid (∀ i, i < kxd → fxd i < 4294967296)) (HVxd : Hid (vl fxd kxd = mxd)) (HQx : Hid (mkRat ixn (mxd + 1) = a))  (hkxn : 5 < kxn) (HT : Hid (Tab w)) :
    Calls Tryz.prog 12 #[.agg #[.bool bbxn, vxn, vxd], .int .i64 (n), .int .i64 (way)] w fun e w' => e = .returned (.bool true) ∧ Below w.heap.size w w' := by
  obtain ⟨ao_xn, c_xn, rfl⟩ := HWxn.out.slice
  obtain ⟨ao_xd, c_xd, rfl⟩ := HWxd.out.slice
  go_enter Tryz.func12, Tryz.ntmps12
  have HF := Lib.hid (hp0 w)
  refine kS fun K hK => ?_
  refine wp_region_lit ?_
  go_wp2
  refine kO hK ?_; clear hK K
  refine fH ((HF.out).aL (w.heap.size)) fun Wx0 HG => ?_
  clear HF; have HF := HG; clear HG
  refine wp_seq ?_
  have hd1 : 5 < ((kxn : Int)) := ok
  have lx0 := HF.out.c 0 rfl
  refine kS fun K hK => ?_
  refine sq 19 [(true, 0), (true, 1), (true, 2), (true, 3), (true, 4), (true, 5), (true, 6), (true, 7), (true, 8), (true, 9), (true, 10), (true, 11), (true, 12), (true, 13), (true, 14), (true, 15), (true, 16), (true, 17), (true, 18)] fun T hT => ?_
  iterate 6 refine tk ?_
  iterate 4 refine sk ?_
  iterate 2 refine tk ?_
  iterate 6 refine sk ?_
  refine tk ?_
  refine nlS hT HF fun vw1 HG => ?_
  clear hT T HF lx0
  go_wp2
  refine kO hK ?_; clear hK K
  have HF := HG; clear HG
  clear hd1
  refine wp_cond_true (by rfl) ?_
  have HB := HPb HF
  refine kS fun K hK => ?_
  refine sq 2 [(true, 0), (true, 1)] fun T hT => ?_
  refine ck Tryz.call55 (fun w' hw => worksd_any _ (Lib.hid (HT.out.gr (Gr.trans HB.out hw)))) ?_
  refine tk ?_
  refine nlS hT HF fun vw2 HG => ?_
  clear hT T HF HB
  go_wp2
  refine kO hK ?_; clear hK K
  have HF := HG; clear HG
  refine wp_ret ?_
  try simp only [Exit.then, Exit.inBlock]
  exact bodyPost_ret (v := .bool true) (by simp [results, Tryz.results12, go_sem]) rfl ⟨rfl, HF.out.1⟩
set_option maxRecDepth 100000 in
set_option maxHeartbeats 8000000 in
theorem txd_big2 (bbxn : Bool) (vxn : Value) (kxn : Nat) (fxn : Nat → Nat) (mxn : Nat) (ixn : Int) (vxd : Value) (kxd : Nat) (fxd : Nat → Nat) (mxd : Nat) (a : Rat) (n : Int) (way : Int) (w : World) (HWxn : Hid (Wa w vxn kxn fxn)) (HFxn : Hid (∀ i, i < kxn → fxn i < 4294967296)) (HVxn : Hid (vl fxn kxn = mxn)) (HAxn : Hid ((if bbxn then -((mxn : Nat) : Int) else ((mxn : Nat) : Int)) = ixn)) (HWxd : Hid (Wa w vxd kxd fxd)) (HFxd : Hid (∀ i, i < kxd → fxd i < 4294967296)) (HVxd : Hid (vl fxd kxd = mxd)) (HQx : Hid (mkRat ixn (mxd + 1) = a)) (hkxn : kxn ≤ 5) (hkxd : 5 < kxd) (HT : Hid (Tab w)) :
    Calls Tryz.prog 12 #[.agg #[.bool bbxn, vxn, vxd], .int .i64 (n), .int .i64 (way)] w fun e w' => e = .returned (.bool true) ∧ Below w.heap.size w w' := by
  obtain ⟨ao_xn, c_xn, rfl⟩ := HWxn.out.slice
  obtain ⟨ao_xd, c_xd, rfl⟩ := HWxd.out.slice
  go_enter Tryz.func12, Tryz.ntmps12
  have HF := Lib.hid (hp0 w)
  refine kS fun K hK => ?_
  refine wp_region_lit ?_
  go_wp2
  refine kO hK ?_; clear hK K
  refine fH ((HF.out).aL (w.heap.size)) fun Wx0 HG => ?_
  clear HF; have HF := HG; clear HG
  refine wp_seq ?_
  have hd1 : ¬ (5 < ((kxn : Int))) := ok
  have hd2 : 5 < ((kxd : Int)) := ok
  have lx0 := HF.out.c 0 rfl
  refine kS fun K hK => ?_
  refine sq 19 [(true, 0), (true, 1), (true, 2), (true, 3), (true, 4), (true, 5), (true, 6), (true, 7), (true, 8), (true, 9), (true, 10), (true, 11), (true, 12), (true, 13), (true, 14), (true, 15), (true, 16), (true, 17), (true, 18)] fun T hT => ?_
  iterate 12 refine tk ?_
  iterate 6 refine sk ?_
  refine tk ?_
  refine nlS hT HF fun vw1 HG => ?_
  clear hT T HF lx0
  go_wp2
  refine kO hK ?_; clear hK K
  have HF := HG; clear HG
  clear hd1 hd2
  refine wp_cond_true (by rfl) ?_
  have HB := HPb HF
  refine kS fun K hK => ?_
  refine sq 2 [(true, 0), (true, 1)] fun T hT => ?_
  refine ck Tryz.call55 (fun w' hw => worksd_any _ (Lib.hid (HT.out.gr (Gr.trans HB.out hw)))) ?_
  refine tk ?_
  refine nlS hT HF fun vw2 HG => ?_
  clear hT T HF HB
  go_wp2
  refine kO hK ?_; clear hK K
  have HF := HG; clear HG
  refine wp_ret ?_
  try simp only [Exit.then, Exit.inBlock]
  exact bodyPost_ret (v := .bool true) (by simp [results, Tryz.results12, go_sem]) rfl ⟨rfl, HF.out.1⟩
theorem texts_law (bbxn : Bool) (vxn : Value) (kxn : Nat) (fxn : Nat → Nat) (vxd : Value) (kxd : Nat) (fxd : Nat → Nat) (n way : Int) (w : World) (HWxn : Hid (Wa w vxn kxn fxn)) (HFxn : Hid (∀ i, i < kxn → fxn i < 4294967296)) (HWxd : Hid (Wa w vxd kxd fxd)) (HFxd : Hid (∀ i, i < kxd → fxd i < 4294967296))  (HT : Hid (Tab w)) :
    Calls Tryz.prog 12 #[.agg #[.bool bbxn, vxn, vxd], .int .i64 n, .int .i64 way] w fun e w' => e = .returned (.bool true) ∧ Below w.heap.size w w' := by
  obtain ⟨ixn, HAxn⟩ : ∃ z, Hid ((if bbxn then -((vl fxn kxn : Nat) : Int) else ((vl fxn kxn : Nat) : Int)) = z) := ⟨_, Lib.hid rfl⟩
  obtain ⟨a, HQx⟩ : ∃ z, Hid (mkRat ixn (vl fxd kxd + 1) = z) := ⟨_, Lib.hid rfl⟩
  by_cases hkxn : kxn ≤ 5
  · skip
    by_cases hkxd : kxd ≤ 5
    · skip
      by_cases c1 : 100 < n
      · exact txd_far bbxn vxn kxn fxn _ ixn vxd kxd fxd _ a n way _ _ w HWxn HFxn (Lib.hid rfl) HAxn HWxd HFxd (Lib.hid rfl) HQx hkxn hkxd c1 (Lib.hid rfl) (by unfold rcode; rw [if_neg (by omega), if_pos c1]; decide) (Lib.hid rfl) (sz_of (wl_le.2 (by decide +kernel)) (wl_le.2 (by decide +kernel))) (rz_of (tw_le.2 (by decide +kernel)) (tw_le.2 (by decide +kernel))) HT
      · by_cases c2 : 40 < n
        · exact txd_mid bbxn vxn kxn fxn _ ixn vxd kxd fxd _ a n way w HWxn HFxn (Lib.hid rfl) HAxn HWxd HFxd (Lib.hid rfl) HQx hkxn hkxd c2 (by omega) HT
        · by_cases c3 : rcode n way = 0
          · have c4 : 0 ≤ n ∧ 1 ≤ way ∧ way ≤ 3 := by
              unfold rcode at c3
              by_cases d1 : n < 0
              · rw [if_pos d1] at c3; exact absurd c3 (by decide)
              · rw [if_neg d1, if_neg c1] at c3
                by_cases d2 : way < 1 ∨ 3 < way
                · rw [if_pos d2] at c3; exact absurd c3 (by decide)
                · omega
            obtain ⟨k, rfl⟩ : ∃ k : Nat, n = (k : Int) := ⟨n.toNat, by omega⟩
            exact txd_ok bbxn vxn kxn fxn _ ixn vxd kxd fxd _ a k way _ w HWxn HFxn (Lib.hid rfl) HAxn HWxd HFxd (Lib.hid rfl) HQx hkxn hkxd (by omega) c4.2.1 c4.2.2 (Lib.hid rfl) HT
          · exact txd_bad bbxn vxn kxn fxn _ ixn vxd kxd fxd _ a n way _ _ w HWxn HFxn (Lib.hid rfl) HAxn HWxd HFxd (Lib.hid rfl) HQx hkxn hkxd (by omega) (Lib.hid rfl) c3 (Lib.hid rfl) (sz_of (wl_le.2 (by decide +kernel)) (wl_le.2 (by decide +kernel))) (rz_of (tw_le.2 (by decide +kernel)) (tw_le.2 (by decide +kernel))) HT
    · exact txd_big2 bbxn vxn kxn fxn _ ixn vxd kxd fxd _ a n way w HWxn HFxn (Lib.hid rfl) HAxn HWxd HFxd (Lib.hid rfl) HQx  hkxn (by omega) HT
  · exact txd_big1 bbxn vxn kxn fxn _ ixn vxd kxd fxd _ a n way w HWxn HFxn (Lib.hid rfl) HAxn HWxd HFxd (Lib.hid rfl) HQx   (by omega) HT
end Go.Proofs.YtaflakcemiilaaaGreatDoor
