
/- FracsLowest: the law's walk. -/
import Derived.Test.YtpcfncbcpknobaaGreatDoorWorksQ
import Derived.Test.YtpcfncbcpknobaaGreatDoorQFew1
import Derived.Test.YtpcfncbcpknobaaGreatDoorFieldP
namespace Go.Proofs.YtpcfncbcpknobaaGreatDoor
open Go.RowKit
set_option linter.unusedSimpArgs false
set_option linter.unusedVariables false
attribute [local go_sem ↓] Go.wp_at_zero Go.wp_at_succ
attribute [local go_sem ↓] eq_nat eq_nat_zero eq_int eq_frac eq_frac_zero
attribute [local go_sem] Instr.field asAgg
set_option maxRecDepth 100000 in
set_option maxHeartbeats 8000000 in
theorem lowq_wz (bbxn : Bool) (vxn : Value) (kxn : Nat) (fxn : Nat → Nat) (mxn : Nat) (ixn : Int) (vxd : Value) (kxd : Nat) (fxd : Nat → Nat) (mxd : Nat) (a : Rat)  (w : World) (HWxn : Hid (Wa w vxn kxn fxn)) (HFxn : Hid (∀ i, i < kxn → fxn i < 4294967296)) (HVxn : Hid (vl fxn kxn = mxn)) (HAxn : Hid ((if bbxn then -((mxn : Nat) : Int) else ((mxn : Nat) : Int)) = ixn)) (HWxd : Hid (Wa w vxd kxd fxd)) (HFxd : Hid (∀ i, i < kxd → fxd i < 4294967296)) (HVxd : Hid (vl fxd kxd = mxd)) (HQx : Hid (mkRat ixn (mxd + 1) = a)) (hkxn : kxn ≤ 8) (hkxd : kxd ≤ 8) (HW : Hid ((a).den = 1)) (HT : Hid (Tab w)) :
    Calls Tryz.prog 11 #[.agg #[.bool bbxn, vxn, vxd], .int .i64 0] w fun e w' => e = .returned (.bool true) ∧ Below w.heap.size w w' := by
  obtain ⟨ao_xn, c_xn, rfl⟩ := HWxn.out.slice
  obtain ⟨ao_xd, c_xd, rfl⟩ := HWxd.out.slice
  have hm_xn : wl mxn ≤ 8 := by rw [← HVxn.out]; have := wl_le.2 (vl_lt HFxn.out); omega
  have hm_xd : wl mxd ≤ 8 := by rw [← HVxd.out]; have := wl_le.2 (vl_lt HFxd.out); omega
  have hi_x : wl (Int.natAbs ixn) ≤ 8 := by rw [zsize HAxn.out]; exact hm_xn
  have hs_x : sz a ≤ 9 := by rw [← HQx.out]; exact sz_great hi_x hm_xd
  have hr_x : rz a ≤ 27 := by rw [← HQx.out]; exact rz_great hi_x hm_xd (by decide)
  go_enter Tryz.func11, Tryz.ntmps11
  have HF := Lib.hid (hp0 w)
  refine kS fun K hK => ?_
  refine wp_region_lit ?_
  go_wp2
  refine hK.out _ _ ?_; clear hK K
  show Code.wp _ _ _ _ _
  refine fH ((HF.out).al (b := w.heap.size) (by first | rfl | simp) (by decide)) fun Wx0 HG => ?_
  clear HF; have HF := HG; clear HG
  refine wp_seq ?_
  have lx0 := HF.out.c 0 rfl
  refine kS fun K hK => ?_
  have HG0 : Hid (Gr Wx0 Wx0) := Lib.hid (Gr.refl _)
  refine sq 4 [(true, 0), (false, 1), (true, 2), (true, 3)] fun T hT => ?_
  refine tk ?_
  refine wpPlan_slice (cs := #[.bool (bbxn), (.slice ao_xn kxn c_xn), (.slice ao_xd kxd c_xd)]) (E := 88) (n := 1) rfl (by rfl) (fun w' hw => ?_) (fun gx2 vv2 hg0 yx2 bx2 => ?_)
  · go_simp
  clear yx2
  replace HG0 := Lib.hid (HG0.out.trans hg0)
  have HGS := Lib.hid hg0; clear hg0
  clear HGS
  have BX2 := Lib.hid bx2; clear bx2
  clear lx0; have lx0 := fun w' (h : Gr _ w') => HF.out.c 0 rfl w' (HG0.out.trans h)
  simp only [Act.put, lA, lB, lC]
  refine ck Tryz.call53 (fun w' hw => qfew1_ok _ _ _ _ _ _ _ 8 gx2 _ (BX2.out.gr hw) (by omega) (by omega)) ?_
  refine tk ?_
  refine wpPlan_nil (hT.out _ _ ?_)
  intro vw1 hg
  simp only [puts, Act.put, lA, lB, lC, lD, lE, ↓reduceIte, Nat.reduceEqDiff]
  have HG := Lib.hid (HF.out.gr (HG0.out.trans hg))
  clear hT T HF hg HG0 BX2 lx0
  go_wp2
  refine hK.out _ _ ?_; clear hK K
  show Code.wp _ _ _ _ _
  have HF := HG; clear HG
  refine wp_cond_false (by rfl) ?_
  refine wp_skip ?_
  show Code.wp _ _ _ _ _
  have HB := HPb HF
  have lx0 := HF.out.c 0 rfl
  refine kS fun K hK => ?_
  refine sq 2 [(true, 0), (true, 1)] fun T hT => ?_
  refine tk ?_
  refine ck Tryz.call54 (fun w' hw => gof_any bbxn kxn fxn mxn ixn kxd fxd mxd a ao_xn c_xn ao_xd c_xd w' (Lib.hid (HWxn.out.gr (Gr.trans HB.out hw))) HFxn HVxn HAxn (Lib.hid (HWxd.out.gr (Gr.trans HB.out hw))) HFxd HVxd HQx om om om om) ?_
  refine nlS hT HF fun vw2 HG => ?_
  clear hT T HF lx0 HB
  go_wp2
  refine hK.out _ _ ?_; clear hK K
  show Code.wp _ _ _ _ _
  refine fH (((HG.out).al (b := vw2.heap.size) (by first | rfl | simp) (by decide)).er 0) fun Wx3 HF => ?_
  clear HG
  generalize vw2.heap.size = gx3 at *
  have su1 : wl (Int.natAbs ((a).num)) ≤ 9 := Nat.le_trans (sz_num _) om
  have su2 : wl ((a).den) ≤ 9 := Nat.le_trans (sz_den _) om
  have sp2 : 0 < (a).den := (a).den_pos
  have lx3 := HF.out.c 0 rfl
  refine kS fun K hK => ?_
  refine wp_region_plan 6 [4, 5] [] (fun i => if i = 4 then 6 else 7) (fun i => if i = 4 then .cells #[.int .u64 0, .string ⟨#[]⟩, .bool false] 38 else .cells #[.int .u64 0, .string ⟨#[]⟩] 34) [(true, 0), (true, 2), (true, 1), (true, 3)] (by kernel_rfl) (by kernel_rfl) (by intro i hi; simp only [List.mem_cons, List.not_mem_nil, or_false] at hi; rcases hi with rfl | rfl <;> exact ⟨_, rfl, rfl, rfl, by simp, fun ρ w => by kernel_rfl⟩) (fun i hi => by cases hi) (fun _ _ _ _ _ h => h) (fun T hT => ?_)
  iterate 2 refine tk ?_
  refine ck Tryz.call90 (fun w' hw => fnum_any (a) _) ?_
  refine ck Tryz.call91 (fun w' hw => fDen_any (a) _ om) ?_
  refine wpPlan_nil (hT.out _ _ ?_)
  intro G vw3 hg hf
  simp only [puts, Act.put, lA, lB, lC, lD, lE, ↓reduceIte, Nat.reduceEqDiff]
  have HG := Lib.hid (HF.out.fr hg hf (zs := [(#[.int .u64 0, .string ⟨#[]⟩, .bool false], 38), (#[.int .u64 0, .string ⟨#[]⟩], 34)]) rfl (by decide) (by decide))
  simp only [List.zip_cons_cons, List.zip_nil_right, List.map_cons, List.map_nil, lF, lG] at HG
  clear hT T HF hg hf lx3
  generalize G 4 = gx4 at *
  generalize G 5 = gx5 at *
  have lx4 := HG.out.c 1 rfl; have fx4 := HG.out.f 1 rfl
  have lx5 := HG.out.c 2 rfl; have fx5 := HG.out.f 2 rfl
  have r0 := Gr.refl vw3
  obtain ⟨d4_5, d5_4⟩ := HG.out.ne 1 2 rfl rfl (by decide)
  go_wp2
  refine hK.out _ _ ?_; clear hK K
  show Code.wp _ _ _ _ _
  clear r0 lx4 fx4 lx5 fx5 d4_5 d5_4
  refine fH ((((HG.out).put2 1 0 rfl).put 1 2 _ rfl).put2 2 0 rfl) fun Wx4 HF => ?_
  clear HG
  have HZ3 : Hid (mkRat ((a).num) ((a).den) = a) := Lib.hid (by first | exact ok | exact Rat.mkRat_self _ | exact (a).reduced | exact HW.out)
  have su3 : sz (a) ≤ 9 := by have e := HZ3.out; first | omega | (rw [← e]; exact sz_mkRat (k := 9) om om (by decide))
  have lx4 := HF.out.c 1 rfl
  have lx5 := HF.out.c 2 rfl
  refine kS fun K hK => ?_
  refine sq 6 [(true, 0), (true, 1), (true, 2), (true, 3), (true, 4), (true, 5)] fun T hT => ?_
  iterate 2 refine tk ?_
  refine ck Tryz.call55 (fun w' hw => ffrom_ok ((a).num) ((a).den) (a) _ (Lib.hid HZ3.out) (by first | exact ok | exact Rat.mkRat_self _ | exact (a).reduced | exact HW.out) om om) ?_
  iterate 3 refine tk ?_
  refine nlS hT HF fun vw4 HG => ?_
  clear hT T HF lx4 lx5
  go_wp2
  refine hK.out _ _ ?_; clear hK K
  show Code.wp _ _ _ _ _
  refine fH ((HG.out).al (b := vw4.heap.size) (by first | rfl | simp) (by decide)) fun Wx5 HF => ?_
  clear HG
  generalize vw4.heap.size = gx6 at *
  refine wp_seq ?_
  have hd1 : decide ((a).den = 0) = false := decide_eq_false (by first | exact ok | exact Rat.mkRat_self _ | exact (a).reduced | exact HW.out)
  have HZ4 : Hid (Nat.gcd (Int.natAbs ((a).num)) ((a).den) = 1) := Lib.hid (by first | exact ok | exact Rat.mkRat_self _ | exact (a).reduced | exact HW.out)
  have su4 : wl (1) ≤ 9 := by have e := HZ4.out; first | omega | (rw [← e]; have := wl_gcd (Int.natAbs ((a).num)) ((a).den); omega) | exact wl_le.2 (by decide +kernel)
  have su_0_6 : wl 1 ≤ 1 := wl_le.2 (by decide +kernel)
  have su_1_6 : wl 1 ≤ 1 := wl_le.2 (by decide +kernel)
  have hd2 : decide ((a).den = 1) = true := decide_eq_true (by first | exact ok | exact Rat.mkRat_self _ | exact (a).reduced | exact HW.out)
  have lx3 := HF.out.c 0 rfl
  have lx4 := HF.out.c 1 rfl
  have lx5 := HF.out.c 2 rfl
  have lx6 := HF.out.c 3 rfl
  refine kS fun K hK => ?_
  refine pd 27 [(true, 0), (true, 1), (true, 2), (true, 3), (true, 4), (true, 6), (true, 5), (true, 7), (true, 8), (true, 9), (true, 10), (true, 11), (true, 12), (true, 13), (true, 14), (true, 15), (true, 16), (true, 17), (true, 18), (true, 19), (true, 20), (true, 21), (true, 23), (true, 22), (true, 24), (true, 25), (true, 26)] fun T hT => ?_
  iterate 6 refine tk ?_
  refine ck Tryz.call70 (fun w' hw => abs_any ((a).num) _) ?_
  refine ck Tryz.call92 (fun w' hw => nzgcd (Int.natAbs ((a).num)) ((a).den) (1) _ HZ4.out om om) ?_
  refine ck Tryz.call57 (fun w' hw => nzof 1 _ (by decide)) ?_
  iterate 14 refine tk ?_
  refine ck Tryz.call59 (fun w' hw => fiswhole_any (a) true _ (decide_eq_true (by first | exact ok | exact Rat.mkRat_self _ | exact (a).reduced | exact HW.out))) ?_
  refine ck Tryz.call57 (fun w' hw => nzof 1 _ (by decide)) ?_
  iterate 2 refine tk ?_
  refine nlD hT HF fun vw5 HG => ?_
  clear hT T HF lx3 lx4 lx5 lx6
  go_wp2
  refine hK.out _ _ ?_; clear hK K
  show Code.wp _ _ _ _ _
  refine fH ((HG.out).er 3) fun Wx6 HF => ?_
  clear HG
  clear hd1 hd2
  refine wp_cond_false (by rfl) ?_
  refine wp_skip ?_
  show Code.wp _ _ _ _ _
  refine wp_seq ?_
  refine kS fun K hK => ?_
  refine sq 2 [(true, 0), (true, 1)] fun T hT => ?_
  iterate 2 refine tk ?_
  refine nlS hT HF fun vw6 HG => ?_
  clear hT T HF
  go_wp2
  refine hK.out _ _ ?_; clear hK K
  show Code.wp _ _ _ _ _
  have HF := HG; clear HG
  refine wp_cond_true (by rfl) ?_
  have lx4 := HF.out.c 1 rfl
  refine kS fun K hK => ?_
  refine sq 6 [(true, 0), (true, 1), (true, 2), (true, 3), (true, 4), (true, 5)] fun T hT => ?_
  iterate 2 refine tk ?_
  refine ck Tryz.call55 (fun w' hw => ffrom_none ((a).num) (0) _ (by first | exact ok | exact Rat.mkRat_self _ | exact (a).reduced | exact HW.out)) ?_
  iterate 3 refine tk ?_
  refine nlS hT HF fun vw7 HG => ?_
  clear hT T HF lx4
  go_wp2
  refine hK.out _ _ ?_; clear hK K
  show Code.wp _ _ _ _ _
  refine fH (((HG.out).al (b := vw7.heap.size) (by first | rfl | simp) (by decide)).er 3) fun Wx9 HF => ?_
  clear HG
  generalize vw7.heap.size = gx7 at *
  have HB := HPb HF
  refine kS fun K hK => ?_
  refine sq 6 [(true, 0), (true, 1), (true, 2), (true, 3), (true, 4), (true, 5)] fun T hT => ?_
  iterate 3 refine tk ?_
  refine ck Tryz.call49 (fun w' hw => worksq_any _ (Lib.hid (HT.out.gr (Gr.trans HB.out hw)))) ?_
  iterate 2 refine tk ?_
  refine nlS hT HF fun vw8 HG => ?_
  clear hT T HF HB
  go_wp2
  refine hK.out _ _ ?_; clear hK K
  show Code.wp _ _ _ _ _
  have HF := HG; clear HG
  refine wp_ret ?_
  try simp only [Exit.then, Exit.inBlock]
  exact bodyPost_ret (v := .bool true) (by simp [results, Tryz.results11, go_sem]) rfl ⟨rfl, HF.out.1⟩

set_option maxRecDepth 100000 in
set_option maxHeartbeats 8000000 in
theorem lowq_wk (bbxn : Bool) (vxn : Value) (kxn : Nat) (fxn : Nat → Nat) (mxn : Nat) (ixn : Int) (vxd : Value) (kxd : Nat) (fxd : Nat → Nat) (mxd : Nat) (a : Rat) (k : Int) (w : World) (HWxn : Hid (Wa w vxn kxn fxn)) (HFxn : Hid (∀ i, i < kxn → fxn i < 4294967296)) (HVxn : Hid (vl fxn kxn = mxn)) (HAxn : Hid ((if bbxn then -((mxn : Nat) : Int) else ((mxn : Nat) : Int)) = ixn)) (HWxd : Hid (Wa w vxd kxd fxd)) (HFxd : Hid (∀ i, i < kxd → fxd i < 4294967296)) (HVxd : Hid (vl fxd kxd = mxd)) (HQx : Hid (mkRat ixn (mxd + 1) = a)) (hkxn : kxn ≤ 8) (hkxd : kxd ≤ 8) (h1 : -9223372036854775808 ≤ k) (h2 : k ≤ 9223372036854775807) (hk0 : k ≠ 0) (HW : Hid ((a).den = 1)) (HT : Hid (Tab w)) :
    Calls Tryz.prog 11 #[.agg #[.bool bbxn, vxn, vxd], .int .i64 (k)] w fun e w' => e = .returned (.bool true) ∧ Below w.heap.size w w' := by
  obtain ⟨ao_xn, c_xn, rfl⟩ := HWxn.out.slice
  obtain ⟨ao_xd, c_xd, rfl⟩ := HWxd.out.slice
  have hm_xn : wl mxn ≤ 8 := by rw [← HVxn.out]; have := wl_le.2 (vl_lt HFxn.out); omega
  have hm_xd : wl mxd ≤ 8 := by rw [← HVxd.out]; have := wl_le.2 (vl_lt HFxd.out); omega
  have hi_x : wl (Int.natAbs ixn) ≤ 8 := by rw [zsize HAxn.out]; exact hm_xn
  have hs_x : sz a ≤ 9 := by rw [← HQx.out]; exact sz_great hi_x hm_xd
  have hr_x : rz a ≤ 27 := by rw [← HQx.out]; exact rz_great hi_x hm_xd (by decide)
  go_enter Tryz.func11, Tryz.ntmps11
  have HF := Lib.hid (hp0 w)
  refine kS fun K hK => ?_
  refine wp_region_lit ?_
  go_wp2
  refine hK.out _ _ ?_; clear hK K
  show Code.wp _ _ _ _ _
  refine fH ((HF.out).al (b := w.heap.size) (by first | rfl | simp) (by decide)) fun Wx0 HG => ?_
  clear HF; have HF := HG; clear HG
  refine wp_seq ?_
  have lx0 := HF.out.c 0 rfl
  refine kS fun K hK => ?_
  have HG0 : Hid (Gr Wx0 Wx0) := Lib.hid (Gr.refl _)
  refine sq 4 [(true, 0), (false, 1), (true, 2), (true, 3)] fun T hT => ?_
  refine tk ?_
  refine wpPlan_slice (cs := #[.bool (bbxn), (.slice ao_xn kxn c_xn), (.slice ao_xd kxd c_xd)]) (E := 88) (n := 1) rfl (by rfl) (fun w' hw => ?_) (fun gx2 vv2 hg0 yx2 bx2 => ?_)
  · go_simp
  clear yx2
  replace HG0 := Lib.hid (HG0.out.trans hg0)
  have HGS := Lib.hid hg0; clear hg0
  clear HGS
  have BX2 := Lib.hid bx2; clear bx2
  clear lx0; have lx0 := fun w' (h : Gr _ w') => HF.out.c 0 rfl w' (HG0.out.trans h)
  simp only [Act.put, lA, lB, lC]
  refine ck Tryz.call53 (fun w' hw => qfew1_ok _ _ _ _ _ _ _ 8 gx2 _ (BX2.out.gr hw) (by omega) (by omega)) ?_
  refine tk ?_
  refine wpPlan_nil (hT.out _ _ ?_)
  intro vw1 hg
  simp only [puts, Act.put, lA, lB, lC, lD, lE, ↓reduceIte, Nat.reduceEqDiff]
  have HG := Lib.hid (HF.out.gr (HG0.out.trans hg))
  clear hT T HF hg HG0 BX2 lx0
  go_wp2
  refine hK.out _ _ ?_; clear hK K
  show Code.wp _ _ _ _ _
  have HF := HG; clear HG
  refine wp_cond_false (by rfl) ?_
  refine wp_skip ?_
  show Code.wp _ _ _ _ _
  have HB := HPb HF
  have lx0 := HF.out.c 0 rfl
  refine kS fun K hK => ?_
  refine sq 2 [(true, 0), (true, 1)] fun T hT => ?_
  refine tk ?_
  refine ck Tryz.call54 (fun w' hw => gof_any bbxn kxn fxn mxn ixn kxd fxd mxd a ao_xn c_xn ao_xd c_xd w' (Lib.hid (HWxn.out.gr (Gr.trans HB.out hw))) HFxn HVxn HAxn (Lib.hid (HWxd.out.gr (Gr.trans HB.out hw))) HFxd HVxd HQx om om om om) ?_
  refine nlS hT HF fun vw2 HG => ?_
  clear hT T HF lx0 HB
  go_wp2
  refine hK.out _ _ ?_; clear hK K
  show Code.wp _ _ _ _ _
  refine fH (((HG.out).al (b := vw2.heap.size) (by first | rfl | simp) (by decide)).er 0) fun Wx3 HF => ?_
  clear HG
  generalize vw2.heap.size = gx3 at *
  have su1 : wl (Int.natAbs ((a).num)) ≤ 9 := Nat.le_trans (sz_num _) om
  have su2 : wl ((a).den) ≤ 9 := Nat.le_trans (sz_den _) om
  have sp2 : 0 < (a).den := (a).den_pos
  have lx3 := HF.out.c 0 rfl
  refine kS fun K hK => ?_
  refine wp_region_plan 6 [4, 5] [] (fun i => if i = 4 then 6 else 7) (fun i => if i = 4 then .cells #[.int .u64 0, .string ⟨#[]⟩, .bool false] 38 else .cells #[.int .u64 0, .string ⟨#[]⟩] 34) [(true, 0), (true, 2), (true, 1), (true, 3)] (by kernel_rfl) (by kernel_rfl) (by intro i hi; simp only [List.mem_cons, List.not_mem_nil, or_false] at hi; rcases hi with rfl | rfl <;> exact ⟨_, rfl, rfl, rfl, by simp, fun ρ w => by kernel_rfl⟩) (fun i hi => by cases hi) (fun _ _ _ _ _ h => h) (fun T hT => ?_)
  iterate 2 refine tk ?_
  refine ck Tryz.call90 (fun w' hw => fnum_any (a) _) ?_
  refine ck Tryz.call91 (fun w' hw => fDen_any (a) _ om) ?_
  refine wpPlan_nil (hT.out _ _ ?_)
  intro G vw3 hg hf
  simp only [puts, Act.put, lA, lB, lC, lD, lE, ↓reduceIte, Nat.reduceEqDiff]
  have HG := Lib.hid (HF.out.fr hg hf (zs := [(#[.int .u64 0, .string ⟨#[]⟩, .bool false], 38), (#[.int .u64 0, .string ⟨#[]⟩], 34)]) rfl (by decide) (by decide))
  simp only [List.zip_cons_cons, List.zip_nil_right, List.map_cons, List.map_nil, lF, lG] at HG
  clear hT T HF hg hf lx3
  generalize G 4 = gx4 at *
  generalize G 5 = gx5 at *
  have lx4 := HG.out.c 1 rfl; have fx4 := HG.out.f 1 rfl
  have lx5 := HG.out.c 2 rfl; have fx5 := HG.out.f 2 rfl
  have r0 := Gr.refl vw3
  obtain ⟨d4_5, d5_4⟩ := HG.out.ne 1 2 rfl rfl (by decide)
  go_wp2
  refine hK.out _ _ ?_; clear hK K
  show Code.wp _ _ _ _ _
  clear r0 lx4 fx4 lx5 fx5 d4_5 d5_4
  refine fH ((((HG.out).put2 1 0 rfl).put 1 2 _ rfl).put2 2 0 rfl) fun Wx4 HF => ?_
  clear HG
  have HZ3 : Hid (mkRat ((a).num) ((a).den) = a) := Lib.hid (by first | exact ok | exact Rat.mkRat_self _ | exact (a).reduced | exact HW.out)
  have su3 : sz (a) ≤ 9 := by have e := HZ3.out; first | omega | (rw [← e]; exact sz_mkRat (k := 9) om om (by decide))
  have lx4 := HF.out.c 1 rfl
  have lx5 := HF.out.c 2 rfl
  refine kS fun K hK => ?_
  refine sq 6 [(true, 0), (true, 1), (true, 2), (true, 3), (true, 4), (true, 5)] fun T hT => ?_
  iterate 2 refine tk ?_
  refine ck Tryz.call55 (fun w' hw => ffrom_ok ((a).num) ((a).den) (a) _ (Lib.hid HZ3.out) (by first | exact ok | exact Rat.mkRat_self _ | exact (a).reduced | exact HW.out) om om) ?_
  iterate 3 refine tk ?_
  refine nlS hT HF fun vw4 HG => ?_
  clear hT T HF lx4 lx5
  go_wp2
  refine hK.out _ _ ?_; clear hK K
  show Code.wp _ _ _ _ _
  refine fH ((HG.out).al (b := vw4.heap.size) (by first | rfl | simp) (by decide)) fun Wx5 HF => ?_
  clear HG
  generalize vw4.heap.size = gx6 at *
  refine wp_seq ?_
  have hd1 : decide ((a).den = 0) = false := decide_eq_false (by first | exact ok | exact Rat.mkRat_self _ | exact (a).reduced | exact HW.out)
  have HZ4 : Hid (Nat.gcd (Int.natAbs ((a).num)) ((a).den) = 1) := Lib.hid (by first | exact ok | exact Rat.mkRat_self _ | exact (a).reduced | exact HW.out)
  have su4 : wl (1) ≤ 9 := by have e := HZ4.out; first | omega | (rw [← e]; have := wl_gcd (Int.natAbs ((a).num)) ((a).den); omega) | exact wl_le.2 (by decide +kernel)
  have su_0_6 : wl 1 ≤ 1 := wl_le.2 (by decide +kernel)
  have su_1_6 : wl 1 ≤ 1 := wl_le.2 (by decide +kernel)
  have hd2 : decide ((a).den = 1) = true := decide_eq_true (by first | exact ok | exact Rat.mkRat_self _ | exact (a).reduced | exact HW.out)
  have lx3 := HF.out.c 0 rfl
  have lx4 := HF.out.c 1 rfl
  have lx5 := HF.out.c 2 rfl
  have lx6 := HF.out.c 3 rfl
  refine kS fun K hK => ?_
  refine pd 27 [(true, 0), (true, 1), (true, 2), (true, 3), (true, 4), (true, 6), (true, 5), (true, 7), (true, 8), (true, 9), (true, 10), (true, 11), (true, 12), (true, 13), (true, 14), (true, 15), (true, 16), (true, 17), (true, 18), (true, 19), (true, 20), (true, 21), (true, 23), (true, 22), (true, 24), (true, 25), (true, 26)] fun T hT => ?_
  iterate 6 refine tk ?_
  refine ck Tryz.call70 (fun w' hw => abs_any ((a).num) _) ?_
  refine ck Tryz.call92 (fun w' hw => nzgcd (Int.natAbs ((a).num)) ((a).den) (1) _ HZ4.out om om) ?_
  refine ck Tryz.call57 (fun w' hw => nzof 1 _ (by decide)) ?_
  iterate 14 refine tk ?_
  refine ck Tryz.call59 (fun w' hw => fiswhole_any (a) true _ (decide_eq_true (by first | exact ok | exact Rat.mkRat_self _ | exact (a).reduced | exact HW.out))) ?_
  refine ck Tryz.call57 (fun w' hw => nzof 1 _ (by decide)) ?_
  iterate 2 refine tk ?_
  refine nlD hT HF fun vw5 HG => ?_
  clear hT T HF lx3 lx4 lx5 lx6
  go_wp2
  refine hK.out _ _ ?_; clear hK K
  show Code.wp _ _ _ _ _
  refine fH ((HG.out).er 3) fun Wx6 HF => ?_
  clear HG
  clear hd1 hd2
  refine wp_cond_false (by rfl) ?_
  refine wp_skip ?_
  show Code.wp _ _ _ _ _
  refine wp_seq ?_
  have hd3 : ((k) == (0)) = false := by have : ¬ (k = 0) := (by first | exact ok | exact Rat.mkRat_self _ | exact (a).reduced | exact HW.out); simpa using this
  refine kS fun K hK => ?_
  refine sq 2 [(true, 0), (true, 1)] fun T hT => ?_
  iterate 2 refine tk ?_
  refine nlS hT HF fun vw6 HG => ?_
  clear hT T HF
  go_wp2
  refine hK.out _ _ ?_; clear hK K
  show Code.wp _ _ _ _ _
  have HF := HG; clear HG
  clear hd3
  refine wp_cond_false (by rfl) ?_
  refine wp_skip ?_
  show Code.wp _ _ _ _ _
  have su5 : wl (Int.natAbs (k)) ≤ 2 := wl_i64 om om
  refine kS fun K hK => ?_
  refine sq 2 [(true, 0), (true, 1)] fun T hT => ?_
  refine tk ?_
  refine ck Tryz.call93 (fun w' hw => iof_any (k) _ om om) ?_
  refine nlS hT HF fun vw7 HG => ?_
  clear hT T HF
  go_wp2
  refine hK.out _ _ ?_; clear hK K
  show Code.wp _ _ _ _ _
  refine fH ((HG.out).al (b := vw7.heap.size) (by first | rfl | simp) (by decide)) fun Wx11 HF => ?_
  clear HG
  generalize vw7.heap.size = gx7 at *
  obtain ⟨u6, HZ6⟩ : ∃ z, Hid ((if false then -((Int.natAbs (k) : Nat) : Int) else ((Int.natAbs (k) : Nat) : Int)) = z) := ⟨_, Lib.hid rfl⟩
  have su6 : wl (Int.natAbs (u6)) ≤ 2 := by rw [← HZ6.out]; split <;> simp <;> omega
  obtain ⟨u7, HZ7⟩ : ∃ z, Hid (((a).num) * (u6) = z) := ⟨_, Lib.hid rfl⟩
  have su7 : wl (Int.natAbs (u7)) ≤ 11 := by rw [← HZ7.out]; have := wl_imul ((a).num) (u6); omega
  obtain ⟨u8, HZ8⟩ : ∃ z, Hid (((a).den) * (Int.natAbs (k)) = z) := ⟨_, Lib.hid rfl⟩
  have su8 : wl (u8) ≤ 11 := by rw [← HZ8.out]; have := wl_mul ((a).den) (Int.natAbs (k)); omega
  have HZ9 : Hid (mkRat (u7) (u8) = a) := Lib.hid (by simp only [← HZ8.out, ← HZ7.out, ← HZ6.out]; exact mk_scale a k hk0)
  have su9 : sz (a) ≤ 11 := by have e := HZ9.out; first | omega | (rw [← e]; exact sz_mkRat (k := 11) om om (by decide))
  have lx4 := HF.out.c 1 rfl
  have lx5 := HF.out.c 2 rfl
  have lx7 := HF.out.c 3 rfl
  refine kS fun K hK => ?_
  refine wp_region_plan 14 [13] [12] (fun _ => 13) (fun _ => .cells #[.int .u64 0, .string ⟨#[]⟩, .bool false, .int .u64 0, .string ⟨#[]⟩] 51) [(true, 0), (true, 1), (true, 5), (true, 6), (true, 2), (true, 3), (true, 4), (true, 7), (true, 8), (true, 9), (true, 10), (true, 11), (true, 12)] (by kernel_rfl) (by kernel_rfl) (by intro i hi; simp only [List.mem_cons, List.not_mem_nil, or_false] at hi; rcases hi with rfl <;> exact ⟨_, rfl, rfl, rfl, by simp, fun ρ w => by kernel_rfl⟩) (by intro i hi; simp only [List.mem_cons, List.not_mem_nil, or_false] at hi; rcases hi with rfl <;> exact ⟨_, rfl, pure_extract⟩) (fun _ _ _ _ _ h => h) (fun T hT => ?_)
  iterate 4 refine tk ?_
  refine ck Tryz.call70 (fun w' hw => abs_any (k) _) ?_
  refine ck Tryz.call95 (fun w' hw => from_any false (Int.natAbs (k)) (u6) _ HZ6.out) ?_
  refine ck Tryz.call94 (fun w' hw => zimul ((a).num) (u6) (u7) _ HZ7.out om om) ?_
  refine ck Tryz.call70 (fun w' hw => abs_any (k) _) ?_
  refine ck Tryz.call96 (fun w' hw => nzmul ((a).den) (Int.natAbs (k)) (u8) _ HZ8.out om om) ?_
  refine ck Tryz.call55 (fun w' hw => ffrom_ok (u7) (u8) (a) _ (Lib.hid HZ9.out) (by simp only [← HZ8.out, ← HZ7.out, ← HZ6.out]; exact Nat.mul_pos (a).den_pos (Int.natAbs_pos.2 hk0)) om om) ?_
  iterate 3 refine tk ?_
  refine wpPlan_nil (hT.out _ _ ?_)
  intro G vw8 hg hf
  simp only [puts, Act.put, lA, lB, lC, lD, lE, ↓reduceIte, Nat.reduceEqDiff]
  have HG := Lib.hid (HF.out.fr hg hf (zs := [(#[.int .u64 0, .string ⟨#[]⟩, .bool false, .int .u64 0, .string ⟨#[]⟩], 51)]) rfl (by decide) (by decide))
  simp only [List.zip_cons_cons, List.zip_nil_right, List.map_cons, List.map_nil, lF, lG] at HG
  clear hT T HF hg hf lx4 lx5 lx7
  generalize G 13 = gx8 at *
  have lx8 := HG.out.c 4 rfl; have fx8 := HG.out.f 4 rfl
  have r0 := Gr.refl vw8
  go_wp2
  refine hK.out _ _ ?_; clear hK K
  show Code.wp _ _ _ _ _
  clear r0 lx8 fx8
  refine fH (((((((HG.out).put2 4 0 rfl).put2 4 2 rfl).put 4 4 _ rfl).er 3).er 2).er 1) fun Wx12 HF => ?_
  clear HG
  have HB := HPb HF
  have lx3 := HF.out.c 0 rfl
  have lx8 := HF.out.c 1 rfl
  refine kS fun K hK => ?_
  refine sq 11 [(true, 0), (true, 1), (true, 2), (true, 3), (true, 4), (true, 5), (true, 6), (true, 7), (true, 8), (true, 9), (true, 10)] fun T hT => ?_
  iterate 8 refine tk ?_
  refine ck Tryz.call49 (fun w' hw => worksq_any _ (Lib.hid (HT.out.gr (Gr.trans HB.out hw)))) ?_
  iterate 2 refine tk ?_
  refine nlS hT HF fun vw9 HG => ?_
  clear hT T HF lx3 lx8 HB
  go_wp2
  refine hK.out _ _ ?_; clear hK K
  show Code.wp _ _ _ _ _
  refine fH (((HG.out).er 1).er 0) fun Wx13 HF => ?_
  clear HG
  refine wp_ret ?_
  try simp only [Exit.then, Exit.inBlock]
  exact bodyPost_ret (v := .bool true) (by simp [results, Tryz.results11, go_sem]) rfl ⟨rfl, HF.out.1⟩

set_option maxRecDepth 100000 in
set_option maxHeartbeats 8000000 in
theorem lowq_nz (bbxn : Bool) (vxn : Value) (kxn : Nat) (fxn : Nat → Nat) (mxn : Nat) (ixn : Int) (vxd : Value) (kxd : Nat) (fxd : Nat → Nat) (mxd : Nat) (a : Rat)  (w : World) (HWxn : Hid (Wa w vxn kxn fxn)) (HFxn : Hid (∀ i, i < kxn → fxn i < 4294967296)) (HVxn : Hid (vl fxn kxn = mxn)) (HAxn : Hid ((if bbxn then -((mxn : Nat) : Int) else ((mxn : Nat) : Int)) = ixn)) (HWxd : Hid (Wa w vxd kxd fxd)) (HFxd : Hid (∀ i, i < kxd → fxd i < 4294967296)) (HVxd : Hid (vl fxd kxd = mxd)) (HQx : Hid (mkRat ixn (mxd + 1) = a)) (hkxn : kxn ≤ 8) (hkxd : kxd ≤ 8) (HW : Hid (¬ ((a).den = 1))) (HT : Hid (Tab w)) :
    Calls Tryz.prog 11 #[.agg #[.bool bbxn, vxn, vxd], .int .i64 0] w fun e w' => e = .returned (.bool true) ∧ Below w.heap.size w w' := by
  obtain ⟨ao_xn, c_xn, rfl⟩ := HWxn.out.slice
  obtain ⟨ao_xd, c_xd, rfl⟩ := HWxd.out.slice
  have hm_xn : wl mxn ≤ 8 := by rw [← HVxn.out]; have := wl_le.2 (vl_lt HFxn.out); omega
  have hm_xd : wl mxd ≤ 8 := by rw [← HVxd.out]; have := wl_le.2 (vl_lt HFxd.out); omega
  have hi_x : wl (Int.natAbs ixn) ≤ 8 := by rw [zsize HAxn.out]; exact hm_xn
  have hs_x : sz a ≤ 9 := by rw [← HQx.out]; exact sz_great hi_x hm_xd
  have hr_x : rz a ≤ 27 := by rw [← HQx.out]; exact rz_great hi_x hm_xd (by decide)
  go_enter Tryz.func11, Tryz.ntmps11
  have HF := Lib.hid (hp0 w)
  refine kS fun K hK => ?_
  refine wp_region_lit ?_
  go_wp2
  refine hK.out _ _ ?_; clear hK K
  show Code.wp _ _ _ _ _
  refine fH ((HF.out).al (b := w.heap.size) (by first | rfl | simp) (by decide)) fun Wx0 HG => ?_
  clear HF; have HF := HG; clear HG
  refine wp_seq ?_
  have lx0 := HF.out.c 0 rfl
  refine kS fun K hK => ?_
  have HG0 : Hid (Gr Wx0 Wx0) := Lib.hid (Gr.refl _)
  refine sq 4 [(true, 0), (false, 1), (true, 2), (true, 3)] fun T hT => ?_
  refine tk ?_
  refine wpPlan_slice (cs := #[.bool (bbxn), (.slice ao_xn kxn c_xn), (.slice ao_xd kxd c_xd)]) (E := 88) (n := 1) rfl (by rfl) (fun w' hw => ?_) (fun gx2 vv2 hg0 yx2 bx2 => ?_)
  · go_simp
  clear yx2
  replace HG0 := Lib.hid (HG0.out.trans hg0)
  have HGS := Lib.hid hg0; clear hg0
  clear HGS
  have BX2 := Lib.hid bx2; clear bx2
  clear lx0; have lx0 := fun w' (h : Gr _ w') => HF.out.c 0 rfl w' (HG0.out.trans h)
  simp only [Act.put, lA, lB, lC]
  refine ck Tryz.call53 (fun w' hw => qfew1_ok _ _ _ _ _ _ _ 8 gx2 _ (BX2.out.gr hw) (by omega) (by omega)) ?_
  refine tk ?_
  refine wpPlan_nil (hT.out _ _ ?_)
  intro vw1 hg
  simp only [puts, Act.put, lA, lB, lC, lD, lE, ↓reduceIte, Nat.reduceEqDiff]
  have HG := Lib.hid (HF.out.gr (HG0.out.trans hg))
  clear hT T HF hg HG0 BX2 lx0
  go_wp2
  refine hK.out _ _ ?_; clear hK K
  show Code.wp _ _ _ _ _
  have HF := HG; clear HG
  refine wp_cond_false (by rfl) ?_
  refine wp_skip ?_
  show Code.wp _ _ _ _ _
  have HB := HPb HF
  have lx0 := HF.out.c 0 rfl
  refine kS fun K hK => ?_
  refine sq 2 [(true, 0), (true, 1)] fun T hT => ?_
  refine tk ?_
  refine ck Tryz.call54 (fun w' hw => gof_any bbxn kxn fxn mxn ixn kxd fxd mxd a ao_xn c_xn ao_xd c_xd w' (Lib.hid (HWxn.out.gr (Gr.trans HB.out hw))) HFxn HVxn HAxn (Lib.hid (HWxd.out.gr (Gr.trans HB.out hw))) HFxd HVxd HQx om om om om) ?_
  refine nlS hT HF fun vw2 HG => ?_
  clear hT T HF lx0 HB
  go_wp2
  refine hK.out _ _ ?_; clear hK K
  show Code.wp _ _ _ _ _
  refine fH (((HG.out).al (b := vw2.heap.size) (by first | rfl | simp) (by decide)).er 0) fun Wx3 HF => ?_
  clear HG
  generalize vw2.heap.size = gx3 at *
  have su1 : wl (Int.natAbs ((a).num)) ≤ 9 := Nat.le_trans (sz_num _) om
  have su2 : wl ((a).den) ≤ 9 := Nat.le_trans (sz_den _) om
  have sp2 : 0 < (a).den := (a).den_pos
  have lx3 := HF.out.c 0 rfl
  refine kS fun K hK => ?_
  refine wp_region_plan 6 [4, 5] [] (fun i => if i = 4 then 6 else 7) (fun i => if i = 4 then .cells #[.int .u64 0, .string ⟨#[]⟩, .bool false] 38 else .cells #[.int .u64 0, .string ⟨#[]⟩] 34) [(true, 0), (true, 2), (true, 1), (true, 3)] (by kernel_rfl) (by kernel_rfl) (by intro i hi; simp only [List.mem_cons, List.not_mem_nil, or_false] at hi; rcases hi with rfl | rfl <;> exact ⟨_, rfl, rfl, rfl, by simp, fun ρ w => by kernel_rfl⟩) (fun i hi => by cases hi) (fun _ _ _ _ _ h => h) (fun T hT => ?_)
  iterate 2 refine tk ?_
  refine ck Tryz.call90 (fun w' hw => fnum_any (a) _) ?_
  refine ck Tryz.call91 (fun w' hw => fDen_any (a) _ om) ?_
  refine wpPlan_nil (hT.out _ _ ?_)
  intro G vw3 hg hf
  simp only [puts, Act.put, lA, lB, lC, lD, lE, ↓reduceIte, Nat.reduceEqDiff]
  have HG := Lib.hid (HF.out.fr hg hf (zs := [(#[.int .u64 0, .string ⟨#[]⟩, .bool false], 38), (#[.int .u64 0, .string ⟨#[]⟩], 34)]) rfl (by decide) (by decide))
  simp only [List.zip_cons_cons, List.zip_nil_right, List.map_cons, List.map_nil, lF, lG] at HG
  clear hT T HF hg hf lx3
  generalize G 4 = gx4 at *
  generalize G 5 = gx5 at *
  have lx4 := HG.out.c 1 rfl; have fx4 := HG.out.f 1 rfl
  have lx5 := HG.out.c 2 rfl; have fx5 := HG.out.f 2 rfl
  have r0 := Gr.refl vw3
  obtain ⟨d4_5, d5_4⟩ := HG.out.ne 1 2 rfl rfl (by decide)
  go_wp2
  refine hK.out _ _ ?_; clear hK K
  show Code.wp _ _ _ _ _
  clear r0 lx4 fx4 lx5 fx5 d4_5 d5_4
  refine fH ((((HG.out).put2 1 0 rfl).put 1 2 _ rfl).put2 2 0 rfl) fun Wx4 HF => ?_
  clear HG
  have HZ3 : Hid (mkRat ((a).num) ((a).den) = a) := Lib.hid (by first | exact ok | exact Rat.mkRat_self _ | exact (a).reduced | exact HW.out)
  have su3 : sz (a) ≤ 9 := by have e := HZ3.out; first | omega | (rw [← e]; exact sz_mkRat (k := 9) om om (by decide))
  have lx4 := HF.out.c 1 rfl
  have lx5 := HF.out.c 2 rfl
  refine kS fun K hK => ?_
  refine sq 6 [(true, 0), (true, 1), (true, 2), (true, 3), (true, 4), (true, 5)] fun T hT => ?_
  iterate 2 refine tk ?_
  refine ck Tryz.call55 (fun w' hw => ffrom_ok ((a).num) ((a).den) (a) _ (Lib.hid HZ3.out) (by first | exact ok | exact Rat.mkRat_self _ | exact (a).reduced | exact HW.out) om om) ?_
  iterate 3 refine tk ?_
  refine nlS hT HF fun vw4 HG => ?_
  clear hT T HF lx4 lx5
  go_wp2
  refine hK.out _ _ ?_; clear hK K
  show Code.wp _ _ _ _ _
  refine fH ((HG.out).al (b := vw4.heap.size) (by first | rfl | simp) (by decide)) fun Wx5 HF => ?_
  clear HG
  generalize vw4.heap.size = gx6 at *
  refine wp_seq ?_
  have hd1 : decide ((a).den = 0) = false := decide_eq_false (by first | exact ok | exact Rat.mkRat_self _ | exact (a).reduced | exact HW.out)
  have HZ4 : Hid (Nat.gcd (Int.natAbs ((a).num)) ((a).den) = 1) := Lib.hid (by first | exact ok | exact Rat.mkRat_self _ | exact (a).reduced | exact HW.out)
  have su4 : wl (1) ≤ 9 := by have e := HZ4.out; first | omega | (rw [← e]; have := wl_gcd (Int.natAbs ((a).num)) ((a).den); omega) | exact wl_le.2 (by decide +kernel)
  have su_0_6 : wl 1 ≤ 1 := wl_le.2 (by decide +kernel)
  have su_1_6 : wl 1 ≤ 1 := wl_le.2 (by decide +kernel)
  have hd2 : decide ((a).den = 1) = false := decide_eq_false (by first | exact ok | exact Rat.mkRat_self _ | exact (a).reduced | exact HW.out)
  have lx3 := HF.out.c 0 rfl
  have lx4 := HF.out.c 1 rfl
  have lx5 := HF.out.c 2 rfl
  have lx6 := HF.out.c 3 rfl
  refine kS fun K hK => ?_
  refine pd 27 [(true, 0), (true, 1), (true, 2), (true, 3), (true, 4), (true, 6), (true, 5), (true, 7), (true, 8), (true, 9), (true, 10), (true, 11), (true, 12), (true, 13), (true, 14), (true, 15), (true, 16), (true, 17), (true, 18), (true, 19), (true, 20), (true, 21), (true, 23), (true, 22), (true, 24), (true, 25), (true, 26)] fun T hT => ?_
  iterate 6 refine tk ?_
  refine ck Tryz.call70 (fun w' hw => abs_any ((a).num) _) ?_
  refine ck Tryz.call92 (fun w' hw => nzgcd (Int.natAbs ((a).num)) ((a).den) (1) _ HZ4.out om om) ?_
  refine ck Tryz.call57 (fun w' hw => nzof 1 _ (by decide)) ?_
  iterate 14 refine tk ?_
  refine ck Tryz.call59 (fun w' hw => fiswhole_any (a) false _ (decide_eq_false (by first | exact ok | exact Rat.mkRat_self _ | exact (a).reduced | exact HW.out))) ?_
  refine ck Tryz.call57 (fun w' hw => nzof 1 _ (by decide)) ?_
  iterate 2 refine tk ?_
  refine nlD hT HF fun vw5 HG => ?_
  clear hT T HF lx3 lx4 lx5 lx6
  go_wp2
  refine hK.out _ _ ?_; clear hK K
  show Code.wp _ _ _ _ _
  refine fH ((HG.out).er 3) fun Wx6 HF => ?_
  clear HG
  clear hd1 hd2
  refine wp_cond_false (by rfl) ?_
  refine wp_skip ?_
  show Code.wp _ _ _ _ _
  refine wp_seq ?_
  refine kS fun K hK => ?_
  refine sq 2 [(true, 0), (true, 1)] fun T hT => ?_
  iterate 2 refine tk ?_
  refine nlS hT HF fun vw6 HG => ?_
  clear hT T HF
  go_wp2
  refine hK.out _ _ ?_; clear hK K
  show Code.wp _ _ _ _ _
  have HF := HG; clear HG
  refine wp_cond_true (by rfl) ?_
  have lx4 := HF.out.c 1 rfl
  refine kS fun K hK => ?_
  refine sq 6 [(true, 0), (true, 1), (true, 2), (true, 3), (true, 4), (true, 5)] fun T hT => ?_
  iterate 2 refine tk ?_
  refine ck Tryz.call55 (fun w' hw => ffrom_none ((a).num) (0) _ (by first | exact ok | exact Rat.mkRat_self _ | exact (a).reduced | exact HW.out)) ?_
  iterate 3 refine tk ?_
  refine nlS hT HF fun vw7 HG => ?_
  clear hT T HF lx4
  go_wp2
  refine hK.out _ _ ?_; clear hK K
  show Code.wp _ _ _ _ _
  refine fH (((HG.out).al (b := vw7.heap.size) (by first | rfl | simp) (by decide)).er 3) fun Wx9 HF => ?_
  clear HG
  generalize vw7.heap.size = gx7 at *
  have HB := HPb HF
  refine kS fun K hK => ?_
  refine sq 6 [(true, 0), (true, 1), (true, 2), (true, 3), (true, 4), (true, 5)] fun T hT => ?_
  iterate 3 refine tk ?_
  refine ck Tryz.call49 (fun w' hw => worksq_any _ (Lib.hid (HT.out.gr (Gr.trans HB.out hw)))) ?_
  iterate 2 refine tk ?_
  refine nlS hT HF fun vw8 HG => ?_
  clear hT T HF HB
  go_wp2
  refine hK.out _ _ ?_; clear hK K
  show Code.wp _ _ _ _ _
  have HF := HG; clear HG
  refine wp_ret ?_
  try simp only [Exit.then, Exit.inBlock]
  exact bodyPost_ret (v := .bool true) (by simp [results, Tryz.results11, go_sem]) rfl ⟨rfl, HF.out.1⟩

set_option maxRecDepth 100000 in
set_option maxHeartbeats 8000000 in
theorem lowq_nk (bbxn : Bool) (vxn : Value) (kxn : Nat) (fxn : Nat → Nat) (mxn : Nat) (ixn : Int) (vxd : Value) (kxd : Nat) (fxd : Nat → Nat) (mxd : Nat) (a : Rat) (k : Int) (w : World) (HWxn : Hid (Wa w vxn kxn fxn)) (HFxn : Hid (∀ i, i < kxn → fxn i < 4294967296)) (HVxn : Hid (vl fxn kxn = mxn)) (HAxn : Hid ((if bbxn then -((mxn : Nat) : Int) else ((mxn : Nat) : Int)) = ixn)) (HWxd : Hid (Wa w vxd kxd fxd)) (HFxd : Hid (∀ i, i < kxd → fxd i < 4294967296)) (HVxd : Hid (vl fxd kxd = mxd)) (HQx : Hid (mkRat ixn (mxd + 1) = a)) (hkxn : kxn ≤ 8) (hkxd : kxd ≤ 8) (h1 : -9223372036854775808 ≤ k) (h2 : k ≤ 9223372036854775807) (hk0 : k ≠ 0) (HW : Hid (¬ ((a).den = 1))) (HT : Hid (Tab w)) :
    Calls Tryz.prog 11 #[.agg #[.bool bbxn, vxn, vxd], .int .i64 (k)] w fun e w' => e = .returned (.bool true) ∧ Below w.heap.size w w' := by
  obtain ⟨ao_xn, c_xn, rfl⟩ := HWxn.out.slice
  obtain ⟨ao_xd, c_xd, rfl⟩ := HWxd.out.slice
  have hm_xn : wl mxn ≤ 8 := by rw [← HVxn.out]; have := wl_le.2 (vl_lt HFxn.out); omega
  have hm_xd : wl mxd ≤ 8 := by rw [← HVxd.out]; have := wl_le.2 (vl_lt HFxd.out); omega
  have hi_x : wl (Int.natAbs ixn) ≤ 8 := by rw [zsize HAxn.out]; exact hm_xn
  have hs_x : sz a ≤ 9 := by rw [← HQx.out]; exact sz_great hi_x hm_xd
  have hr_x : rz a ≤ 27 := by rw [← HQx.out]; exact rz_great hi_x hm_xd (by decide)
  go_enter Tryz.func11, Tryz.ntmps11
  have HF := Lib.hid (hp0 w)
  refine kS fun K hK => ?_
  refine wp_region_lit ?_
  go_wp2
  refine hK.out _ _ ?_; clear hK K
  show Code.wp _ _ _ _ _
  refine fH ((HF.out).al (b := w.heap.size) (by first | rfl | simp) (by decide)) fun Wx0 HG => ?_
  clear HF; have HF := HG; clear HG
  refine wp_seq ?_
  have lx0 := HF.out.c 0 rfl
  refine kS fun K hK => ?_
  have HG0 : Hid (Gr Wx0 Wx0) := Lib.hid (Gr.refl _)
  refine sq 4 [(true, 0), (false, 1), (true, 2), (true, 3)] fun T hT => ?_
  refine tk ?_
  refine wpPlan_slice (cs := #[.bool (bbxn), (.slice ao_xn kxn c_xn), (.slice ao_xd kxd c_xd)]) (E := 88) (n := 1) rfl (by rfl) (fun w' hw => ?_) (fun gx2 vv2 hg0 yx2 bx2 => ?_)
  · go_simp
  clear yx2
  replace HG0 := Lib.hid (HG0.out.trans hg0)
  have HGS := Lib.hid hg0; clear hg0
  clear HGS
  have BX2 := Lib.hid bx2; clear bx2
  clear lx0; have lx0 := fun w' (h : Gr _ w') => HF.out.c 0 rfl w' (HG0.out.trans h)
  simp only [Act.put, lA, lB, lC]
  refine ck Tryz.call53 (fun w' hw => qfew1_ok _ _ _ _ _ _ _ 8 gx2 _ (BX2.out.gr hw) (by omega) (by omega)) ?_
  refine tk ?_
  refine wpPlan_nil (hT.out _ _ ?_)
  intro vw1 hg
  simp only [puts, Act.put, lA, lB, lC, lD, lE, ↓reduceIte, Nat.reduceEqDiff]
  have HG := Lib.hid (HF.out.gr (HG0.out.trans hg))
  clear hT T HF hg HG0 BX2 lx0
  go_wp2
  refine hK.out _ _ ?_; clear hK K
  show Code.wp _ _ _ _ _
  have HF := HG; clear HG
  refine wp_cond_false (by rfl) ?_
  refine wp_skip ?_
  show Code.wp _ _ _ _ _
  have HB := HPb HF
  have lx0 := HF.out.c 0 rfl
  refine kS fun K hK => ?_
  refine sq 2 [(true, 0), (true, 1)] fun T hT => ?_
  refine tk ?_
  refine ck Tryz.call54 (fun w' hw => gof_any bbxn kxn fxn mxn ixn kxd fxd mxd a ao_xn c_xn ao_xd c_xd w' (Lib.hid (HWxn.out.gr (Gr.trans HB.out hw))) HFxn HVxn HAxn (Lib.hid (HWxd.out.gr (Gr.trans HB.out hw))) HFxd HVxd HQx om om om om) ?_
  refine nlS hT HF fun vw2 HG => ?_
  clear hT T HF lx0 HB
  go_wp2
  refine hK.out _ _ ?_; clear hK K
  show Code.wp _ _ _ _ _
  refine fH (((HG.out).al (b := vw2.heap.size) (by first | rfl | simp) (by decide)).er 0) fun Wx3 HF => ?_
  clear HG
  generalize vw2.heap.size = gx3 at *
  have su1 : wl (Int.natAbs ((a).num)) ≤ 9 := Nat.le_trans (sz_num _) om
  have su2 : wl ((a).den) ≤ 9 := Nat.le_trans (sz_den _) om
  have sp2 : 0 < (a).den := (a).den_pos
  have lx3 := HF.out.c 0 rfl
  refine kS fun K hK => ?_
  refine wp_region_plan 6 [4, 5] [] (fun i => if i = 4 then 6 else 7) (fun i => if i = 4 then .cells #[.int .u64 0, .string ⟨#[]⟩, .bool false] 38 else .cells #[.int .u64 0, .string ⟨#[]⟩] 34) [(true, 0), (true, 2), (true, 1), (true, 3)] (by kernel_rfl) (by kernel_rfl) (by intro i hi; simp only [List.mem_cons, List.not_mem_nil, or_false] at hi; rcases hi with rfl | rfl <;> exact ⟨_, rfl, rfl, rfl, by simp, fun ρ w => by kernel_rfl⟩) (fun i hi => by cases hi) (fun _ _ _ _ _ h => h) (fun T hT => ?_)
  iterate 2 refine tk ?_
  refine ck Tryz.call90 (fun w' hw => fnum_any (a) _) ?_
  refine ck Tryz.call91 (fun w' hw => fDen_any (a) _ om) ?_
  refine wpPlan_nil (hT.out _ _ ?_)
  intro G vw3 hg hf
  simp only [puts, Act.put, lA, lB, lC, lD, lE, ↓reduceIte, Nat.reduceEqDiff]
  have HG := Lib.hid (HF.out.fr hg hf (zs := [(#[.int .u64 0, .string ⟨#[]⟩, .bool false], 38), (#[.int .u64 0, .string ⟨#[]⟩], 34)]) rfl (by decide) (by decide))
  simp only [List.zip_cons_cons, List.zip_nil_right, List.map_cons, List.map_nil, lF, lG] at HG
  clear hT T HF hg hf lx3
  generalize G 4 = gx4 at *
  generalize G 5 = gx5 at *
  have lx4 := HG.out.c 1 rfl; have fx4 := HG.out.f 1 rfl
  have lx5 := HG.out.c 2 rfl; have fx5 := HG.out.f 2 rfl
  have r0 := Gr.refl vw3
  obtain ⟨d4_5, d5_4⟩ := HG.out.ne 1 2 rfl rfl (by decide)
  go_wp2
  refine hK.out _ _ ?_; clear hK K
  show Code.wp _ _ _ _ _
  clear r0 lx4 fx4 lx5 fx5 d4_5 d5_4
  refine fH ((((HG.out).put2 1 0 rfl).put 1 2 _ rfl).put2 2 0 rfl) fun Wx4 HF => ?_
  clear HG
  have HZ3 : Hid (mkRat ((a).num) ((a).den) = a) := Lib.hid (by first | exact ok | exact Rat.mkRat_self _ | exact (a).reduced | exact HW.out)
  have su3 : sz (a) ≤ 9 := by have e := HZ3.out; first | omega | (rw [← e]; exact sz_mkRat (k := 9) om om (by decide))
  have lx4 := HF.out.c 1 rfl
  have lx5 := HF.out.c 2 rfl
  refine kS fun K hK => ?_
  refine sq 6 [(true, 0), (true, 1), (true, 2), (true, 3), (true, 4), (true, 5)] fun T hT => ?_
  iterate 2 refine tk ?_
  refine ck Tryz.call55 (fun w' hw => ffrom_ok ((a).num) ((a).den) (a) _ (Lib.hid HZ3.out) (by first | exact ok | exact Rat.mkRat_self _ | exact (a).reduced | exact HW.out) om om) ?_
  iterate 3 refine tk ?_
  refine nlS hT HF fun vw4 HG => ?_
  clear hT T HF lx4 lx5
  go_wp2
  refine hK.out _ _ ?_; clear hK K
  show Code.wp _ _ _ _ _
  refine fH ((HG.out).al (b := vw4.heap.size) (by first | rfl | simp) (by decide)) fun Wx5 HF => ?_
  clear HG
  generalize vw4.heap.size = gx6 at *
  refine wp_seq ?_
  have hd1 : decide ((a).den = 0) = false := decide_eq_false (by first | exact ok | exact Rat.mkRat_self _ | exact (a).reduced | exact HW.out)
  have HZ4 : Hid (Nat.gcd (Int.natAbs ((a).num)) ((a).den) = 1) := Lib.hid (by first | exact ok | exact Rat.mkRat_self _ | exact (a).reduced | exact HW.out)
  have su4 : wl (1) ≤ 9 := by have e := HZ4.out; first | omega | (rw [← e]; have := wl_gcd (Int.natAbs ((a).num)) ((a).den); omega) | exact wl_le.2 (by decide +kernel)
  have su_0_6 : wl 1 ≤ 1 := wl_le.2 (by decide +kernel)
  have su_1_6 : wl 1 ≤ 1 := wl_le.2 (by decide +kernel)
  have hd2 : decide ((a).den = 1) = false := decide_eq_false (by first | exact ok | exact Rat.mkRat_self _ | exact (a).reduced | exact HW.out)
  have lx3 := HF.out.c 0 rfl
  have lx4 := HF.out.c 1 rfl
  have lx5 := HF.out.c 2 rfl
  have lx6 := HF.out.c 3 rfl
  refine kS fun K hK => ?_
  refine pd 27 [(true, 0), (true, 1), (true, 2), (true, 3), (true, 4), (true, 6), (true, 5), (true, 7), (true, 8), (true, 9), (true, 10), (true, 11), (true, 12), (true, 13), (true, 14), (true, 15), (true, 16), (true, 17), (true, 18), (true, 19), (true, 20), (true, 21), (true, 23), (true, 22), (true, 24), (true, 25), (true, 26)] fun T hT => ?_
  iterate 6 refine tk ?_
  refine ck Tryz.call70 (fun w' hw => abs_any ((a).num) _) ?_
  refine ck Tryz.call92 (fun w' hw => nzgcd (Int.natAbs ((a).num)) ((a).den) (1) _ HZ4.out om om) ?_
  refine ck Tryz.call57 (fun w' hw => nzof 1 _ (by decide)) ?_
  iterate 14 refine tk ?_
  refine ck Tryz.call59 (fun w' hw => fiswhole_any (a) false _ (decide_eq_false (by first | exact ok | exact Rat.mkRat_self _ | exact (a).reduced | exact HW.out))) ?_
  refine ck Tryz.call57 (fun w' hw => nzof 1 _ (by decide)) ?_
  iterate 2 refine tk ?_
  refine nlD hT HF fun vw5 HG => ?_
  clear hT T HF lx3 lx4 lx5 lx6
  go_wp2
  refine hK.out _ _ ?_; clear hK K
  show Code.wp _ _ _ _ _
  refine fH ((HG.out).er 3) fun Wx6 HF => ?_
  clear HG
  clear hd1 hd2
  refine wp_cond_false (by rfl) ?_
  refine wp_skip ?_
  show Code.wp _ _ _ _ _
  refine wp_seq ?_
  have hd3 : ((k) == (0)) = false := by have : ¬ (k = 0) := (by first | exact ok | exact Rat.mkRat_self _ | exact (a).reduced | exact HW.out); simpa using this
  refine kS fun K hK => ?_
  refine sq 2 [(true, 0), (true, 1)] fun T hT => ?_
  iterate 2 refine tk ?_
  refine nlS hT HF fun vw6 HG => ?_
  clear hT T HF
  go_wp2
  refine hK.out _ _ ?_; clear hK K
  show Code.wp _ _ _ _ _
  have HF := HG; clear HG
  clear hd3
  refine wp_cond_false (by rfl) ?_
  refine wp_skip ?_
  show Code.wp _ _ _ _ _
  have su5 : wl (Int.natAbs (k)) ≤ 2 := wl_i64 om om
  refine kS fun K hK => ?_
  refine sq 2 [(true, 0), (true, 1)] fun T hT => ?_
  refine tk ?_
  refine ck Tryz.call93 (fun w' hw => iof_any (k) _ om om) ?_
  refine nlS hT HF fun vw7 HG => ?_
  clear hT T HF
  go_wp2
  refine hK.out _ _ ?_; clear hK K
  show Code.wp _ _ _ _ _
  refine fH ((HG.out).al (b := vw7.heap.size) (by first | rfl | simp) (by decide)) fun Wx11 HF => ?_
  clear HG
  generalize vw7.heap.size = gx7 at *
  obtain ⟨u6, HZ6⟩ : ∃ z, Hid ((if false then -((Int.natAbs (k) : Nat) : Int) else ((Int.natAbs (k) : Nat) : Int)) = z) := ⟨_, Lib.hid rfl⟩
  have su6 : wl (Int.natAbs (u6)) ≤ 2 := by rw [← HZ6.out]; split <;> simp <;> omega
  obtain ⟨u7, HZ7⟩ : ∃ z, Hid (((a).num) * (u6) = z) := ⟨_, Lib.hid rfl⟩
  have su7 : wl (Int.natAbs (u7)) ≤ 11 := by rw [← HZ7.out]; have := wl_imul ((a).num) (u6); omega
  obtain ⟨u8, HZ8⟩ : ∃ z, Hid (((a).den) * (Int.natAbs (k)) = z) := ⟨_, Lib.hid rfl⟩
  have su8 : wl (u8) ≤ 11 := by rw [← HZ8.out]; have := wl_mul ((a).den) (Int.natAbs (k)); omega
  have HZ9 : Hid (mkRat (u7) (u8) = a) := Lib.hid (by simp only [← HZ8.out, ← HZ7.out, ← HZ6.out]; exact mk_scale a k hk0)
  have su9 : sz (a) ≤ 11 := by have e := HZ9.out; first | omega | (rw [← e]; exact sz_mkRat (k := 11) om om (by decide))
  have lx4 := HF.out.c 1 rfl
  have lx5 := HF.out.c 2 rfl
  have lx7 := HF.out.c 3 rfl
  refine kS fun K hK => ?_
  refine wp_region_plan 14 [13] [12] (fun _ => 13) (fun _ => .cells #[.int .u64 0, .string ⟨#[]⟩, .bool false, .int .u64 0, .string ⟨#[]⟩] 51) [(true, 0), (true, 1), (true, 5), (true, 6), (true, 2), (true, 3), (true, 4), (true, 7), (true, 8), (true, 9), (true, 10), (true, 11), (true, 12)] (by kernel_rfl) (by kernel_rfl) (by intro i hi; simp only [List.mem_cons, List.not_mem_nil, or_false] at hi; rcases hi with rfl <;> exact ⟨_, rfl, rfl, rfl, by simp, fun ρ w => by kernel_rfl⟩) (by intro i hi; simp only [List.mem_cons, List.not_mem_nil, or_false] at hi; rcases hi with rfl <;> exact ⟨_, rfl, pure_extract⟩) (fun _ _ _ _ _ h => h) (fun T hT => ?_)
  iterate 4 refine tk ?_
  refine ck Tryz.call70 (fun w' hw => abs_any (k) _) ?_
  refine ck Tryz.call95 (fun w' hw => from_any false (Int.natAbs (k)) (u6) _ HZ6.out) ?_
  refine ck Tryz.call94 (fun w' hw => zimul ((a).num) (u6) (u7) _ HZ7.out om om) ?_
  refine ck Tryz.call70 (fun w' hw => abs_any (k) _) ?_
  refine ck Tryz.call96 (fun w' hw => nzmul ((a).den) (Int.natAbs (k)) (u8) _ HZ8.out om om) ?_
  refine ck Tryz.call55 (fun w' hw => ffrom_ok (u7) (u8) (a) _ (Lib.hid HZ9.out) (by simp only [← HZ8.out, ← HZ7.out, ← HZ6.out]; exact Nat.mul_pos (a).den_pos (Int.natAbs_pos.2 hk0)) om om) ?_
  iterate 3 refine tk ?_
  refine wpPlan_nil (hT.out _ _ ?_)
  intro G vw8 hg hf
  simp only [puts, Act.put, lA, lB, lC, lD, lE, ↓reduceIte, Nat.reduceEqDiff]
  have HG := Lib.hid (HF.out.fr hg hf (zs := [(#[.int .u64 0, .string ⟨#[]⟩, .bool false, .int .u64 0, .string ⟨#[]⟩], 51)]) rfl (by decide) (by decide))
  simp only [List.zip_cons_cons, List.zip_nil_right, List.map_cons, List.map_nil, lF, lG] at HG
  clear hT T HF hg hf lx4 lx5 lx7
  generalize G 13 = gx8 at *
  have lx8 := HG.out.c 4 rfl; have fx8 := HG.out.f 4 rfl
  have r0 := Gr.refl vw8
  go_wp2
  refine hK.out _ _ ?_; clear hK K
  show Code.wp _ _ _ _ _
  clear r0 lx8 fx8
  refine fH (((((((HG.out).put2 4 0 rfl).put2 4 2 rfl).put 4 4 _ rfl).er 3).er 2).er 1) fun Wx12 HF => ?_
  clear HG
  have HB := HPb HF
  have lx3 := HF.out.c 0 rfl
  have lx8 := HF.out.c 1 rfl
  refine kS fun K hK => ?_
  refine sq 11 [(true, 0), (true, 1), (true, 2), (true, 3), (true, 4), (true, 5), (true, 6), (true, 7), (true, 8), (true, 9), (true, 10)] fun T hT => ?_
  iterate 8 refine tk ?_
  refine ck Tryz.call49 (fun w' hw => worksq_any _ (Lib.hid (HT.out.gr (Gr.trans HB.out hw)))) ?_
  iterate 2 refine tk ?_
  refine nlS hT HF fun vw9 HG => ?_
  clear hT T HF lx3 lx8 HB
  go_wp2
  refine hK.out _ _ ?_; clear hK K
  show Code.wp _ _ _ _ _
  refine fH (((HG.out).er 1).er 0) fun Wx13 HF => ?_
  clear HG
  refine wp_ret ?_
  try simp only [Exit.then, Exit.inBlock]
  exact bodyPost_ret (v := .bool true) (by simp [results, Tryz.results11, go_sem]) rfl ⟨rfl, HF.out.1⟩

set_option maxRecDepth 100000 in
set_option maxHeartbeats 8000000 in
theorem lowq_big1 (bbxn : Bool) (vxn : Value) (kxn : Nat) (fxn : Nat → Nat) (mxn : Nat) (ixn : Int) (vxd : Value) (kxd : Nat) (fxd : Nat → Nat) (mxd : Nat) (a : Rat) (k : Int) (w : World) (HWxn : Hid (Wa w vxn kxn fxn)) (HFxn : Hid (∀ i, i < kxn → fxn i < 4294967296)) (HVxn : Hid (vl fxn kxn = mxn)) (HAxn : Hid ((if bbxn then -((mxn : Nat) : Int) else ((mxn : Nat) : Int)) = ixn)) (HWxd : Hid (Wa w vxd kxd fxd)) (HFxd : Hid (∀ i, i < kxd → fxd i < 4294967296)) (HVxd : Hid (vl fxd kxd = mxd)) (HQx : Hid (mkRat ixn (mxd + 1) = a))  (hkxn : 8 < kxn) (HT : Hid (Tab w)) :
    Calls Tryz.prog 11 #[.agg #[.bool bbxn, vxn, vxd], .int .i64 (k)] w fun e w' => e = .returned (.bool true) ∧ Below w.heap.size w w' := by
  obtain ⟨ao_xn, c_xn, rfl⟩ := HWxn.out.slice
  obtain ⟨ao_xd, c_xd, rfl⟩ := HWxd.out.slice
  go_enter Tryz.func11, Tryz.ntmps11
  have HF := Lib.hid (hp0 w)
  refine kS fun K hK => ?_
  refine wp_region_lit ?_
  go_wp2
  refine hK.out _ _ ?_; clear hK K
  show Code.wp _ _ _ _ _
  refine fH ((HF.out).al (b := w.heap.size) (by first | rfl | simp) (by decide)) fun Wx0 HG => ?_
  clear HF; have HF := HG; clear HG
  refine wp_seq ?_
  have lx0 := HF.out.c 0 rfl
  refine kS fun K hK => ?_
  have HG0 : Hid (Gr Wx0 Wx0) := Lib.hid (Gr.refl _)
  refine sq 4 [(true, 0), (false, 1), (true, 2), (true, 3)] fun T hT => ?_
  refine tk ?_
  refine wpPlan_slice (cs := #[.bool (bbxn), (.slice ao_xn kxn c_xn), (.slice ao_xd kxd c_xd)]) (E := 88) (n := 1) rfl (by rfl) (fun w' hw => ?_) (fun gx2 vv2 hg0 yx2 bx2 => ?_)
  · go_simp
  clear yx2
  replace HG0 := Lib.hid (HG0.out.trans hg0)
  have HGS := Lib.hid hg0; clear hg0
  clear HGS
  have BX2 := Lib.hid bx2; clear bx2
  clear lx0; have lx0 := fun w' (h : Gr _ w') => HF.out.c 0 rfl w' (HG0.out.trans h)
  simp only [Act.put, lA, lB, lC]
  refine ck Tryz.call53 (fun w' hw => qfew1_no0 _ _ _ _ _ _ _ 8 gx2 _ (BX2.out.gr hw) (by omega)) ?_
  refine tk ?_
  refine wpPlan_nil (hT.out _ _ ?_)
  intro vw1 hg
  simp only [puts, Act.put, lA, lB, lC, lD, lE, ↓reduceIte, Nat.reduceEqDiff]
  have HG := Lib.hid (HF.out.gr (HG0.out.trans hg))
  clear hT T HF hg HG0 BX2 lx0
  go_wp2
  refine hK.out _ _ ?_; clear hK K
  show Code.wp _ _ _ _ _
  have HF := HG; clear HG
  refine wp_cond_true (by rfl) ?_
  have HB := HPb HF
  refine kS fun K hK => ?_
  refine sq 2 [(true, 0), (true, 1)] fun T hT => ?_
  refine ck Tryz.call49 (fun w' hw => worksq_any _ (Lib.hid (HT.out.gr (Gr.trans HB.out hw)))) ?_
  refine tk ?_
  refine nlS hT HF fun vw2 HG => ?_
  clear hT T HF HB
  go_wp2
  refine hK.out _ _ ?_; clear hK K
  show Code.wp _ _ _ _ _
  have HF := HG; clear HG
  refine wp_ret ?_
  try simp only [Exit.then, Exit.inBlock]
  exact bodyPost_ret (v := .bool true) (by simp [results, Tryz.results11, go_sem]) rfl ⟨rfl, HF.out.1⟩

set_option maxRecDepth 100000 in
set_option maxHeartbeats 8000000 in
theorem lowq_big2 (bbxn : Bool) (vxn : Value) (kxn : Nat) (fxn : Nat → Nat) (mxn : Nat) (ixn : Int) (vxd : Value) (kxd : Nat) (fxd : Nat → Nat) (mxd : Nat) (a : Rat) (k : Int) (w : World) (HWxn : Hid (Wa w vxn kxn fxn)) (HFxn : Hid (∀ i, i < kxn → fxn i < 4294967296)) (HVxn : Hid (vl fxn kxn = mxn)) (HAxn : Hid ((if bbxn then -((mxn : Nat) : Int) else ((mxn : Nat) : Int)) = ixn)) (HWxd : Hid (Wa w vxd kxd fxd)) (HFxd : Hid (∀ i, i < kxd → fxd i < 4294967296)) (HVxd : Hid (vl fxd kxd = mxd)) (HQx : Hid (mkRat ixn (mxd + 1) = a)) (hkxn : kxn ≤ 8) (hkxd : 8 < kxd) (HT : Hid (Tab w)) :
    Calls Tryz.prog 11 #[.agg #[.bool bbxn, vxn, vxd], .int .i64 (k)] w fun e w' => e = .returned (.bool true) ∧ Below w.heap.size w w' := by
  obtain ⟨ao_xn, c_xn, rfl⟩ := HWxn.out.slice
  obtain ⟨ao_xd, c_xd, rfl⟩ := HWxd.out.slice
  go_enter Tryz.func11, Tryz.ntmps11
  have HF := Lib.hid (hp0 w)
  refine kS fun K hK => ?_
  refine wp_region_lit ?_
  go_wp2
  refine hK.out _ _ ?_; clear hK K
  show Code.wp _ _ _ _ _
  refine fH ((HF.out).al (b := w.heap.size) (by first | rfl | simp) (by decide)) fun Wx0 HG => ?_
  clear HF; have HF := HG; clear HG
  refine wp_seq ?_
  have lx0 := HF.out.c 0 rfl
  refine kS fun K hK => ?_
  have HG0 : Hid (Gr Wx0 Wx0) := Lib.hid (Gr.refl _)
  refine sq 4 [(true, 0), (false, 1), (true, 2), (true, 3)] fun T hT => ?_
  refine tk ?_
  refine wpPlan_slice (cs := #[.bool (bbxn), (.slice ao_xn kxn c_xn), (.slice ao_xd kxd c_xd)]) (E := 88) (n := 1) rfl (by rfl) (fun w' hw => ?_) (fun gx2 vv2 hg0 yx2 bx2 => ?_)
  · go_simp
  clear yx2
  replace HG0 := Lib.hid (HG0.out.trans hg0)
  have HGS := Lib.hid hg0; clear hg0
  clear HGS
  have BX2 := Lib.hid bx2; clear bx2
  clear lx0; have lx0 := fun w' (h : Gr _ w') => HF.out.c 0 rfl w' (HG0.out.trans h)
  simp only [Act.put, lA, lB, lC]
  refine ck Tryz.call53 (fun w' hw => qfew1_no1 _ _ _ _ _ _ _ 8 gx2 _ (BX2.out.gr hw) (by omega) (by omega)) ?_
  refine tk ?_
  refine wpPlan_nil (hT.out _ _ ?_)
  intro vw1 hg
  simp only [puts, Act.put, lA, lB, lC, lD, lE, ↓reduceIte, Nat.reduceEqDiff]
  have HG := Lib.hid (HF.out.gr (HG0.out.trans hg))
  clear hT T HF hg HG0 BX2 lx0
  go_wp2
  refine hK.out _ _ ?_; clear hK K
  show Code.wp _ _ _ _ _
  have HF := HG; clear HG
  refine wp_cond_true (by rfl) ?_
  have HB := HPb HF
  refine kS fun K hK => ?_
  refine sq 2 [(true, 0), (true, 1)] fun T hT => ?_
  refine ck Tryz.call49 (fun w' hw => worksq_any _ (Lib.hid (HT.out.gr (Gr.trans HB.out hw)))) ?_
  refine tk ?_
  refine nlS hT HF fun vw2 HG => ?_
  clear hT T HF HB
  go_wp2
  refine hK.out _ _ ?_; clear hK K
  show Code.wp _ _ _ _ _
  have HF := HG; clear HG
  refine wp_ret ?_
  try simp only [Exit.then, Exit.inBlock]
  exact bodyPost_ret (v := .bool true) (by simp [results, Tryz.results11, go_sem]) rfl ⟨rfl, HF.out.1⟩

theorem lowq_law (bbxn : Bool) (vxn : Value) (kxn : Nat) (fxn : Nat → Nat) (vxd : Value) (kxd : Nat) (fxd : Nat → Nat) (k : Int) (w : World) (HWxn : Hid (Wa w vxn kxn fxn)) (HFxn : Hid (∀ i, i < kxn → fxn i < 4294967296)) (HWxd : Hid (Wa w vxd kxd fxd)) (HFxd : Hid (∀ i, i < kxd → fxd i < 4294967296)) (h1 : -9223372036854775808 ≤ k) (h2 : k ≤ 9223372036854775807) (HT : Hid (Tab w)) :
    Calls Tryz.prog 11 #[.agg #[.bool bbxn, vxn, vxd], .int .i64 k] w fun e w' => e = .returned (.bool true) ∧ Below w.heap.size w w' := by
  obtain ⟨ixn, HAxn⟩ : ∃ z, Hid ((if bbxn then -((vl fxn kxn : Nat) : Int) else ((vl fxn kxn : Nat) : Int)) = z) := ⟨_, Lib.hid rfl⟩
  obtain ⟨a, HQx⟩ : ∃ z, Hid (mkRat ixn (vl fxd kxd + 1) = z) := ⟨_, Lib.hid rfl⟩
  by_cases hkxn : kxn ≤ 8
  · skip
    by_cases hkxd : kxd ≤ 8
    · skip
      by_cases hk : k = 0
      · subst hk
        by_cases hw : a.den = 1
        · exact lowq_wz bbxn vxn kxn fxn _ ixn vxd kxd fxd _ a w HWxn HFxn (Lib.hid rfl) HAxn HWxd HFxd (Lib.hid rfl) HQx hkxn hkxd (Lib.hid hw) HT
        · exact lowq_nz bbxn vxn kxn fxn _ ixn vxd kxd fxd _ a w HWxn HFxn (Lib.hid rfl) HAxn HWxd HFxd (Lib.hid rfl) HQx hkxn hkxd (Lib.hid hw) HT
      · by_cases hw : a.den = 1
        · exact lowq_wk bbxn vxn kxn fxn _ ixn vxd kxd fxd _ a k w HWxn HFxn (Lib.hid rfl) HAxn HWxd HFxd (Lib.hid rfl) HQx hkxn hkxd h1 h2 hk (Lib.hid hw) HT
        · exact lowq_nk bbxn vxn kxn fxn _ ixn vxd kxd fxd _ a k w HWxn HFxn (Lib.hid rfl) HAxn HWxd HFxd (Lib.hid rfl) HQx hkxn hkxd h1 h2 hk (Lib.hid hw) HT
    · exact lowq_big2 bbxn vxn kxn fxn _ ixn vxd kxd fxd _ a k w HWxn HFxn (Lib.hid rfl) HAxn HWxd HFxd (Lib.hid rfl) HQx  hkxn (by omega) HT
  · exact lowq_big1 bbxn vxn kxn fxn _ ixn vxd kxd fxd _ a k w HWxn HFxn (Lib.hid rfl) HAxn HWxd HFxd (Lib.hid rfl) HQx   (by omega) HT

end Go.Proofs.YtpcfncbcpknobaaGreatDoor
