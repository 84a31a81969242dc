
/- FracsTexts: the law's walk. -/
import Derived.Test.YtpcfncbcpknobaaGreatDoorWorksQ
import Derived.Test.YtpcfncbcpknobaaGreatDoorQFew1
import Derived.Test.YtpcfncbcpknobaaGreatDoorFTextP
import Derived.Test.YtpcfncbcpknobaaGreatDoorFieldP
namespace Go.Proofs.YtpcfncbcpknobaaGreatDoor
open Go.RowKit
set_option linter.unusedSimpArgs false
set_option linter.unusedVariables false
attribute [local go_sem ↓] Go.wp_at_zero Go.wp_at_succ
attribute [local go_sem ↓] eq_nat eq_nat_zero eq_int eq_frac eq_frac_zero
attribute [local go_sem] Instr.field asAgg
set_option maxRecDepth 100000 in
set_option maxHeartbeats 8000000 in
theorem textq_main (bbxn : Bool) (vxn : Value) (kxn : Nat) (fxn : Nat → Nat) (mxn : Nat) (ixn : Int) (vxd : Value) (kxd : Nat) (fxd : Nat → Nat) (mxd : Nat) (a : Rat) (d : Nat) (s1 tn td t1 t2 t3 : ByteArray) (w : World) (HWxn : Hid (Wa w vxn kxn fxn)) (HFxn : Hid (∀ i, i < kxn → fxn i < 4294967296)) (HVxn : Hid (vl fxn kxn = mxn)) (HAxn : Hid ((if bbxn then -((mxn : Nat) : Int) else ((mxn : Nat) : Int)) = ixn)) (HWxd : Hid (Wa w vxd kxd fxd)) (HFxd : Hid (∀ i, i < kxd → fxd i < 4294967296)) (HVxd : Hid (vl fxd kxd = mxd)) (HQx : Hid (mkRat ixn (mxd + 1) = a)) (hkxn : kxn ≤ 10) (hkxd : kxd ≤ 10) (HD : Hid (mxd + 1 = d)) (HS1 : Hid (ftx a = s1)) (HN1 : Hid (fnum s1 = a)) (HC1 : Hid (fcode s1 = 0)) (HTN : Hid (itx ixn = tn)) (HTD : Hid ((⟨(Lib.decDigits d).toArray⟩ : ByteArray) = td)) (HT1 : Hid (tn ++ (⟨#[47]⟩ : ByteArray) = t1)) (HT2 : Hid (t1 ++ td = t2)) (HT3 : Hid (tn ++ (⟨#[47, 48]⟩ : ByteArray) = t3)) (HN2 : Hid (fnum t2 = a)) (HC2 : Hid (fcode t2 = 0)) (HN3 : Hid (fnum t3 = 0)) (HC3 : Hid (fcode t3 = 5)) (hz1 : s1.size ≤ 100000) (hz2 : tn.size ≤ 10000) (hz3 : td.size ≤ 10000) (hz4 : t1.size ≤ 20000) (hz5 : t2.size ≤ 40000) (hz6 : t3.size ≤ 40000) (HT : Hid (Tab w)) :
    Calls Tryz.prog 8 #[.agg #[.bool bbxn, vxn, vxd]] w fun e w' => e = .returned (.bool true) ∧ Below w.heap.size w w' := by
  obtain ⟨ao_xn, c_xn, rfl⟩ := HWxn.out.slice
  obtain ⟨ao_xd, c_xd, rfl⟩ := HWxd.out.slice
  have hm_xn : wl mxn ≤ 10 := by rw [← HVxn.out]; have := wl_le.2 (vl_lt HFxn.out); omega
  have hm_xd : wl mxd ≤ 10 := by rw [← HVxd.out]; have := wl_le.2 (vl_lt HFxd.out); omega
  have hi_x : wl (Int.natAbs ixn) ≤ 10 := by rw [zsize HAxn.out]; exact hm_xn
  have hs_x : sz a ≤ 11 := by rw [← HQx.out]; exact sz_great hi_x hm_xd
  have hr_x : rz a ≤ 33 := by rw [← HQx.out]; exact rz_great hi_x hm_xd (by decide)
  have hmi : wl (Int.natAbs (mxd : Int)) ≤ 10 := by rw [Int.natAbs_natCast]; exact hm_xd
  go_enter Tryz.func8, Tryz.ntmps8
  have HF := Lib.hid (hp0 w)
  refine kS fun K hK => ?_
  refine wp_region_lit ?_
  go_wp2
  refine hK.out _ _ ?_; clear hK K
  show Code.wp _ _ _ _ _
  refine fH ((HF.out).al (b := w.heap.size) (by first | rfl | simp) (by decide)) fun Wx0 HG => ?_
  clear HF; have HF := HG; clear HG
  refine wp_seq ?_
  have lx0 := HF.out.c 0 rfl
  refine kS fun K hK => ?_
  have HG0 : Hid (Gr Wx0 Wx0) := Lib.hid (Gr.refl _)
  refine sq 4 [(true, 0), (false, 1), (true, 2), (true, 3)] fun T hT => ?_
  refine tk ?_
  refine wpPlan_slice (cs := #[.bool (bbxn), (.slice ao_xn kxn c_xn), (.slice ao_xd kxd c_xd)]) (E := 88) (n := 1) rfl (by rfl) (fun w' hw => ?_) (fun gx2 vv2 hg0 yx2 bx2 => ?_)
  · go_simp
  clear yx2
  replace HG0 := Lib.hid (HG0.out.trans hg0)
  have HGS := Lib.hid hg0; clear hg0
  clear HGS
  have BX2 := Lib.hid bx2; clear bx2
  clear lx0; have lx0 := fun w' (h : Gr _ w') => HF.out.c 0 rfl w' (HG0.out.trans h)
  simp only [Act.put, lA, lB, lC]
  refine ck Tryz.call53 (fun w' hw => qfew1_ok _ _ _ _ _ _ _ 10 gx2 _ (BX2.out.gr hw) (by omega) (by omega)) ?_
  refine tk ?_
  refine wpPlan_nil (hT.out _ _ ?_)
  intro vw1 hg
  simp only [puts, Act.put, lA, lB, lC, lD, lE, ↓reduceIte, Nat.reduceEqDiff]
  have HG := Lib.hid (HF.out.gr (HG0.out.trans hg))
  clear hT T HF hg HG0 BX2 lx0
  go_wp2
  refine hK.out _ _ ?_; clear hK K
  show Code.wp _ _ _ _ _
  have HF := HG; clear HG
  refine wp_cond_false (by rfl) ?_
  refine wp_skip ?_
  show Code.wp _ _ _ _ _
  have HB := HPb HF
  have lx0 := HF.out.c 0 rfl
  refine kS fun K hK => ?_
  refine sq 2 [(true, 0), (true, 1)] fun T hT => ?_
  refine tk ?_
  refine ck Tryz.call54 (fun w' hw => gof_any bbxn kxn fxn mxn ixn kxd fxd mxd a ao_xn c_xn ao_xd c_xd w' (Lib.hid (HWxn.out.gr (Gr.trans HB.out hw))) HFxn HVxn HAxn (Lib.hid (HWxd.out.gr (Gr.trans HB.out hw))) HFxd HVxd HQx om om om om) ?_
  refine nlS hT HF fun vw2 HG => ?_
  clear hT T HF lx0 HB
  go_wp2
  refine hK.out _ _ ?_; clear hK K
  show Code.wp _ _ _ _ _
  refine fH ((HG.out).al (b := vw2.heap.size) (by first | rfl | simp) (by decide)) fun Wx3 HF => ?_
  clear HG
  generalize vw2.heap.size = gx3 at *
  have HB := HPb HF
  have lx3 := HF.out.c 1 rfl
  refine kS fun K hK => ?_
  refine sq 6 [(true, 0), (true, 1), (true, 2), (true, 3), (true, 4), (true, 5)] fun T hT => ?_
  refine tk ?_
  refine ck Tryz.call68 (fun w' hw => zftext (a) s1 _ HS1.out om (Lib.hid (HT.out.gr (Gr.trans HB.out hw)))) ?_
  refine ck Tryz.call50 (fun w' hw => zfparse s1 (a) (0) _ HN1.out HC1.out (by omega)) ?_
  iterate 3 refine tk ?_
  refine nlS hT HF fun vw3 HG => ?_
  clear hT T HF lx3 HB
  go_wp2
  refine hK.out _ _ ?_; clear hK K
  show Code.wp _ _ _ _ _
  refine fH ((HG.out).al (b := vw3.heap.size) (by first | rfl | simp) (by decide)) fun Wx4 HF => ?_
  clear HG
  generalize vw3.heap.size = gx4 at *
  have HB := HPb HF
  have su_0_5 : wl 1 ≤ 1 := wl_le.2 (by decide +kernel)
  have HZ1 : Hid ((Int.natAbs ((mxd : Int))) + (1) = d) := Lib.hid (by rw [← HD.out]; rfl)
  have su1 : wl (d) ≤ 11 := by have e := HZ1.out; first | omega | (rw [← e]; have := wl_add (Int.natAbs ((mxd : Int))) (1); omega)
  have lx0 := HF.out.c 0 rfl
  refine kS fun K hK => ?_
  refine wp_region_plan 11 [9, 10] [] (fun i => if i = 9 then 6 else 7) (fun i => if i = 9 then .cells #[.int .u64 0, .string ⟨#[]⟩, .bool false] 38 else .cells #[.int .u64 0, .string ⟨#[]⟩] 34) [(true, 0), (true, 1), (true, 3), (true, 2), (true, 4), (true, 5), (true, 6), (true, 7), (true, 8)] (by kernel_rfl) (by kernel_rfl) (by intro i hi; simp only [List.mem_cons, List.not_mem_nil, or_false] at hi; rcases hi with rfl | rfl <;> exact ⟨_, rfl, rfl, rfl, by simp, fun ρ w => by kernel_rfl⟩) (fun i hi => by cases hi) (fun _ _ _ _ _ h => h) (fun T hT => ?_)
  iterate 3 refine tk ?_
  refine ck Tryz.call19 (fun w' hw => zlof bbxn kxn fxn mxn ixn ao_xn c_xn w' (Lib.hid (HWxn.out.gr (Gr.trans HB.out hw))) HFxn HVxn HAxn om om) ?_
  refine ck Tryz.call71 (fun w' hw => gden_any (bbxn) (.slice ao_xn kxn c_xn) (.slice ao_xd kxd c_xd) _) ?_
  refine ck Tryz.call19 (fun w' hw => zlof false kxd fxd mxd (mxd : Int) ao_xd c_xd w' (Lib.hid (HWxd.out.gr (Gr.trans HB.out hw))) HFxd HVxd (Lib.hid rfl) om om) ?_
  refine ck Tryz.call70 (fun w' hw => abs_any ((mxd : Int)) _) ?_
  refine ck Tryz.call57 (fun w' hw => nzof 1 _ (by decide)) ?_
  refine ck Tryz.call69 (fun w' hw => nzadd (Int.natAbs ((mxd : Int))) (1) (d) _ HZ1.out om om) ?_
  refine wpPlan_nil (hT.out _ _ ?_)
  intro G vw4 hg hf
  simp only [puts, Act.put, lA, lB, lC, lD, lE, ↓reduceIte, Nat.reduceEqDiff]
  have HG := Lib.hid (HF.out.fr hg hf (zs := [(#[.int .u64 0, .string ⟨#[]⟩, .bool false], 38), (#[.int .u64 0, .string ⟨#[]⟩], 34)]) rfl (by decide) (by decide))
  simp only [List.zip_cons_cons, List.zip_nil_right, List.map_cons, List.map_nil, lF, lG] at HG
  clear hT T HF hg hf lx0 HB
  generalize G 9 = gx5 at *
  generalize G 10 = gx6 at *
  have lx5 := HG.out.c 3 rfl; have fx5 := HG.out.f 3 rfl
  have lx6 := HG.out.c 4 rfl; have fx6 := HG.out.f 4 rfl
  have r0 := Gr.refl vw4
  obtain ⟨d5_6, d6_5⟩ := HG.out.ne 3 4 rfl rfl (by decide)
  go_wp2
  refine hK.out _ _ ?_; clear hK K
  show Code.wp _ _ _ _ _
  clear r0 lx5 fx5 lx6 fx6 d5_6 d6_5
  refine fH (((((HG.out).put2 3 0 rfl).put 3 2 _ rfl).put2 4 0 rfl).er 0) fun Wx5 HF => ?_
  clear HG
  have HB := HPb HF
  have hlen1 : ¬ (9223372036854775807 < tn.size + 1) := by omega
  have hcat1 : tn ++ (⟨#[47]⟩ : ByteArray) = t1 := HT1.out
  have hlen2 : ¬ (9223372036854775807 < t1.size + td.size) := by omega
  have hcat2 : t1 ++ td = t2 := HT2.out
  have lx5 := HF.out.c 2 rfl
  have lx6 := HF.out.c 3 rfl
  refine kS fun K hK => ?_
  refine wp_region_plan 11 [10] [9] (fun _ => 8) (fun _ => .cells #[.int .u64 0, .string ⟨#[]⟩, .bool false, .int .u64 0, .string ⟨#[]⟩] 51) [(true, 0), (true, 3), (true, 1), (true, 2), (true, 4), (true, 5), (true, 6), (true, 7), (true, 8), (true, 9)] (by kernel_rfl) (by kernel_rfl) (by intro i hi; simp only [List.mem_cons, List.not_mem_nil, or_false] at hi; rcases hi with rfl <;> exact ⟨_, rfl, rfl, rfl, by simp, fun ρ w => by kernel_rfl⟩) (by intro i hi; simp only [List.mem_cons, List.not_mem_nil, or_false] at hi; rcases hi with rfl <;> exact ⟨_, rfl, pure_extract⟩) (fun _ _ _ _ _ h => h) (fun T hT => ?_)
  iterate 2 refine tk ?_
  refine ck Tryz.call72 (fun w' hw => zitext (ixn) tn _ HTN.out om (Lib.hid (HT.out.gr (Gr.trans HB.out hw)))) ?_
  refine tk ?_
  refine ck Tryz.call73 (fun w' hw => nztexts (d) td _ HTD.out om (Lib.hid (HT.out.gr (Gr.trans HB.out hw)))) ?_
  refine tk ?_
  refine ck Tryz.call50 (fun w' hw => zfparse t2 (a) (0) _ HN2.out HC2.out (by omega)) ?_
  iterate 3 refine tk ?_
  refine wpPlan_nil (hT.out _ _ ?_)
  intro G vw5 hg hf
  simp only [puts, Act.put, lA, lB, lC, lD, lE, ↓reduceIte, Nat.reduceEqDiff]
  have HG := Lib.hid (HF.out.fr hg hf (zs := [(#[.int .u64 0, .string ⟨#[]⟩, .bool false, .int .u64 0, .string ⟨#[]⟩], 51)]) rfl (by decide) (by decide))
  simp only [List.zip_cons_cons, List.zip_nil_right, List.map_cons, List.map_nil, lF, lG] at HG
  clear hT T HF hg hf lx5 lx6 HB
  generalize G 10 = gx7 at *
  have lx7 := HG.out.c 4 rfl; have fx7 := HG.out.f 4 rfl
  have r0 := Gr.refl vw5
  go_wp2
  refine hK.out _ _ ?_; clear hK K
  show Code.wp _ _ _ _ _
  clear r0 lx7 fx7
  refine fH (((((HG.out).put2 4 0 rfl).put2 4 2 rfl).put 4 4 _ rfl).er 3) fun Wx6 HF => ?_
  clear HG
  clear hlen1 hcat1 hlen2 hcat2
  have HB := HPb HF
  have hlen3 : ¬ (9223372036854775807 < tn.size + 2) := by omega
  have hcat3 : tn ++ (⟨#[47, 48]⟩ : ByteArray) = t3 := HT3.out
  have lx5 := HF.out.c 2 rfl
  refine kS fun K hK => ?_
  refine sq 7 [(true, 0), (true, 1), (true, 2), (true, 3), (true, 4), (true, 5), (true, 6)] fun T hT => ?_
  refine tk ?_
  refine ck Tryz.call72 (fun w' hw => zitext (ixn) tn _ HTN.out om (Lib.hid (HT.out.gr (Gr.trans HB.out hw)))) ?_
  refine tk ?_
  refine ck Tryz.call50 (fun w' hw => zfparse t3 (0 : Rat) (5) _ HN3.out HC3.out (by omega)) ?_
  iterate 3 refine tk ?_
  refine nlS hT HF fun vw6 HG => ?_
  clear hT T HF lx5 HB
  go_wp2
  refine hK.out _ _ ?_; clear hK K
  show Code.wp _ _ _ _ _
  refine fH ((((HG.out).al (b := vw6.heap.size) (by first | rfl | simp) (by decide)).er 4).er 2) fun Wx7 HF => ?_
  clear HG
  generalize vw6.heap.size = gx8 at *
  clear hlen3 hcat3
  have HB := HPb HF
  have lx3 := HF.out.c 0 rfl
  have lx4 := HF.out.c 1 rfl
  have lx7 := HF.out.c 2 rfl
  refine kS fun K hK => ?_
  refine sq 24 [(true, 0), (true, 1), (true, 2), (true, 3), (true, 4), (true, 5), (true, 6), (true, 7), (true, 8), (true, 9), (true, 10), (true, 11), (true, 12), (true, 13), (true, 14), (true, 15), (true, 16), (true, 17), (true, 18), (true, 19), (true, 20), (true, 21), (true, 22), (true, 23)] fun T hT => ?_
  iterate 21 refine tk ?_
  refine ck Tryz.call49 (fun w' hw => worksq_any _ (Lib.hid (HT.out.gr (Gr.trans HB.out hw)))) ?_
  iterate 2 refine tk ?_
  refine nlS hT HF fun vw7 HG => ?_
  clear hT T HF lx3 lx4 lx7 HB
  go_wp2
  refine hK.out _ _ ?_; clear hK K
  show Code.wp _ _ _ _ _
  refine fH ((((HG.out).er 2).er 1).er 0) fun Wx8 HF => ?_
  clear HG
  refine wp_ret ?_
  try simp only [Exit.then, Exit.inBlock]
  exact bodyPost_ret (v := .bool true) (by simp [results, Tryz.results8, go_sem]) rfl ⟨rfl, HF.out.1⟩

set_option maxRecDepth 100000 in
set_option maxHeartbeats 8000000 in
theorem textq_big1 (bbxn : Bool) (vxn : Value) (kxn : Nat) (fxn : Nat → Nat) (mxn : Nat) (ixn : Int) (vxd : Value) (kxd : Nat) (fxd : Nat → Nat) (mxd : Nat) (a : Rat)  (w : World) (HWxn : Hid (Wa w vxn kxn fxn)) (HFxn : Hid (∀ i, i < kxn → fxn i < 4294967296)) (HVxn : Hid (vl fxn kxn = mxn)) (HAxn : Hid ((if bbxn then -((mxn : Nat) : Int) else ((mxn : Nat) : Int)) = ixn)) (HWxd : Hid (Wa w vxd kxd fxd)) (HFxd : Hid (∀ i, i < kxd → fxd i < 4294967296)) (HVxd : Hid (vl fxd kxd = mxd)) (HQx : Hid (mkRat ixn (mxd + 1) = a))  (hkxn : 10 < kxn) (HT : Hid (Tab w)) :
    Calls Tryz.prog 8 #[.agg #[.bool bbxn, vxn, vxd]] w fun e w' => e = .returned (.bool true) ∧ Below w.heap.size w w' := by
  obtain ⟨ao_xn, c_xn, rfl⟩ := HWxn.out.slice
  obtain ⟨ao_xd, c_xd, rfl⟩ := HWxd.out.slice
  go_enter Tryz.func8, Tryz.ntmps8
  have HF := Lib.hid (hp0 w)
  refine kS fun K hK => ?_
  refine wp_region_lit ?_
  go_wp2
  refine hK.out _ _ ?_; clear hK K
  show Code.wp _ _ _ _ _
  refine fH ((HF.out).al (b := w.heap.size) (by first | rfl | simp) (by decide)) fun Wx0 HG => ?_
  clear HF; have HF := HG; clear HG
  refine wp_seq ?_
  have lx0 := HF.out.c 0 rfl
  refine kS fun K hK => ?_
  have HG0 : Hid (Gr Wx0 Wx0) := Lib.hid (Gr.refl _)
  refine sq 4 [(true, 0), (false, 1), (true, 2), (true, 3)] fun T hT => ?_
  refine tk ?_
  refine wpPlan_slice (cs := #[.bool (bbxn), (.slice ao_xn kxn c_xn), (.slice ao_xd kxd c_xd)]) (E := 88) (n := 1) rfl (by rfl) (fun w' hw => ?_) (fun gx2 vv2 hg0 yx2 bx2 => ?_)
  · go_simp
  clear yx2
  replace HG0 := Lib.hid (HG0.out.trans hg0)
  have HGS := Lib.hid hg0; clear hg0
  clear HGS
  have BX2 := Lib.hid bx2; clear bx2
  clear lx0; have lx0 := fun w' (h : Gr _ w') => HF.out.c 0 rfl w' (HG0.out.trans h)
  simp only [Act.put, lA, lB, lC]
  refine ck Tryz.call53 (fun w' hw => qfew1_no0 _ _ _ _ _ _ _ 10 gx2 _ (BX2.out.gr hw) (by omega)) ?_
  refine tk ?_
  refine wpPlan_nil (hT.out _ _ ?_)
  intro vw1 hg
  simp only [puts, Act.put, lA, lB, lC, lD, lE, ↓reduceIte, Nat.reduceEqDiff]
  have HG := Lib.hid (HF.out.gr (HG0.out.trans hg))
  clear hT T HF hg HG0 BX2 lx0
  go_wp2
  refine hK.out _ _ ?_; clear hK K
  show Code.wp _ _ _ _ _
  have HF := HG; clear HG
  refine wp_cond_true (by rfl) ?_
  have HB := HPb HF
  refine kS fun K hK => ?_
  refine sq 2 [(true, 0), (true, 1)] fun T hT => ?_
  refine ck Tryz.call49 (fun w' hw => worksq_any _ (Lib.hid (HT.out.gr (Gr.trans HB.out hw)))) ?_
  refine tk ?_
  refine nlS hT HF fun vw2 HG => ?_
  clear hT T HF HB
  go_wp2
  refine hK.out _ _ ?_; clear hK K
  show Code.wp _ _ _ _ _
  have HF := HG; clear HG
  refine wp_ret ?_
  try simp only [Exit.then, Exit.inBlock]
  exact bodyPost_ret (v := .bool true) (by simp [results, Tryz.results8, go_sem]) rfl ⟨rfl, HF.out.1⟩

set_option maxRecDepth 100000 in
set_option maxHeartbeats 8000000 in
theorem textq_big2 (bbxn : Bool) (vxn : Value) (kxn : Nat) (fxn : Nat → Nat) (mxn : Nat) (ixn : Int) (vxd : Value) (kxd : Nat) (fxd : Nat → Nat) (mxd : Nat) (a : Rat)  (w : World) (HWxn : Hid (Wa w vxn kxn fxn)) (HFxn : Hid (∀ i, i < kxn → fxn i < 4294967296)) (HVxn : Hid (vl fxn kxn = mxn)) (HAxn : Hid ((if bbxn then -((mxn : Nat) : Int) else ((mxn : Nat) : Int)) = ixn)) (HWxd : Hid (Wa w vxd kxd fxd)) (HFxd : Hid (∀ i, i < kxd → fxd i < 4294967296)) (HVxd : Hid (vl fxd kxd = mxd)) (HQx : Hid (mkRat ixn (mxd + 1) = a)) (hkxn : kxn ≤ 10) (hkxd : 10 < kxd) (HT : Hid (Tab w)) :
    Calls Tryz.prog 8 #[.agg #[.bool bbxn, vxn, vxd]] w fun e w' => e = .returned (.bool true) ∧ Below w.heap.size w w' := by
  obtain ⟨ao_xn, c_xn, rfl⟩ := HWxn.out.slice
  obtain ⟨ao_xd, c_xd, rfl⟩ := HWxd.out.slice
  go_enter Tryz.func8, Tryz.ntmps8
  have HF := Lib.hid (hp0 w)
  refine kS fun K hK => ?_
  refine wp_region_lit ?_
  go_wp2
  refine hK.out _ _ ?_; clear hK K
  show Code.wp _ _ _ _ _
  refine fH ((HF.out).al (b := w.heap.size) (by first | rfl | simp) (by decide)) fun Wx0 HG => ?_
  clear HF; have HF := HG; clear HG
  refine wp_seq ?_
  have lx0 := HF.out.c 0 rfl
  refine kS fun K hK => ?_
  have HG0 : Hid (Gr Wx0 Wx0) := Lib.hid (Gr.refl _)
  refine sq 4 [(true, 0), (false, 1), (true, 2), (true, 3)] fun T hT => ?_
  refine tk ?_
  refine wpPlan_slice (cs := #[.bool (bbxn), (.slice ao_xn kxn c_xn), (.slice ao_xd kxd c_xd)]) (E := 88) (n := 1) rfl (by rfl) (fun w' hw => ?_) (fun gx2 vv2 hg0 yx2 bx2 => ?_)
  · go_simp
  clear yx2
  replace HG0 := Lib.hid (HG0.out.trans hg0)
  have HGS := Lib.hid hg0; clear hg0
  clear HGS
  have BX2 := Lib.hid bx2; clear bx2
  clear lx0; have lx0 := fun w' (h : Gr _ w') => HF.out.c 0 rfl w' (HG0.out.trans h)
  simp only [Act.put, lA, lB, lC]
  refine ck Tryz.call53 (fun w' hw => qfew1_no1 _ _ _ _ _ _ _ 10 gx2 _ (BX2.out.gr hw) (by omega) (by omega)) ?_
  refine tk ?_
  refine wpPlan_nil (hT.out _ _ ?_)
  intro vw1 hg
  simp only [puts, Act.put, lA, lB, lC, lD, lE, ↓reduceIte, Nat.reduceEqDiff]
  have HG := Lib.hid (HF.out.gr (HG0.out.trans hg))
  clear hT T HF hg HG0 BX2 lx0
  go_wp2
  refine hK.out _ _ ?_; clear hK K
  show Code.wp _ _ _ _ _
  have HF := HG; clear HG
  refine wp_cond_true (by rfl) ?_
  have HB := HPb HF
  refine kS fun K hK => ?_
  refine sq 2 [(true, 0), (true, 1)] fun T hT => ?_
  refine ck Tryz.call49 (fun w' hw => worksq_any _ (Lib.hid (HT.out.gr (Gr.trans HB.out hw)))) ?_
  refine tk ?_
  refine nlS hT HF fun vw2 HG => ?_
  clear hT T HF HB
  go_wp2
  refine hK.out _ _ ?_; clear hK K
  show Code.wp _ _ _ _ _
  have HF := HG; clear HG
  refine wp_ret ?_
  try simp only [Exit.then, Exit.inBlock]
  exact bodyPost_ret (v := .bool true) (by simp [results, Tryz.results8, go_sem]) rfl ⟨rfl, HF.out.1⟩

theorem textq_law (bbxn : Bool) (vxn : Value) (kxn : Nat) (fxn : Nat → Nat) (vxd : Value) (kxd : Nat) (fxd : Nat → Nat)  (w : World) (HWxn : Hid (Wa w vxn kxn fxn)) (HFxn : Hid (∀ i, i < kxn → fxn i < 4294967296)) (HWxd : Hid (Wa w vxd kxd fxd)) (HFxd : Hid (∀ i, i < kxd → fxd i < 4294967296))  (HT : Hid (Tab w)) :
    Calls Tryz.prog 8 #[.agg #[.bool bbxn, vxn, vxd]] w fun e w' => e = .returned (.bool true) ∧ Below w.heap.size w w' := by
  obtain ⟨ixn, HAxn⟩ : ∃ z, Hid ((if bbxn then -((vl fxn kxn : Nat) : Int) else ((vl fxn kxn : Nat) : Int)) = z) := ⟨_, Lib.hid rfl⟩
  obtain ⟨a, HQx⟩ : ∃ z, Hid (mkRat ixn (vl fxd kxd + 1) = z) := ⟨_, Lib.hid rfl⟩
  by_cases hkxn : kxn ≤ 10
  · skip
    by_cases hkxd : kxd ≤ 10
    · skip
      have hm1 : wl (vl fxn kxn) ≤ 10 := by have := wl_le.2 (vl_lt HFxn.out); omega
      have hm2 : wl (vl fxd kxd) ≤ 10 := by have := wl_le.2 (vl_lt HFxd.out); omega
      have hi : wl ixn.natAbs ≤ 10 := by rw [zsize HAxn.out]; exact hm1
      have hs : sz a ≤ 11 := by rw [← HQx.out]; exact sz_great hi hm2
      have hd : wl (vl fxd kxd + 1) ≤ 11 := by have := wl_add (vl fxd kxd) 1; have : wl 1 ≤ 1 := wl_small (by decide); omega
      have d1 := dg_small (Nat.le_trans (sz_num a) hs)
      have d2 := dg_small (Nat.le_trans (sz_den a) hs)
      have d3 := dg_small hi
      have d4 := dg_small hd
      obtain ⟨c1, n1⟩ := read_ftx a (by omega) (by omega)
      obtain ⟨c2, n2⟩ := read_ratio ixn (vl fxd kxd + 1) (by omega) (by omega)
      rw [if_neg (by omega)] at c2
      obtain ⟨c3, n3⟩ := read_zero ixn (by omega)
      have z1 := ftx_sm hs
      have z2 := itx_sm hi
      have z3 : (⟨(Lib.decDigits (vl fxd kxd + 1)).toArray⟩ : ByteArray).size ≤ 400 := by rw [size_mk, Lib.decDigits_length]; omega
      have o1 : (⟨#[47]⟩ : ByteArray).size = 1 := rfl
      have o2 : (⟨#[47, 48]⟩ : ByteArray).size = 2 := rfl
      exact textq_main bbxn vxn kxn fxn _ ixn vxd kxd fxd _ a _ _ _ _ _ _ _ w HWxn HFxn (Lib.hid rfl) HAxn HWxd HFxd (Lib.hid rfl) HQx hkxn hkxd (Lib.hid rfl) (Lib.hid rfl) (Lib.hid n1) (Lib.hid c1) (Lib.hid rfl) (Lib.hid rfl) (Lib.hid rfl) (Lib.hid rfl) (Lib.hid rfl) (Lib.hid (n2.trans HQx.out)) (Lib.hid c2) (Lib.hid n3) (Lib.hid c3) (by omega) (by omega) (by omega) (by rw [cat_size]; omega) (by rw [cat_size, cat_size]; omega) (by rw [cat_size]; omega) HT
    · exact textq_big2 bbxn vxn kxn fxn _ ixn vxd kxd fxd _ a  w HWxn HFxn (Lib.hid rfl) HAxn HWxd HFxd (Lib.hid rfl) HQx  hkxn (by omega) HT
  · exact textq_big1 bbxn vxn kxn fxn _ ixn vxd kxd fxd _ a  w HWxn HFxn (Lib.hid rfl) HAxn HWxd HFxd (Lib.hid rfl) HQx   (by omega) HT

end Go.Proofs.YtpcfncbcpknobaaGreatDoor
