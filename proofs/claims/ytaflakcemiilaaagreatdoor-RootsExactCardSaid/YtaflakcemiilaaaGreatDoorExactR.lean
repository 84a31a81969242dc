
/- RootsExact: the law's walk. -/
import Derived.Test.YtaflakcemiilaaaGreatDoorRot6
import Derived.Test.YtaflakcemiilaaaGreatDoorFieldP
import Derived.Test.YtaflakcemiilaaaGreatDoorSgnR
namespace Go.Proofs.YtaflakcemiilaaaGreatDoor
open Go.RowKit
set_option linter.unusedSimpArgs false
set_option linter.unusedVariables false
attribute [local go_sem ↓] Go.wp_at_zero Go.wp_at_succ
attribute [local go_sem ↓] eq_nat eq_nat_zero eq_int eq_frac eq_frac_zero
attribute [local go_sem] Instr.field asAgg
theorem exq_mul {s a : Rat} (h : 0 ≤ s) : exq (s * s * (a * a)) = s * qabs a := by
  have e : s * s * (a * a) = s * a * (s * a) := by grind
  rw [e, exq_sq]
  unfold qabs
  rcases (show 0 ≤ a ∨ a < 0 by grind) with h2 | h2
  · have h3 := Rat.mul_nonneg h h2
    rw [if_neg (by grind), if_neg (by grind)]
  · have h3 := Rat.mul_nonneg h (show 0 ≤ -a by grind)
    rw [if_pos h2]
    by_cases h4 : s * a < 0
    · rw [if_pos h4]; grind
    · rw [if_neg h4]
      have : s * a = 0 := by grind
      grind
theorem exq_mulsq {s a : Rat} : s * qabs a * (s * qabs a) = s * s * (a * a) := by
  have := qabs_sq a
  generalize qabs a = q at *
  grind
theorem exq_not {a b : Rat} (ha : a ≠ 0) (h : ¬ exq b * exq b = b) : ¬ exq (b * (a * a)) * exq (b * (a * a)) = b * (a * a) := fun e => by
  apply h
  refine exq_of (s := exq (b * (a * a)) / a) ?_
  have h1 : a * a ≠ 0 := fun e => ha (by
    rcases (show a < 0 ∨ a = 0 ∨ 0 < a by grind) with c | c | c
    · have := Rat.mul_pos (show 0 < -a by grind) (show 0 < -a by grind); grind
    · exact c
    · have := Rat.mul_pos c c; grind)
  have h2 : exq (b * (a * a)) / a * (exq (b * (a * a)) / a) = exq (b * (a * a)) * exq (b * (a * a)) / (a * a) := by
    rw [Rat.div_def, Rat.div_def, Rat.inv_mul_rev]
    grind
  rw [h2, e]
  exact (Rat.mul_div_cancel h1).symm
theorem rlo_abs (a : Rat) (k : Nat) : rlo (a * a) k ≤ qabs a := sq_le (rlo_nn _ _) (qabs_nn a) (by rw [qabs_sq]; exact rlo_le (sq_nn a) k)
theorem sz_exm {s a b : Rat} (h : sz s ≤ 5) (h2 : sz a ≤ 5) : sz (s * qabs a) ≤ 30 := by have := sz_mul s (qabs a); rw [sz_qabs] at this; omega

set_option maxRecDepth 100000 in
set_option maxHeartbeats 16000000 in
theorem exr_as (bbxn : Bool) (vxn : Value) (kxn : Nat) (fxn : Nat → Nat) (mxn : Nat) (ixn : Int) (vxd : Value) (kxd : Nat) (fxd : Nat → Nat) (mxd : Nat) (bbyn : Bool) (vyn : Value) (kyn : Nat) (fyn : Nat → Nat) (myn : Nat) (iyn : Int) (vyd : Value) (kyd : Nat) (fyd : Nat → Nat) (myd : Nat) (a b : Rat)  (r lw : Rat) (sa c0 : Int) (s : Rat) (t : Rat) (w : World) (HWxn : Hid (Wa w vxn kxn fxn)) (HFxn : Hid (∀ i, i < kxn → fxn i < 4294967296)) (HVxn : Hid (vl fxn kxn = mxn)) (HAxn : Hid ((if bbxn then -((mxn : Nat) : Int) else ((mxn : Nat) : Int)) = ixn)) (HWxd : Hid (Wa w vxd kxd fxd)) (HFxd : Hid (∀ i, i < kxd → fxd i < 4294967296)) (HVxd : Hid (vl fxd kxd = mxd)) (HQx : Hid (mkRat ixn (mxd + 1) = a)) (HWyn : Hid (Wa w vyn kyn fyn)) (HFyn : Hid (∀ i, i < kyn → fyn i < 4294967296)) (HVyn : Hid (vl fyn kyn = myn)) (HAyn : Hid ((if bbyn then -((myn : Nat) : Int) else ((myn : Nat) : Int)) = iyn)) (HWyd : Hid (Wa w vyd kyd fyd)) (HFyd : Hid (∀ i, i < kyd → fyd i < 4294967296)) (HVyd : Hid (vl fyd kyd = myd)) (HQy : Hid (mkRat iyn (myd + 1) = b)) (hkxn : kxn ≤ 4) (hkxd : kxd ≤ 4) (hkyn : kyn ≤ 4) (hkyd : kyd ≤ 4) (HR : Hid (qabs a = r)) (hsr : sz r ≤ 5) (HLW : Hid (rlo (a * a) 64 = lw)) (HC0 : Hid (sgQ (lw - r) = c0)) (hc0 : ¬ 0 < c0) (HSA : Hid (sgQ a = sa)) (hsa : ¬ sa = 0) (HS : Hid (exq b = s)) (HSQ : Hid (s * s = b)) (HS0 : Hid (0 ≤ s)) (hss : sz s ≤ 5) (HEX : Hid (exq (b * (a * a)) = t)) (HTQ : Hid (t * t = b * (a * a))) (HTM : Hid (s * r = t)) (hst : sz t ≤ 30) (HT : Hid (Tab w)) :
    Calls Tryz.prog 6 #[.agg #[.bool bbxn, vxn, vxd], .agg #[.bool bbyn, vyn, vyd]] w fun e w' => e = .returned (.bool true) ∧ Below w.heap.size w w' := by
  obtain ⟨ao_xn, c_xn, rfl⟩ := HWxn.out.slice
  obtain ⟨ao_xd, c_xd, rfl⟩ := HWxd.out.slice
  have hm_xn : wl mxn ≤ 4 := by rw [← HVxn.out]; have := wl_le.2 (vl_lt HFxn.out); omega
  have hm_xd : wl mxd ≤ 4 := by rw [← HVxd.out]; have := wl_le.2 (vl_lt HFxd.out); omega
  have hi_x : wl (Int.natAbs ixn) ≤ 4 := by rw [zsize HAxn.out]; exact hm_xn
  have hs_x : sz a ≤ 5 := by rw [← HQx.out]; exact sz_great hi_x hm_xd
  have hr_x : rz a ≤ 15 := by rw [← HQx.out]; exact rz_great hi_x hm_xd (by decide)
  obtain ⟨ao_yn, c_yn, rfl⟩ := HWyn.out.slice
  obtain ⟨ao_yd, c_yd, rfl⟩ := HWyd.out.slice
  have hm_yn : wl myn ≤ 4 := by rw [← HVyn.out]; have := wl_le.2 (vl_lt HFyn.out); omega
  have hm_yd : wl myd ≤ 4 := by rw [← HVyd.out]; have := wl_le.2 (vl_lt HFyd.out); omega
  have hi_y : wl (Int.natAbs iyn) ≤ 4 := by rw [zsize HAyn.out]; exact hm_yn
  have hs_y : sz b ≤ 5 := by rw [← HQy.out]; exact sz_great hi_y hm_yd
  have hr_y : rz b ≤ 15 := by rw [← HQy.out]; exact rz_great hi_y hm_yd (by decide)
  go_enter Tryz.func6, Tryz.ntmps6
  have HF := Lib.hid (hp0 w)
  refine kS fun K hK => ?_
  refine wp_region_lit ?_
  go_wp2
  refine hK.out _ _ ?_; clear hK K
  show Code.wp _ _ _ _ _
  refine fH (((HF.out).al (b := w.heap.size) (by first | rfl | simp) (by decide)).al (b := w.heap.size + 1) (by first | rfl | simp) (by decide)) fun Wx0 HG => ?_
  clear HF; have HF := HG; clear HG
  generalize w.heap.size + 1 = gx1 at *
  refine wp_seq ?_
  have hd1 : ¬ (4 < ((kxn : Int))) := by first | exact ok | exact HR.out | exact HSQ.out | exact HTM.out | exact HNS.out | decide +kernel | exact sq_nn _
  have hd2 : ¬ (4 < ((kxd : Int))) := by first | exact ok | exact HR.out | exact HSQ.out | exact HTM.out | exact HNS.out | decide +kernel | exact sq_nn _
  have hd3 : ¬ (4 < ((kyn : Int))) := by first | exact ok | exact HR.out | exact HSQ.out | exact HTM.out | exact HNS.out | decide +kernel | exact sq_nn _
  have hd4 : ¬ (4 < ((kyd : Int))) := by first | exact ok | exact HR.out | exact HSQ.out | exact HTM.out | exact HNS.out | decide +kernel | exact sq_nn _
  have lx0 := HF.out.c 0 rfl
  have lx1 := HF.out.c 1 rfl
  refine kS fun K hK => ?_
  refine sq 24 [(true, 0), (true, 1), (true, 2), (true, 3), (true, 4), (true, 5), (true, 6), (true, 7), (true, 8), (true, 9), (true, 10), (true, 11), (true, 12), (true, 13), (true, 14), (true, 15), (true, 16), (true, 17), (true, 18), (true, 19), (true, 20), (true, 21), (true, 22), (true, 23)] fun T hT => ?_
  iterate 24 refine tk ?_
  refine nlS hT HF fun vw1 HG => ?_
  clear hT T HF lx0 lx1
  go_wp2
  refine hK.out _ _ ?_; clear hK K
  show Code.wp _ _ _ _ _
  have HF := HG; clear HG
  clear hd1 hd2 hd3 hd4
  refine wp_cond_false (by rfl) ?_
  refine wp_skip ?_
  show Code.wp _ _ _ _ _
  have HB := HPb HF
  have lx0 := HF.out.c 0 rfl
  have lx1 := HF.out.c 1 rfl
  refine kS fun K hK => ?_
  refine wp_region_plan 6 [4, 5] [] (fun i => if i = 4 then 5 else 6) (fun i => if i = 4 then .cells #[.int .u64 0, .string ⟨#[]⟩, .bool false, .int .u64 0, .string ⟨#[]⟩] 36 else .cells #[.int .u64 0, .string ⟨#[]⟩, .bool false, .int .u64 0, .string ⟨#[]⟩] 36) [(true, 0), (true, 2), (true, 1), (true, 3)] (by kernel_rfl) (by kernel_rfl) (by intro i hi; simp only [List.mem_cons, List.not_mem_nil, or_false] at hi; rcases hi with rfl | rfl <;> exact ⟨_, rfl, rfl, rfl, by simp, fun ρ w => by kernel_rfl⟩) (fun i hi => by cases hi) (fun _ _ _ _ _ h => h) (fun T hT => ?_)
  iterate 2 refine tk ?_
  refine ck Tryz.call36 (fun w' hw => gof_any bbxn kxn fxn mxn ixn kxd fxd mxd a ao_xn c_xn ao_xd c_xd w' (Lib.hid (HWxn.out.gr (Gr.trans HB.out hw))) HFxn HVxn HAxn (Lib.hid (HWxd.out.gr (Gr.trans HB.out hw))) HFxd HVxd HQx om om om om) ?_
  refine ck Tryz.call36 (fun w' hw => gof_any bbyn kyn fyn myn iyn kyd fyd myd b ao_yn c_yn ao_yd c_yd w' (Lib.hid (HWyn.out.gr (Gr.trans HB.out hw))) HFyn HVyn HAyn (Lib.hid (HWyd.out.gr (Gr.trans HB.out hw))) HFyd HVyd HQy om om om om) ?_
  refine wpPlan_nil (hT.out _ _ ?_)
  intro G vw2 hg hf
  simp only [puts, Act.put, lA, lB, lC, lD, lE, ↓reduceIte, Nat.reduceEqDiff]
  have HG := Lib.hid (HF.out.fr hg hf (zs := [(#[.int .u64 0, .string ⟨#[]⟩, .bool false, .int .u64 0, .string ⟨#[]⟩], 36), (#[.int .u64 0, .string ⟨#[]⟩, .bool false, .int .u64 0, .string ⟨#[]⟩], 36)]) rfl (by decide) (by decide))
  simp only [List.zip_cons_cons, List.zip_nil_right, List.map_cons, List.map_nil, lF, lG] at HG
  clear hT T HF hg hf lx0 lx1 HB
  generalize G 4 = gx3 at *
  generalize G 5 = gx4 at *
  have lx3 := HG.out.c 2 rfl; have fx3 := HG.out.f 2 rfl
  have lx4 := HG.out.c 3 rfl; have fx4 := HG.out.f 3 rfl
  have r0 := Gr.refl vw2
  obtain ⟨d3_4, d4_3⟩ := HG.out.ne 2 3 rfl rfl (by decide)
  go_wp2
  refine hK.out _ _ ?_; clear hK K
  show Code.wp _ _ _ _ _
  clear r0 lx3 fx3 lx4 fx4 d3_4 d4_3
  refine fH (((((((((HG.out).put2 2 0 rfl).put2 2 2 rfl).put 2 4 _ rfl).put2 3 0 rfl).put2 3 2 rfl).put 3 4 _ rfl).er 1).er 0) fun Wx3 HF => ?_
  clear HG
  obtain ⟨u1, HZ1⟩ : ∃ z, Hid ((a) * (a) = z) := ⟨_, Lib.hid rfl⟩
  have su1 : sz (u1) ≤ 10 := by rw [← HZ1.out]; have := sz_mul (a) (a); omega
  have HZ2 : Hid (exq (u1) = r) := Lib.hid (by simp only [← HZ1.out]; rw [exq_sq]; exact HR.out)
  have su2 : sz (r) ≤ 5 := by have e := HZ2.out; first | omega | (rw [← e]; exact sz_exq om)
  have lx3 := HF.out.c 0 rfl
  refine kS fun K hK => ?_
  refine sq 6 [(true, 0), (true, 1), (true, 2), (true, 3), (true, 4), (true, 5)] fun T hT => ?_
  refine tk ?_
  refine ck Tryz.call37 (fun w' hw => fsquare_any (a) (u1) _ (Lib.hid HZ1.out) om) ?_
  refine ck Tryz.call33 (fun w' hw => zexact_y (u1) (r) _ HZ2.out (by simp only [← HZ1.out]; rw [← HR.out, qabs_sq]) om) ?_
  iterate 3 refine tk ?_
  refine nlS hT HF fun vw3 HG => ?_
  clear hT T HF lx3
  go_wp2
  refine hK.out _ _ ?_; clear hK K
  show Code.wp _ _ _ _ _
  refine fH ((HG.out).al (b := vw3.heap.size) (by first | rfl | simp) (by decide)) fun Wx4 HF => ?_
  clear HG
  generalize vw3.heap.size = gx5 at *
  have HZ3 : Hid (exq (b) = s) := Lib.hid (HS.out)
  have su3 : sz (s) ≤ 5 := by have e := HZ3.out; first | omega | (rw [← e]; exact sz_exq om)
  have lx4 := HF.out.c 1 rfl
  refine kS fun K hK => ?_
  refine sq 5 [(true, 0), (true, 1), (true, 2), (true, 3), (true, 4)] fun T hT => ?_
  refine tk ?_
  refine ck Tryz.call33 (fun w' hw => zexact_y (b) (s) _ HZ3.out (by first | exact ok | exact HR.out | exact HSQ.out | exact HTM.out | exact HNS.out | decide +kernel | exact sq_nn _ | (simp only [← HZ1.out] <;> first | exact ok | exact HR.out | exact HSQ.out | exact HTM.out | exact HNS.out | decide +kernel | exact sq_nn _)) om) ?_
  iterate 3 refine tk ?_
  refine nlS hT HF fun vw4 HG => ?_
  clear hT T HF lx4
  go_wp2
  refine hK.out _ _ ?_; clear hK K
  show Code.wp _ _ _ _ _
  refine fH ((HG.out).al (b := vw4.heap.size) (by first | rfl | simp) (by decide)) fun Wx5 HF => ?_
  clear HG
  generalize vw4.heap.size = gx6 at *
  have HZ4 : Hid ((a) * (a) = u1) := Lib.hid (by first | exact ok | exact HR.out | exact HSQ.out | exact HTM.out | exact HNS.out | decide +kernel | exact sq_nn _ | (simp only [← HZ1.out] <;> first | exact ok | exact HR.out | exact HSQ.out | exact HTM.out | exact HNS.out | decide +kernel | exact sq_nn _))
  have su4 : sz (u1) ≤ 10 := by have e := HZ4.out; first | omega | (rw [← e]; have := sz_mul (a) (a); omega)
  have HZ5 : Hid (rlo (u1) 64 = lw) := Lib.hid (by simp only [← HZ1.out]; exact HLW.out)
  have su5 : sz (lw) ≤ 20 := by have e := HZ5.out; first | omega | (rw [← e]; exact Nat.le_trans (sz_rlo (by omega) om) (by omega))
  have lx3 := HF.out.c 0 rfl
  refine kS fun K hK => ?_
  refine sq 6 [(true, 0), (true, 1), (true, 2), (true, 3), (true, 4), (true, 5)] fun T hT => ?_
  refine tk ?_
  refine ck Tryz.call37 (fun w' hw => fsquare_any (a) (u1) _ (Lib.hid HZ4.out) om) ?_
  refine ck Tryz.call23 (fun w' hw => rBelow_ok (u1) (lw) 64 _ (Lib.hid (by simp only [← HZ1.out]; exact sq_nn _)) (Lib.hid HZ5.out) (by omega) om) ?_
  iterate 3 refine tk ?_
  refine nlS hT HF fun vw5 HG => ?_
  clear hT T HF lx3
  go_wp2
  refine hK.out _ _ ?_; clear hK K
  show Code.wp _ _ _ _ _
  refine fH ((HG.out).al (b := vw5.heap.size) (by first | rfl | simp) (by decide)) fun Wx6 HF => ?_
  clear HG
  generalize vw5.heap.size = gx7 at *
  refine wp_seq ?_
  have HZ6 : Hid (qabs (a) = r) := Lib.hid (by first | exact ok | exact HR.out | exact HSQ.out | exact HTM.out | exact HNS.out | decide +kernel | exact sq_nn _ | (simp only [← HZ1.out] <;> first | exact ok | exact HR.out | exact HSQ.out | exact HTM.out | exact HNS.out | decide +kernel | exact sq_nn _))
  have su6 : sz (r) ≤ 5 := by have e := HZ6.out; first | omega | (rw [← e]; rw [sz_qabs]; omega)
  have HZ7 : Hid ((s) * (s) = b) := Lib.hid (by first | exact ok | exact HR.out | exact HSQ.out | exact HTM.out | exact HNS.out | decide +kernel | exact sq_nn _ | (simp only [← HZ1.out] <;> first | exact ok | exact HR.out | exact HSQ.out | exact HTM.out | exact HNS.out | decide +kernel | exact sq_nn _))
  have su7 : sz (b) ≤ 10 := by have e := HZ7.out; first | omega | (rw [← e]; have := sz_mul (s) (s); omega)
  obtain ⟨t8, HT8⟩ : ∃ z, Hid (sgQ (s) = z) := ⟨_, Lib.hid rfl⟩
  have ht8 : 0 ≤ t8 := by rw [← HT8.out]; exact sgQ_nn0 HS0.out
  have hd5 : ¬ (t8 < 0) := by first | exact ok | exact HR.out | exact HSQ.out | exact HTM.out | exact HNS.out | decide +kernel | exact sq_nn _ | (simp only [← HZ1.out] <;> first | exact ok | exact HR.out | exact HSQ.out | exact HTM.out | exact HNS.out | decide +kernel | exact sq_nn _)
  have hcc0 : ¬ 0 < c0 := by omega
  have lx3 := HF.out.c 0 rfl
  have lx4 := HF.out.c 1 rfl
  have lx5 := HF.out.c 2 rfl
  have lx6 := HF.out.c 3 rfl
  have lx7 := HF.out.c 4 rfl
  refine kS fun K hK => ?_
  refine pd 36 [(true, 0), (true, 1), (true, 2), (true, 3), (true, 4), (true, 5), (true, 6), (true, 7), (true, 8), (true, 9), (true, 10), (true, 11), (true, 13), (true, 12), (true, 14), (true, 15), (true, 16), (true, 17), (true, 18), (true, 19), (true, 20), (true, 21), (true, 22), (true, 23), (true, 24), (true, 25), (true, 26), (true, 27), (true, 28), (true, 29), (true, 30), (true, 31), (true, 32), (true, 33), (true, 34), (true, 35)] fun T hT => ?_
  iterate 2 refine tk ?_
  refine ck Tryz.call31 (fun w' hw => fabs_any (a) (r) _ HZ6.out) ?_
  iterate 10 refine tk ?_
  refine ck Tryz.call37 (fun w' hw => fsquare_any (s) (b) _ (Lib.hid HZ7.out) om) ?_
  iterate 3 refine tk ?_
  refine ck Tryz.call35 (fun w' hw => fsign_any (s) (t8) _ HT8.out) ?_
  iterate 8 refine tk ?_
  iterate 3 refine sk ?_
  iterate 5 refine tk ?_
  refine ck Tryz.call38 (fun w' hw => fcmp_any (lw) (r) (c0) _ (by first | exact HC0.out | (simp only [← HZ1.out]; exact HC0.out)) om om) ?_
  refine tk ?_
  refine nlD hT HF fun vw6 HG => ?_
  clear hT T HF lx3 lx4 lx5 lx6 lx7
  go_wp2
  refine hK.out _ _ ?_; clear hK K
  show Code.wp _ _ _ _ _
  refine fH (((HG.out).er 4).er 2) fun Wx7 HF => ?_
  clear HG
  clear ht8 hd5 hcc0
  refine wp_cond_false (by rfl) ?_
  refine wp_skip ?_
  show Code.wp _ _ _ _ _
  refine wp_seq ?_
  have hd6 : ((sa) == (0)) = false := by have : ¬ (sa = 0) := (by first | exact ok | exact HR.out | exact HSQ.out | exact HTM.out | exact HNS.out | decide +kernel | exact sq_nn _ | (simp only [← HZ1.out] <;> first | exact ok | exact HR.out | exact HSQ.out | exact HTM.out | exact HNS.out | decide +kernel | exact sq_nn _)); simpa using this
  have hd7 : ((sa) != (0)) = true := by have : ¬ (sa = 0) := (by first | exact ok | exact HR.out | exact HSQ.out | exact HTM.out | exact HNS.out | decide +kernel | exact sq_nn _ | (simp only [← HZ1.out] <;> first | exact ok | exact HR.out | exact HSQ.out | exact HTM.out | exact HNS.out | decide +kernel | exact sq_nn _)); simpa using this
  have lx3 := HF.out.c 0 rfl
  refine kS fun K hK => ?_
  refine sq 6 [(true, 0), (true, 1), (true, 2), (true, 3), (true, 4), (true, 5)] fun T hT => ?_
  iterate 3 refine tk ?_
  refine ck Tryz.call35 (fun w' hw => fsign_any (a) (sa) _ HSA.out) ?_
  iterate 2 refine tk ?_
  refine nlS hT HF fun vw7 HG => ?_
  clear hT T HF lx3
  go_wp2
  refine hK.out _ _ ?_; clear hK K
  show Code.wp _ _ _ _ _
  have HF := HG; clear HG
  clear hd6 hd7
  refine wp_cond_true (by rfl) ?_
  have HZ9 : Hid ((a) * (a) = u1) := Lib.hid (by first | exact ok | exact HR.out | exact HSQ.out | exact HTM.out | exact HNS.out | decide +kernel | exact sq_nn _ | (simp only [← HZ1.out] <;> first | exact ok | exact HR.out | exact HSQ.out | exact HTM.out | exact HNS.out | decide +kernel | exact sq_nn _))
  have su9 : sz (u1) ≤ 10 := by have e := HZ9.out; first | omega | (rw [← e]; have := sz_mul (a) (a); omega)
  obtain ⟨u10, HZ10⟩ : ∃ z, Hid ((b) * (u1) = z) := ⟨_, Lib.hid rfl⟩
  have su10 : sz (u10) ≤ 15 := by rw [← HZ10.out]; have := sz_mul (b) (u1); omega
  have HZ11 : Hid (exq (u10) = t) := Lib.hid (by simp only [← HZ10.out, ← HZ1.out]; exact HEX.out)
  have su11 : sz (t) ≤ 30 := by have e := HZ11.out; first | omega | (rw [← e]; exact sz_exq om)
  have lx3 := HF.out.c 0 rfl
  have lx4 := HF.out.c 1 rfl
  refine kS fun K hK => ?_
  refine wp_region_plan 9 [8] [7] (fun _ => 13) (fun _ => .cells #[.int .u64 0, .string ⟨#[]⟩, .bool false, .int .u64 0, .string ⟨#[]⟩] 36) [(true, 0), (true, 1), (true, 2), (true, 3), (true, 4), (true, 5), (true, 6), (true, 7)] (by kernel_rfl) (by kernel_rfl) (by intro i hi; simp only [List.mem_cons, List.not_mem_nil, or_false] at hi; rcases hi with rfl <;> exact ⟨_, rfl, rfl, rfl, by simp, fun ρ w => by kernel_rfl⟩) (by intro i hi; simp only [List.mem_cons, List.not_mem_nil, or_false] at hi; rcases hi with rfl <;> exact ⟨_, rfl, pure_extract⟩) (fun _ _ _ _ _ h => h) (fun T hT => ?_)
  iterate 2 refine tk ?_
  refine ck Tryz.call37 (fun w' hw => fsquare_any (a) (u1) _ (Lib.hid HZ9.out) om) ?_
  refine ck Tryz.call39 (fun w' hw => fmul_any (b) (u1) (u10) _ HZ10.out om om) ?_
  refine ck Tryz.call33 (fun w' hw => zexact_y (u10) (t) _ HZ11.out (by simp only [← HZ10.out, ← HZ1.out]; exact HTQ.out) om) ?_
  iterate 3 refine tk ?_
  refine wpPlan_nil (hT.out _ _ ?_)
  intro G vw8 hg hf
  simp only [puts, Act.put, lA, lB, lC, lD, lE, ↓reduceIte, Nat.reduceEqDiff]
  have HG := Lib.hid (HF.out.fr hg hf (zs := [(#[.int .u64 0, .string ⟨#[]⟩, .bool false, .int .u64 0, .string ⟨#[]⟩], 36)]) rfl (by decide) (by decide))
  simp only [List.zip_cons_cons, List.zip_nil_right, List.map_cons, List.map_nil, lF, lG] at HG
  clear hT T HF hg hf lx3 lx4
  generalize G 8 = gx8 at *
  have lx8 := HG.out.c 3 rfl; have fx8 := HG.out.f 3 rfl
  have r0 := Gr.refl vw8
  go_wp2
  refine hK.out _ _ ?_; clear hK K
  show Code.wp _ _ _ _ _
  clear r0 lx8 fx8
  refine fH ((((HG.out).put2 3 0 rfl).put2 3 2 rfl).put 3 4 _ rfl) fun Wx10 HF => ?_
  clear HG
  have HB := HPb HF
  have HZ12 : Hid (qabs (a) = r) := Lib.hid (by first | exact ok | exact HR.out | exact HSQ.out | exact HTM.out | exact HNS.out | decide +kernel | exact sq_nn _ | (simp only [← HZ10.out, ← HZ1.out] <;> first | exact ok | exact HR.out | exact HSQ.out | exact HTM.out | exact HNS.out | decide +kernel | exact sq_nn _))
  have su12 : sz (r) ≤ 5 := by have e := HZ12.out; first | omega | (rw [← e]; rw [sz_qabs]; omega)
  have HZ13 : Hid ((s) * (r) = t) := Lib.hid (by first | exact ok | exact HR.out | exact HSQ.out | exact HTM.out | exact HNS.out | decide +kernel | exact sq_nn _ | (simp only [← HZ10.out, ← HZ1.out] <;> first | exact ok | exact HR.out | exact HSQ.out | exact HTM.out | exact HNS.out | decide +kernel | exact sq_nn _))
  have su13 : sz (t) ≤ 10 := by have e := HZ13.out; first | omega | (rw [← e]; have := sz_mul (s) (r); omega)
  have lx3 := HF.out.c 0 rfl
  have lx6 := HF.out.c 2 rfl
  have lx8 := HF.out.c 3 rfl
  refine kS fun K hK => ?_
  refine pd 12 [(true, 0), (true, 1), (true, 2), (true, 3), (true, 4), (true, 5), (true, 6), (true, 7), (true, 8), (true, 9), (true, 10), (true, 11)] fun T hT => ?_
  iterate 3 refine tk ?_
  refine ck Tryz.call31 (fun w' hw => fabs_any (a) (r) _ HZ12.out) ?_
  refine ck Tryz.call39 (fun w' hw => fmul_any (s) (r) (t) _ HZ13.out om om) ?_
  iterate 5 refine tk ?_
  refine ck Tryz.call22 (fun w' hw => works5_any _ (Lib.hid (HT.out.gr (Gr.trans HB.out hw)))) ?_
  refine tk ?_
  refine nlD hT HF fun vw9 HG => ?_
  clear hT T HF lx3 lx6 lx8 HB
  go_wp2
  refine hK.out _ _ ?_; clear hK K
  show Code.wp _ _ _ _ _
  refine fH (((HG.out).er 3).er 2) fun Wx11 HF => ?_
  clear HG
  refine wp_ret ?_
  try simp only [Exit.then, Exit.inBlock]
  exact bodyPost_ret (v := .bool true) (by simp [results, Tryz.results6, go_sem]) rfl ⟨rfl, HF.out.1⟩

set_option maxRecDepth 100000 in
set_option maxHeartbeats 16000000 in
theorem exr_an (bbxn : Bool) (vxn : Value) (kxn : Nat) (fxn : Nat → Nat) (mxn : Nat) (ixn : Int) (vxd : Value) (kxd : Nat) (fxd : Nat → Nat) (mxd : Nat) (bbyn : Bool) (vyn : Value) (kyn : Nat) (fyn : Nat → Nat) (myn : Nat) (iyn : Int) (vyd : Value) (kyd : Nat) (fyd : Nat → Nat) (myd : Nat) (a b : Rat)  (r lw : Rat) (sa c0 : Int) (w : World) (HWxn : Hid (Wa w vxn kxn fxn)) (HFxn : Hid (∀ i, i < kxn → fxn i < 4294967296)) (HVxn : Hid (vl fxn kxn = mxn)) (HAxn : Hid ((if bbxn then -((mxn : Nat) : Int) else ((mxn : Nat) : Int)) = ixn)) (HWxd : Hid (Wa w vxd kxd fxd)) (HFxd : Hid (∀ i, i < kxd → fxd i < 4294967296)) (HVxd : Hid (vl fxd kxd = mxd)) (HQx : Hid (mkRat ixn (mxd + 1) = a)) (HWyn : Hid (Wa w vyn kyn fyn)) (HFyn : Hid (∀ i, i < kyn → fyn i < 4294967296)) (HVyn : Hid (vl fyn kyn = myn)) (HAyn : Hid ((if bbyn then -((myn : Nat) : Int) else ((myn : Nat) : Int)) = iyn)) (HWyd : Hid (Wa w vyd kyd fyd)) (HFyd : Hid (∀ i, i < kyd → fyd i < 4294967296)) (HVyd : Hid (vl fyd kyd = myd)) (HQy : Hid (mkRat iyn (myd + 1) = b)) (hkxn : kxn ≤ 4) (hkxd : kxd ≤ 4) (hkyn : kyn ≤ 4) (hkyd : kyd ≤ 4) (HR : Hid (qabs a = r)) (hsr : sz r ≤ 5) (HLW : Hid (rlo (a * a) 64 = lw)) (HC0 : Hid (sgQ (lw - r) = c0)) (hc0 : ¬ 0 < c0) (HSA : Hid (sgQ a = sa)) (hsa : ¬ sa = 0) (HNS : Hid (¬ exq b * exq b = b)) (HNV : Hid (¬ exq (b * (a * a)) * exq (b * (a * a)) = b * (a * a))) (HT : Hid (Tab w)) :
    Calls Tryz.prog 6 #[.agg #[.bool bbxn, vxn, vxd], .agg #[.bool bbyn, vyn, vyd]] w fun e w' => e = .returned (.bool true) ∧ Below w.heap.size w w' := by
  obtain ⟨ao_xn, c_xn, rfl⟩ := HWxn.out.slice
  obtain ⟨ao_xd, c_xd, rfl⟩ := HWxd.out.slice
  have hm_xn : wl mxn ≤ 4 := by rw [← HVxn.out]; have := wl_le.2 (vl_lt HFxn.out); omega
  have hm_xd : wl mxd ≤ 4 := by rw [← HVxd.out]; have := wl_le.2 (vl_lt HFxd.out); omega
  have hi_x : wl (Int.natAbs ixn) ≤ 4 := by rw [zsize HAxn.out]; exact hm_xn
  have hs_x : sz a ≤ 5 := by rw [← HQx.out]; exact sz_great hi_x hm_xd
  have hr_x : rz a ≤ 15 := by rw [← HQx.out]; exact rz_great hi_x hm_xd (by decide)
  obtain ⟨ao_yn, c_yn, rfl⟩ := HWyn.out.slice
  obtain ⟨ao_yd, c_yd, rfl⟩ := HWyd.out.slice
  have hm_yn : wl myn ≤ 4 := by rw [← HVyn.out]; have := wl_le.2 (vl_lt HFyn.out); omega
  have hm_yd : wl myd ≤ 4 := by rw [← HVyd.out]; have := wl_le.2 (vl_lt HFyd.out); omega
  have hi_y : wl (Int.natAbs iyn) ≤ 4 := by rw [zsize HAyn.out]; exact hm_yn
  have hs_y : sz b ≤ 5 := by rw [← HQy.out]; exact sz_great hi_y hm_yd
  have hr_y : rz b ≤ 15 := by rw [← HQy.out]; exact rz_great hi_y hm_yd (by decide)
  go_enter Tryz.func6, Tryz.ntmps6
  have HF := Lib.hid (hp0 w)
  refine kS fun K hK => ?_
  refine wp_region_lit ?_
  go_wp2
  refine hK.out _ _ ?_; clear hK K
  show Code.wp _ _ _ _ _
  refine fH (((HF.out).al (b := w.heap.size) (by first | rfl | simp) (by decide)).al (b := w.heap.size + 1) (by first | rfl | simp) (by decide)) fun Wx0 HG => ?_
  clear HF; have HF := HG; clear HG
  generalize w.heap.size + 1 = gx1 at *
  refine wp_seq ?_
  have hd1 : ¬ (4 < ((kxn : Int))) := by first | exact ok | exact HR.out | exact HSQ.out | exact HTM.out | exact HNS.out | decide +kernel | exact sq_nn _
  have hd2 : ¬ (4 < ((kxd : Int))) := by first | exact ok | exact HR.out | exact HSQ.out | exact HTM.out | exact HNS.out | decide +kernel | exact sq_nn _
  have hd3 : ¬ (4 < ((kyn : Int))) := by first | exact ok | exact HR.out | exact HSQ.out | exact HTM.out | exact HNS.out | decide +kernel | exact sq_nn _
  have hd4 : ¬ (4 < ((kyd : Int))) := by first | exact ok | exact HR.out | exact HSQ.out | exact HTM.out | exact HNS.out | decide +kernel | exact sq_nn _
  have lx0 := HF.out.c 0 rfl
  have lx1 := HF.out.c 1 rfl
  refine kS fun K hK => ?_
  refine sq 24 [(true, 0), (true, 1), (true, 2), (true, 3), (true, 4), (true, 5), (true, 6), (true, 7), (true, 8), (true, 9), (true, 10), (true, 11), (true, 12), (true, 13), (true, 14), (true, 15), (true, 16), (true, 17), (true, 18), (true, 19), (true, 20), (true, 21), (true, 22), (true, 23)] fun T hT => ?_
  iterate 24 refine tk ?_
  refine nlS hT HF fun vw1 HG => ?_
  clear hT T HF lx0 lx1
  go_wp2
  refine hK.out _ _ ?_; clear hK K
  show Code.wp _ _ _ _ _
  have HF := HG; clear HG
  clear hd1 hd2 hd3 hd4
  refine wp_cond_false (by rfl) ?_
  refine wp_skip ?_
  show Code.wp _ _ _ _ _
  have HB := HPb HF
  have lx0 := HF.out.c 0 rfl
  have lx1 := HF.out.c 1 rfl
  refine kS fun K hK => ?_
  refine wp_region_plan 6 [4, 5] [] (fun i => if i = 4 then 5 else 6) (fun i => if i = 4 then .cells #[.int .u64 0, .string ⟨#[]⟩, .bool false, .int .u64 0, .string ⟨#[]⟩] 36 else .cells #[.int .u64 0, .string ⟨#[]⟩, .bool false, .int .u64 0, .string ⟨#[]⟩] 36) [(true, 0), (true, 2), (true, 1), (true, 3)] (by kernel_rfl) (by kernel_rfl) (by intro i hi; simp only [List.mem_cons, List.not_mem_nil, or_false] at hi; rcases hi with rfl | rfl <;> exact ⟨_, rfl, rfl, rfl, by simp, fun ρ w => by kernel_rfl⟩) (fun i hi => by cases hi) (fun _ _ _ _ _ h => h) (fun T hT => ?_)
  iterate 2 refine tk ?_
  refine ck Tryz.call36 (fun w' hw => gof_any bbxn kxn fxn mxn ixn kxd fxd mxd a ao_xn c_xn ao_xd c_xd w' (Lib.hid (HWxn.out.gr (Gr.trans HB.out hw))) HFxn HVxn HAxn (Lib.hid (HWxd.out.gr (Gr.trans HB.out hw))) HFxd HVxd HQx om om om om) ?_
  refine ck Tryz.call36 (fun w' hw => gof_any bbyn kyn fyn myn iyn kyd fyd myd b ao_yn c_yn ao_yd c_yd w' (Lib.hid (HWyn.out.gr (Gr.trans HB.out hw))) HFyn HVyn HAyn (Lib.hid (HWyd.out.gr (Gr.trans HB.out hw))) HFyd HVyd HQy om om om om) ?_
  refine wpPlan_nil (hT.out _ _ ?_)
  intro G vw2 hg hf
  simp only [puts, Act.put, lA, lB, lC, lD, lE, ↓reduceIte, Nat.reduceEqDiff]
  have HG := Lib.hid (HF.out.fr hg hf (zs := [(#[.int .u64 0, .string ⟨#[]⟩, .bool false, .int .u64 0, .string ⟨#[]⟩], 36), (#[.int .u64 0, .string ⟨#[]⟩, .bool false, .int .u64 0, .string ⟨#[]⟩], 36)]) rfl (by decide) (by decide))
  simp only [List.zip_cons_cons, List.zip_nil_right, List.map_cons, List.map_nil, lF, lG] at HG
  clear hT T HF hg hf lx0 lx1 HB
  generalize G 4 = gx3 at *
  generalize G 5 = gx4 at *
  have lx3 := HG.out.c 2 rfl; have fx3 := HG.out.f 2 rfl
  have lx4 := HG.out.c 3 rfl; have fx4 := HG.out.f 3 rfl
  have r0 := Gr.refl vw2
  obtain ⟨d3_4, d4_3⟩ := HG.out.ne 2 3 rfl rfl (by decide)
  go_wp2
  refine hK.out _ _ ?_; clear hK K
  show Code.wp _ _ _ _ _
  clear r0 lx3 fx3 lx4 fx4 d3_4 d4_3
  refine fH (((((((((HG.out).put2 2 0 rfl).put2 2 2 rfl).put 2 4 _ rfl).put2 3 0 rfl).put2 3 2 rfl).put 3 4 _ rfl).er 1).er 0) fun Wx3 HF => ?_
  clear HG
  obtain ⟨u1, HZ1⟩ : ∃ z, Hid ((a) * (a) = z) := ⟨_, Lib.hid rfl⟩
  have su1 : sz (u1) ≤ 10 := by rw [← HZ1.out]; have := sz_mul (a) (a); omega
  have HZ2 : Hid (exq (u1) = r) := Lib.hid (by simp only [← HZ1.out]; rw [exq_sq]; exact HR.out)
  have su2 : sz (r) ≤ 5 := by have e := HZ2.out; first | omega | (rw [← e]; exact sz_exq om)
  have lx3 := HF.out.c 0 rfl
  refine kS fun K hK => ?_
  refine sq 6 [(true, 0), (true, 1), (true, 2), (true, 3), (true, 4), (true, 5)] fun T hT => ?_
  refine tk ?_
  refine ck Tryz.call37 (fun w' hw => fsquare_any (a) (u1) _ (Lib.hid HZ1.out) om) ?_
  refine ck Tryz.call33 (fun w' hw => zexact_y (u1) (r) _ HZ2.out (by simp only [← HZ1.out]; rw [← HR.out, qabs_sq]) om) ?_
  iterate 3 refine tk ?_
  refine nlS hT HF fun vw3 HG => ?_
  clear hT T HF lx3
  go_wp2
  refine hK.out _ _ ?_; clear hK K
  show Code.wp _ _ _ _ _
  refine fH ((HG.out).al (b := vw3.heap.size) (by first | rfl | simp) (by decide)) fun Wx4 HF => ?_
  clear HG
  generalize vw3.heap.size = gx5 at *
  have lx4 := HF.out.c 1 rfl
  refine kS fun K hK => ?_
  refine sq 5 [(true, 0), (true, 1), (true, 2), (true, 3), (true, 4)] fun T hT => ?_
  refine tk ?_
  refine ck Tryz.call33 (fun w' hw => zexact_n (b) _ _ rfl (by first | exact ok | exact HR.out | exact HSQ.out | exact HTM.out | exact HNS.out | decide +kernel | exact sq_nn _ | (simp only [← HZ1.out] <;> first | exact ok | exact HR.out | exact HSQ.out | exact HTM.out | exact HNS.out | decide +kernel | exact sq_nn _)) om) ?_
  iterate 3 refine tk ?_
  refine nlS hT HF fun vw4 HG => ?_
  clear hT T HF lx4
  go_wp2
  refine hK.out _ _ ?_; clear hK K
  show Code.wp _ _ _ _ _
  refine fH ((HG.out).al (b := vw4.heap.size) (by first | rfl | simp) (by decide)) fun Wx5 HF => ?_
  clear HG
  generalize vw4.heap.size = gx6 at *
  have HZ3 : Hid ((a) * (a) = u1) := Lib.hid (by first | exact ok | exact HR.out | exact HSQ.out | exact HTM.out | exact HNS.out | decide +kernel | exact sq_nn _ | (simp only [← HZ1.out] <;> first | exact ok | exact HR.out | exact HSQ.out | exact HTM.out | exact HNS.out | decide +kernel | exact sq_nn _))
  have su3 : sz (u1) ≤ 10 := by have e := HZ3.out; first | omega | (rw [← e]; have := sz_mul (a) (a); omega)
  have HZ4 : Hid (rlo (u1) 64 = lw) := Lib.hid (by simp only [← HZ1.out]; exact HLW.out)
  have su4 : sz (lw) ≤ 20 := by have e := HZ4.out; first | omega | (rw [← e]; exact Nat.le_trans (sz_rlo (by omega) om) (by omega))
  have lx3 := HF.out.c 0 rfl
  refine kS fun K hK => ?_
  refine sq 6 [(true, 0), (true, 1), (true, 2), (true, 3), (true, 4), (true, 5)] fun T hT => ?_
  refine tk ?_
  refine ck Tryz.call37 (fun w' hw => fsquare_any (a) (u1) _ (Lib.hid HZ3.out) om) ?_
  refine ck Tryz.call23 (fun w' hw => rBelow_ok (u1) (lw) 64 _ (Lib.hid (by simp only [← HZ1.out]; exact sq_nn _)) (Lib.hid HZ4.out) (by omega) om) ?_
  iterate 3 refine tk ?_
  refine nlS hT HF fun vw5 HG => ?_
  clear hT T HF lx3
  go_wp2
  refine hK.out _ _ ?_; clear hK K
  show Code.wp _ _ _ _ _
  refine fH ((HG.out).al (b := vw5.heap.size) (by first | rfl | simp) (by decide)) fun Wx6 HF => ?_
  clear HG
  generalize vw5.heap.size = gx7 at *
  refine wp_seq ?_
  have HZ5 : Hid (qabs (a) = r) := Lib.hid (by first | exact ok | exact HR.out | exact HSQ.out | exact HTM.out | exact HNS.out | decide +kernel | exact sq_nn _ | (simp only [← HZ1.out] <;> first | exact ok | exact HR.out | exact HSQ.out | exact HTM.out | exact HNS.out | decide +kernel | exact sq_nn _))
  have su5 : sz (r) ≤ 5 := by have e := HZ5.out; first | omega | (rw [← e]; rw [sz_qabs]; omega)
  have hcc0 : ¬ 0 < c0 := by omega
  have lx3 := HF.out.c 0 rfl
  have lx4 := HF.out.c 1 rfl
  have lx5 := HF.out.c 2 rfl
  have lx6 := HF.out.c 3 rfl
  have lx7 := HF.out.c 4 rfl
  refine kS fun K hK => ?_
  refine pd 36 [(true, 0), (true, 1), (true, 2), (true, 3), (true, 4), (true, 5), (true, 6), (true, 7), (true, 8), (true, 9), (true, 10), (true, 11), (true, 13), (true, 12), (true, 14), (true, 15), (true, 16), (true, 17), (true, 18), (true, 19), (true, 20), (true, 21), (true, 22), (true, 23), (true, 24), (true, 25), (true, 26), (true, 27), (true, 28), (true, 29), (true, 30), (true, 31), (true, 32), (true, 33), (true, 34), (true, 35)] fun T hT => ?_
  iterate 2 refine tk ?_
  refine ck Tryz.call31 (fun w' hw => fabs_any (a) (r) _ HZ5.out) ?_
  iterate 8 refine tk ?_
  iterate 9 refine sk ?_
  iterate 14 refine tk ?_
  refine ck Tryz.call38 (fun w' hw => fcmp_any (lw) (r) (c0) _ (by first | exact HC0.out | (simp only [← HZ1.out]; exact HC0.out)) om om) ?_
  refine tk ?_
  refine nlD hT HF fun vw6 HG => ?_
  clear hT T HF lx3 lx4 lx5 lx6 lx7
  go_wp2
  refine hK.out _ _ ?_; clear hK K
  show Code.wp _ _ _ _ _
  refine fH (((HG.out).er 4).er 2) fun Wx7 HF => ?_
  clear HG
  clear hcc0
  refine wp_cond_false (by rfl) ?_
  refine wp_skip ?_
  show Code.wp _ _ _ _ _
  refine wp_seq ?_
  have lx3 := HF.out.c 0 rfl
  refine kS fun K hK => ?_
  refine sq 6 [(true, 0), (true, 1), (true, 2), (true, 3), (true, 4), (true, 5)] fun T hT => ?_
  iterate 2 refine tk ?_
  iterate 3 refine sk ?_
  refine tk ?_
  refine nlS hT HF fun vw7 HG => ?_
  clear hT T HF lx3
  go_wp2
  refine hK.out _ _ ?_; clear hK K
  show Code.wp _ _ _ _ _
  have HF := HG; clear HG
  refine wp_cond_false (by rfl) ?_
  refine wp_skip ?_
  show Code.wp _ _ _ _ _
  have HZ6 : Hid ((a) * (a) = u1) := Lib.hid (by first | exact ok | exact HR.out | exact HSQ.out | exact HTM.out | exact HNS.out | decide +kernel | exact sq_nn _ | (simp only [← HZ1.out] <;> first | exact ok | exact HR.out | exact HSQ.out | exact HTM.out | exact HNS.out | decide +kernel | exact sq_nn _))
  have su6 : sz (u1) ≤ 10 := by have e := HZ6.out; first | omega | (rw [← e]; have := sz_mul (a) (a); omega)
  obtain ⟨u7, HZ7⟩ : ∃ z, Hid ((b) * (u1) = z) := ⟨_, Lib.hid rfl⟩
  have su7 : sz (u7) ≤ 15 := by rw [← HZ7.out]; have := sz_mul (b) (u1); omega
  have lx3 := HF.out.c 0 rfl
  have lx4 := HF.out.c 1 rfl
  refine kS fun K hK => ?_
  refine wp_region_plan 9 [8] [7] (fun _ => 15) (fun _ => .cells #[.int .u64 0, .string ⟨#[]⟩, .bool false, .int .u64 0, .string ⟨#[]⟩] 36) [(true, 0), (true, 1), (true, 2), (true, 3), (true, 4), (true, 5), (true, 6), (true, 7)] (by kernel_rfl) (by kernel_rfl) (by intro i hi; simp only [List.mem_cons, List.not_mem_nil, or_false] at hi; rcases hi with rfl <;> exact ⟨_, rfl, rfl, rfl, by simp, fun ρ w => by kernel_rfl⟩) (by intro i hi; simp only [List.mem_cons, List.not_mem_nil, or_false] at hi; rcases hi with rfl <;> exact ⟨_, rfl, pure_extract⟩) (fun _ _ _ _ _ h => h) (fun T hT => ?_)
  iterate 2 refine tk ?_
  refine ck Tryz.call37 (fun w' hw => fsquare_any (a) (u1) _ (Lib.hid HZ6.out) om) ?_
  refine ck Tryz.call39 (fun w' hw => fmul_any (b) (u1) (u7) _ HZ7.out om om) ?_
  refine ck Tryz.call33 (fun w' hw => zexact_n (u7) _ _ rfl (by simp only [← HZ7.out, ← HZ1.out]; exact HNV.out) om) ?_
  iterate 3 refine tk ?_
  refine wpPlan_nil (hT.out _ _ ?_)
  intro G vw8 hg hf
  simp only [puts, Act.put, lA, lB, lC, lD, lE, ↓reduceIte, Nat.reduceEqDiff]
  have HG := Lib.hid (HF.out.fr hg hf (zs := [(#[.int .u64 0, .string ⟨#[]⟩, .bool false, .int .u64 0, .string ⟨#[]⟩], 36)]) rfl (by decide) (by decide))
  simp only [List.zip_cons_cons, List.zip_nil_right, List.map_cons, List.map_nil, lF, lG] at HG
  clear hT T HF hg hf lx3 lx4
  generalize G 8 = gx8 at *
  have lx8 := HG.out.c 3 rfl; have fx8 := HG.out.f 3 rfl
  have r0 := Gr.refl vw8
  go_wp2
  refine hK.out _ _ ?_; clear hK K
  show Code.wp _ _ _ _ _
  clear r0 lx8 fx8
  refine fH (((((HG.out).put2 3 0 rfl).put2 3 2 rfl).put 3 4 _ rfl).er 2) fun Wx12 HF => ?_
  clear HG
  have HB := HPb HF
  have hd5 : ((sa) == (0)) = false := by have : ¬ (sa = 0) := (by first | exact ok | exact HR.out | exact HSQ.out | exact HTM.out | exact HNS.out | decide +kernel | exact sq_nn _ | (simp only [← HZ7.out, ← HZ1.out] <;> first | exact ok | exact HR.out | exact HSQ.out | exact HTM.out | exact HNS.out | decide +kernel | exact sq_nn _)); simpa using this
  have lx3 := HF.out.c 0 rfl
  have lx4 := HF.out.c 1 rfl
  have lx8 := HF.out.c 2 rfl
  refine kS fun K hK => ?_
  refine pd 26 [(true, 0), (true, 1), (true, 2), (true, 3), (true, 4), (true, 5), (true, 6), (true, 7), (true, 8), (true, 9), (true, 10), (true, 11), (true, 12), (true, 13), (true, 14), (true, 16), (true, 17), (true, 15), (true, 18), (true, 19), (true, 20), (true, 21), (true, 22), (true, 23), (true, 24), (true, 25)] fun T hT => ?_
  iterate 3 refine tk ?_
  refine ck Tryz.call35 (fun w' hw => fsign_any (a) (sa) _ HSA.out) ?_
  iterate 10 refine tk ?_
  iterate 7 refine sk ?_
  iterate 3 refine tk ?_
  refine ck Tryz.call22 (fun w' hw => works5_any _ (Lib.hid (HT.out.gr (Gr.trans HB.out hw)))) ?_
  refine tk ?_
  refine nlD hT HF fun vw9 HG => ?_
  clear hT T HF lx3 lx4 lx8 HB
  go_wp2
  refine hK.out _ _ ?_; clear hK K
  show Code.wp _ _ _ _ _
  refine fH ((((HG.out).er 2).er 1).er 0) fun Wx13 HF => ?_
  clear HG
  clear hd5
  refine wp_ret ?_
  try simp only [Exit.then, Exit.inBlock]
  exact bodyPost_ret (v := .bool true) (by simp [results, Tryz.results6, go_sem]) rfl ⟨rfl, HF.out.1⟩

set_option maxRecDepth 100000 in
set_option maxHeartbeats 16000000 in
theorem exr_zs (bbxn : Bool) (vxn : Value) (kxn : Nat) (fxn : Nat → Nat) (mxn : Nat) (ixn : Int) (vxd : Value) (kxd : Nat) (fxd : Nat → Nat) (mxd : Nat) (bbyn : Bool) (vyn : Value) (kyn : Nat) (fyn : Nat → Nat) (myn : Nat) (iyn : Int) (vyd : Value) (kyd : Nat) (fyd : Nat → Nat) (myd : Nat) (b : Rat)  (s : Rat) (w : World) (HWxn : Hid (Wa w vxn kxn fxn)) (HFxn : Hid (∀ i, i < kxn → fxn i < 4294967296)) (HVxn : Hid (vl fxn kxn = mxn)) (HAxn : Hid ((if bbxn then -((mxn : Nat) : Int) else ((mxn : Nat) : Int)) = ixn)) (HWxd : Hid (Wa w vxd kxd fxd)) (HFxd : Hid (∀ i, i < kxd → fxd i < 4294967296)) (HVxd : Hid (vl fxd kxd = mxd)) (HQx : Hid (mkRat ixn (mxd + 1) = (0 : Rat))) (HWyn : Hid (Wa w vyn kyn fyn)) (HFyn : Hid (∀ i, i < kyn → fyn i < 4294967296)) (HVyn : Hid (vl fyn kyn = myn)) (HAyn : Hid ((if bbyn then -((myn : Nat) : Int) else ((myn : Nat) : Int)) = iyn)) (HWyd : Hid (Wa w vyd kyd fyd)) (HFyd : Hid (∀ i, i < kyd → fyd i < 4294967296)) (HVyd : Hid (vl fyd kyd = myd)) (HQy : Hid (mkRat iyn (myd + 1) = b)) (hkxn : kxn ≤ 4) (hkxd : kxd ≤ 4) (hkyn : kyn ≤ 4) (hkyd : kyd ≤ 4) (HS : Hid (exq b = s)) (HSQ : Hid (s * s = b)) (HS0 : Hid (0 ≤ s)) (hss : sz s ≤ 5) (HT : Hid (Tab w)) :
    Calls Tryz.prog 6 #[.agg #[.bool bbxn, vxn, vxd], .agg #[.bool bbyn, vyn, vyd]] w fun e w' => e = .returned (.bool true) ∧ Below w.heap.size w w' := by
  obtain ⟨ao_xn, c_xn, rfl⟩ := HWxn.out.slice
  obtain ⟨ao_xd, c_xd, rfl⟩ := HWxd.out.slice
  have hm_xn : wl mxn ≤ 4 := by rw [← HVxn.out]; have := wl_le.2 (vl_lt HFxn.out); omega
  have hm_xd : wl mxd ≤ 4 := by rw [← HVxd.out]; have := wl_le.2 (vl_lt HFxd.out); omega
  have hi_x : wl (Int.natAbs ixn) ≤ 4 := by rw [zsize HAxn.out]; exact hm_xn
  have hs_x : sz (0 : Rat) ≤ 5 := by rw [← HQx.out]; exact sz_great hi_x hm_xd
  have hr_x : rz (0 : Rat) ≤ 15 := by rw [← HQx.out]; exact rz_great hi_x hm_xd (by decide)
  obtain ⟨ao_yn, c_yn, rfl⟩ := HWyn.out.slice
  obtain ⟨ao_yd, c_yd, rfl⟩ := HWyd.out.slice
  have hm_yn : wl myn ≤ 4 := by rw [← HVyn.out]; have := wl_le.2 (vl_lt HFyn.out); omega
  have hm_yd : wl myd ≤ 4 := by rw [← HVyd.out]; have := wl_le.2 (vl_lt HFyd.out); omega
  have hi_y : wl (Int.natAbs iyn) ≤ 4 := by rw [zsize HAyn.out]; exact hm_yn
  have hs_y : sz b ≤ 5 := by rw [← HQy.out]; exact sz_great hi_y hm_yd
  have hr_y : rz b ≤ 15 := by rw [← HQy.out]; exact rz_great hi_y hm_yd (by decide)
  go_enter Tryz.func6, Tryz.ntmps6
  have HF := Lib.hid (hp0 w)
  refine kS fun K hK => ?_
  refine wp_region_lit ?_
  go_wp2
  refine hK.out _ _ ?_; clear hK K
  show Code.wp _ _ _ _ _
  refine fH (((HF.out).al (b := w.heap.size) (by first | rfl | simp) (by decide)).al (b := w.heap.size + 1) (by first | rfl | simp) (by decide)) fun Wx0 HG => ?_
  clear HF; have HF := HG; clear HG
  generalize w.heap.size + 1 = gx1 at *
  refine wp_seq ?_
  have hd1 : ¬ (4 < ((kxn : Int))) := by first | exact ok | exact HR.out | exact HSQ.out | exact HTM.out | exact HNS.out | decide +kernel | exact sq_nn _
  have hd2 : ¬ (4 < ((kxd : Int))) := by first | exact ok | exact HR.out | exact HSQ.out | exact HTM.out | exact HNS.out | decide +kernel | exact sq_nn _
  have hd3 : ¬ (4 < ((kyn : Int))) := by first | exact ok | exact HR.out | exact HSQ.out | exact HTM.out | exact HNS.out | decide +kernel | exact sq_nn _
  have hd4 : ¬ (4 < ((kyd : Int))) := by first | exact ok | exact HR.out | exact HSQ.out | exact HTM.out | exact HNS.out | decide +kernel | exact sq_nn _
  have lx0 := HF.out.c 0 rfl
  have lx1 := HF.out.c 1 rfl
  refine kS fun K hK => ?_
  refine sq 24 [(true, 0), (true, 1), (true, 2), (true, 3), (true, 4), (true, 5), (true, 6), (true, 7), (true, 8), (true, 9), (true, 10), (true, 11), (true, 12), (true, 13), (true, 14), (true, 15), (true, 16), (true, 17), (true, 18), (true, 19), (true, 20), (true, 21), (true, 22), (true, 23)] fun T hT => ?_
  iterate 24 refine tk ?_
  refine nlS hT HF fun vw1 HG => ?_
  clear hT T HF lx0 lx1
  go_wp2
  refine hK.out _ _ ?_; clear hK K
  show Code.wp _ _ _ _ _
  have HF := HG; clear HG
  clear hd1 hd2 hd3 hd4
  refine wp_cond_false (by rfl) ?_
  refine wp_skip ?_
  show Code.wp _ _ _ _ _
  have HB := HPb HF
  have lx0 := HF.out.c 0 rfl
  have lx1 := HF.out.c 1 rfl
  refine kS fun K hK => ?_
  refine wp_region_plan 6 [4, 5] [] (fun i => if i = 4 then 5 else 6) (fun i => if i = 4 then .cells #[.int .u64 0, .string ⟨#[]⟩, .bool false, .int .u64 0, .string ⟨#[]⟩] 36 else .cells #[.int .u64 0, .string ⟨#[]⟩, .bool false, .int .u64 0, .string ⟨#[]⟩] 36) [(true, 0), (true, 2), (true, 1), (true, 3)] (by kernel_rfl) (by kernel_rfl) (by intro i hi; simp only [List.mem_cons, List.not_mem_nil, or_false] at hi; rcases hi with rfl | rfl <;> exact ⟨_, rfl, rfl, rfl, by simp, fun ρ w => by kernel_rfl⟩) (fun i hi => by cases hi) (fun _ _ _ _ _ h => h) (fun T hT => ?_)
  iterate 2 refine tk ?_
  refine ck Tryz.call36 (fun w' hw => gof_any bbxn kxn fxn mxn ixn kxd fxd mxd (0 : Rat) ao_xn c_xn ao_xd c_xd w' (Lib.hid (HWxn.out.gr (Gr.trans HB.out hw))) HFxn HVxn HAxn (Lib.hid (HWxd.out.gr (Gr.trans HB.out hw))) HFxd HVxd HQx om om om om) ?_
  refine ck Tryz.call36 (fun w' hw => gof_any bbyn kyn fyn myn iyn kyd fyd myd b ao_yn c_yn ao_yd c_yd w' (Lib.hid (HWyn.out.gr (Gr.trans HB.out hw))) HFyn HVyn HAyn (Lib.hid (HWyd.out.gr (Gr.trans HB.out hw))) HFyd HVyd HQy om om om om) ?_
  refine wpPlan_nil (hT.out _ _ ?_)
  intro G vw2 hg hf
  simp only [puts, Act.put, lA, lB, lC, lD, lE, ↓reduceIte, Nat.reduceEqDiff]
  have HG := Lib.hid (HF.out.fr hg hf (zs := [(#[.int .u64 0, .string ⟨#[]⟩, .bool false, .int .u64 0, .string ⟨#[]⟩], 36), (#[.int .u64 0, .string ⟨#[]⟩, .bool false, .int .u64 0, .string ⟨#[]⟩], 36)]) rfl (by decide) (by decide))
  simp only [List.zip_cons_cons, List.zip_nil_right, List.map_cons, List.map_nil, lF, lG] at HG
  clear hT T HF hg hf lx0 lx1 HB
  generalize G 4 = gx3 at *
  generalize G 5 = gx4 at *
  have lx3 := HG.out.c 2 rfl; have fx3 := HG.out.f 2 rfl
  have lx4 := HG.out.c 3 rfl; have fx4 := HG.out.f 3 rfl
  have r0 := Gr.refl vw2
  obtain ⟨d3_4, d4_3⟩ := HG.out.ne 2 3 rfl rfl (by decide)
  go_wp2
  refine hK.out _ _ ?_; clear hK K
  show Code.wp _ _ _ _ _
  clear r0 lx3 fx3 lx4 fx4 d3_4 d4_3
  refine fH (((((((((HG.out).put2 2 0 rfl).put2 2 2 rfl).put 2 4 _ rfl).put2 3 0 rfl).put2 3 2 rfl).put 3 4 _ rfl).er 1).er 0) fun Wx3 HF => ?_
  clear HG
  have HZ1 : Hid ((0 : Rat) * (0 : Rat) = (0 : Rat)) := Lib.hid (by first | exact ok | exact HR.out | exact HSQ.out | exact HTM.out | exact HNS.out | decide +kernel | exact sq_nn _)
  have su1 : sz ((0 : Rat)) ≤ 10 := by have e := HZ1.out; first | omega | (rw [← e]; have := sz_mul (0 : Rat) (0 : Rat); omega)
  have HZ2 : Hid (exq (0 : Rat) = (0 : Rat)) := Lib.hid (by first | exact ok | exact HR.out | exact HSQ.out | exact HTM.out | exact HNS.out | decide +kernel | exact sq_nn _)
  have su2 : sz ((0 : Rat)) ≤ 10 := by have e := HZ2.out; first | omega | (rw [← e]; exact sz_exq om)
  have lx3 := HF.out.c 0 rfl
  refine kS fun K hK => ?_
  refine sq 6 [(true, 0), (true, 1), (true, 2), (true, 3), (true, 4), (true, 5)] fun T hT => ?_
  refine tk ?_
  refine ck Tryz.call37 (fun w' hw => fsquare_any (0 : Rat) (0 : Rat) _ (Lib.hid HZ1.out) om) ?_
  refine ck Tryz.call33 (fun w' hw => zexact_y (0 : Rat) (0 : Rat) _ HZ2.out (by decide +kernel) om) ?_
  iterate 3 refine tk ?_
  refine nlS hT HF fun vw3 HG => ?_
  clear hT T HF lx3
  go_wp2
  refine hK.out _ _ ?_; clear hK K
  show Code.wp _ _ _ _ _
  refine fH ((HG.out).al (b := vw3.heap.size) (by first | rfl | simp) (by decide)) fun Wx4 HF => ?_
  clear HG
  generalize vw3.heap.size = gx5 at *
  have HZ3 : Hid (exq (b) = s) := Lib.hid (HS.out)
  have su3 : sz (s) ≤ 5 := by have e := HZ3.out; first | omega | (rw [← e]; exact sz_exq om)
  have lx4 := HF.out.c 1 rfl
  refine kS fun K hK => ?_
  refine sq 5 [(true, 0), (true, 1), (true, 2), (true, 3), (true, 4)] fun T hT => ?_
  refine tk ?_
  refine ck Tryz.call33 (fun w' hw => zexact_y (b) (s) _ HZ3.out (by first | exact ok | exact HR.out | exact HSQ.out | exact HTM.out | exact HNS.out | decide +kernel | exact sq_nn _) om) ?_
  iterate 3 refine tk ?_
  refine nlS hT HF fun vw4 HG => ?_
  clear hT T HF lx4
  go_wp2
  refine hK.out _ _ ?_; clear hK K
  show Code.wp _ _ _ _ _
  refine fH ((HG.out).al (b := vw4.heap.size) (by first | rfl | simp) (by decide)) fun Wx5 HF => ?_
  clear HG
  generalize vw4.heap.size = gx6 at *
  have HZ4 : Hid ((0 : Rat) * (0 : Rat) = (0 : Rat)) := Lib.hid (by first | exact ok | exact HR.out | exact HSQ.out | exact HTM.out | exact HNS.out | decide +kernel | exact sq_nn _)
  have su4 : sz ((0 : Rat)) ≤ 10 := by have e := HZ4.out; first | omega | (rw [← e]; have := sz_mul (0 : Rat) (0 : Rat); omega)
  have HZ5 : Hid (rlo (0 : Rat) 64 = (0 : Rat)) := Lib.hid (by first | exact ok | exact HR.out | exact HSQ.out | exact HTM.out | exact HNS.out | decide +kernel | exact sq_nn _)
  have su5 : sz ((0 : Rat)) ≤ 20 := by have e := HZ5.out; first | omega | (rw [← e]; exact Nat.le_trans (sz_rlo (by omega) om) (by omega))
  have lx3 := HF.out.c 0 rfl
  refine kS fun K hK => ?_
  refine sq 6 [(true, 0), (true, 1), (true, 2), (true, 3), (true, 4), (true, 5)] fun T hT => ?_
  refine tk ?_
  refine ck Tryz.call37 (fun w' hw => fsquare_any (0 : Rat) (0 : Rat) _ (Lib.hid HZ4.out) om) ?_
  refine ck Tryz.call23 (fun w' hw => rBelow_ok (0 : Rat) (0 : Rat) 64 _ (Lib.hid (by exact Rat.le_refl)) (Lib.hid HZ5.out) (by omega) om) ?_
  iterate 3 refine tk ?_
  refine nlS hT HF fun vw5 HG => ?_
  clear hT T HF lx3
  go_wp2
  refine hK.out _ _ ?_; clear hK K
  show Code.wp _ _ _ _ _
  refine fH ((HG.out).al (b := vw5.heap.size) (by first | rfl | simp) (by decide)) fun Wx6 HF => ?_
  clear HG
  generalize vw5.heap.size = gx7 at *
  refine wp_seq ?_
  have HZ6 : Hid (qabs (0 : Rat) = (0 : Rat)) := Lib.hid (by first | exact ok | exact HR.out | exact HSQ.out | exact HTM.out | exact HNS.out | decide +kernel | exact sq_nn _)
  have su6 : sz ((0 : Rat)) ≤ 5 := by have e := HZ6.out; first | omega | (rw [← e]; rw [sz_qabs]; omega)
  have HZ7 : Hid ((s) * (s) = b) := Lib.hid (by first | exact ok | exact HR.out | exact HSQ.out | exact HTM.out | exact HNS.out | decide +kernel | exact sq_nn _)
  have su7 : sz (b) ≤ 10 := by have e := HZ7.out; first | omega | (rw [← e]; have := sz_mul (s) (s); omega)
  obtain ⟨t8, HT8⟩ : ∃ z, Hid (sgQ (s) = z) := ⟨_, Lib.hid rfl⟩
  have ht8 : 0 ≤ t8 := by rw [← HT8.out]; exact sgQ_nn0 HS0.out
  have hd5 : ¬ (t8 < 0) := by first | exact ok | exact HR.out | exact HSQ.out | exact HTM.out | exact HNS.out | decide +kernel | exact sq_nn _
  have lx3 := HF.out.c 0 rfl
  have lx4 := HF.out.c 1 rfl
  have lx5 := HF.out.c 2 rfl
  have lx6 := HF.out.c 3 rfl
  have lx7 := HF.out.c 4 rfl
  refine kS fun K hK => ?_
  refine pd 36 [(true, 0), (true, 1), (true, 2), (true, 3), (true, 4), (true, 5), (true, 6), (true, 7), (true, 8), (true, 9), (true, 10), (true, 11), (true, 13), (true, 12), (true, 14), (true, 15), (true, 16), (true, 17), (true, 18), (true, 19), (true, 20), (true, 21), (true, 22), (true, 23), (true, 24), (true, 25), (true, 26), (true, 27), (true, 28), (true, 29), (true, 30), (true, 31), (true, 32), (true, 33), (true, 34), (true, 35)] fun T hT => ?_
  iterate 2 refine tk ?_
  refine ck Tryz.call31 (fun w' hw => fabs_any (0 : Rat) (0 : Rat) _ HZ6.out) ?_
  iterate 10 refine tk ?_
  refine ck Tryz.call37 (fun w' hw => fsquare_any (s) (b) _ (Lib.hid HZ7.out) om) ?_
  iterate 3 refine tk ?_
  refine ck Tryz.call35 (fun w' hw => fsign_any (s) (t8) _ HT8.out) ?_
  iterate 8 refine tk ?_
  iterate 3 refine sk ?_
  iterate 5 refine tk ?_
  refine ck Tryz.call38 (fun w' hw => fcmp_any (0 : Rat) (0 : Rat) (0) _ (by have e9 : (0 : Rat) - (0 : Rat) = (0 : Rat) := (by first | exact ok | exact HR.out | exact HSQ.out | exact HTM.out | exact HNS.out | decide +kernel | exact sq_nn _); exact sgQ_zero' e9) om om) ?_
  refine tk ?_
  refine nlD hT HF fun vw6 HG => ?_
  clear hT T HF lx3 lx4 lx5 lx6 lx7
  go_wp2
  refine hK.out _ _ ?_; clear hK K
  show Code.wp _ _ _ _ _
  refine fH (((HG.out).er 4).er 2) fun Wx7 HF => ?_
  clear HG
  clear ht8 hd5
  refine wp_cond_false (by rfl) ?_
  refine wp_skip ?_
  show Code.wp _ _ _ _ _
  refine wp_seq ?_
  have lx3 := HF.out.c 0 rfl
  refine kS fun K hK => ?_
  refine sq 6 [(true, 0), (true, 1), (true, 2), (true, 3), (true, 4), (true, 5)] fun T hT => ?_
  iterate 3 refine tk ?_
  refine ck Tryz.call35 (fun w' hw => fsign_any (0 : Rat) (0) _ (by have e9 : (0 : Rat) = (0 : Rat) := (by first | exact ok | exact HR.out | exact HSQ.out | exact HTM.out | exact HNS.out | decide +kernel | exact sq_nn _); exact sgQ_zero' e9)) ?_
  iterate 2 refine tk ?_
  refine nlS hT HF fun vw7 HG => ?_
  clear hT T HF lx3
  go_wp2
  refine hK.out _ _ ?_; clear hK K
  show Code.wp _ _ _ _ _
  have HF := HG; clear HG
  refine wp_cond_false (by rfl) ?_
  refine wp_skip ?_
  show Code.wp _ _ _ _ _
  have HZ9 : Hid ((0 : Rat) * (0 : Rat) = (0 : Rat)) := Lib.hid (by first | exact ok | exact HR.out | exact HSQ.out | exact HTM.out | exact HNS.out | decide +kernel | exact sq_nn _)
  have su9 : sz ((0 : Rat)) ≤ 10 := by have e := HZ9.out; first | omega | (rw [← e]; have := sz_mul (0 : Rat) (0 : Rat); omega)
  have HZ10 : Hid ((b) * (0 : Rat) = (0 : Rat)) := Lib.hid (by first | exact ok | exact HR.out | exact HSQ.out | exact HTM.out | exact HNS.out | decide +kernel | exact sq_nn _)
  have su10 : sz ((0 : Rat)) ≤ 15 := by have e := HZ10.out; first | omega | (rw [← e]; have := sz_mul (b) (0 : Rat); omega)
  have HZ11 : Hid (exq (0 : Rat) = (0 : Rat)) := Lib.hid (by first | exact ok | exact HR.out | exact HSQ.out | exact HTM.out | exact HNS.out | decide +kernel | exact sq_nn _)
  have su11 : sz ((0 : Rat)) ≤ 15 := by have e := HZ11.out; first | omega | (rw [← e]; exact sz_exq om)
  have lx3 := HF.out.c 0 rfl
  have lx4 := HF.out.c 1 rfl
  refine kS fun K hK => ?_
  refine wp_region_plan 9 [8] [7] (fun _ => 15) (fun _ => .cells #[.int .u64 0, .string ⟨#[]⟩, .bool false, .int .u64 0, .string ⟨#[]⟩] 36) [(true, 0), (true, 1), (true, 2), (true, 3), (true, 4), (true, 5), (true, 6), (true, 7)] (by kernel_rfl) (by kernel_rfl) (by intro i hi; simp only [List.mem_cons, List.not_mem_nil, or_false] at hi; rcases hi with rfl <;> exact ⟨_, rfl, rfl, rfl, by simp, fun ρ w => by kernel_rfl⟩) (by intro i hi; simp only [List.mem_cons, List.not_mem_nil, or_false] at hi; rcases hi with rfl <;> exact ⟨_, rfl, pure_extract⟩) (fun _ _ _ _ _ h => h) (fun T hT => ?_)
  iterate 2 refine tk ?_
  refine ck Tryz.call37 (fun w' hw => fsquare_any (0 : Rat) (0 : Rat) _ (Lib.hid HZ9.out) om) ?_
  refine ck Tryz.call39 (fun w' hw => fmul_any (b) (0 : Rat) (0 : Rat) _ HZ10.out om om) ?_
  refine ck Tryz.call33 (fun w' hw => zexact_y (0 : Rat) (0 : Rat) _ HZ11.out (by decide +kernel) om) ?_
  iterate 3 refine tk ?_
  refine wpPlan_nil (hT.out _ _ ?_)
  intro G vw8 hg hf
  simp only [puts, Act.put, lA, lB, lC, lD, lE, ↓reduceIte, Nat.reduceEqDiff]
  have HG := Lib.hid (HF.out.fr hg hf (zs := [(#[.int .u64 0, .string ⟨#[]⟩, .bool false, .int .u64 0, .string ⟨#[]⟩], 36)]) rfl (by decide) (by decide))
  simp only [List.zip_cons_cons, List.zip_nil_right, List.map_cons, List.map_nil, lF, lG] at HG
  clear hT T HF hg hf lx3 lx4
  generalize G 8 = gx8 at *
  have lx8 := HG.out.c 3 rfl; have fx8 := HG.out.f 3 rfl
  have r0 := Gr.refl vw8
  go_wp2
  refine hK.out _ _ ?_; clear hK K
  show Code.wp _ _ _ _ _
  clear r0 lx8 fx8
  refine fH (((((HG.out).put2 3 0 rfl).put2 3 2 rfl).put 3 4 _ rfl).er 2) fun Wx12 HF => ?_
  clear HG
  have HB := HPb HF
  have HZ12 : Hid ((0 : Rat) * (0 : Rat) = (0 : Rat)) := Lib.hid (by first | exact ok | exact HR.out | exact HSQ.out | exact HTM.out | exact HNS.out | decide +kernel | exact sq_nn _)
  have su12 : sz ((0 : Rat)) ≤ 30 := by have e := HZ12.out; first | omega | (rw [← e]; have := sz_mul (0 : Rat) (0 : Rat); omega)
  have HZ13 : Hid ((0 : Rat) * (0 : Rat) = (0 : Rat)) := Lib.hid (by first | exact ok | exact HR.out | exact HSQ.out | exact HTM.out | exact HNS.out | decide +kernel | exact sq_nn _)
  have su13 : sz ((0 : Rat)) ≤ 10 := by have e := HZ13.out; first | omega | (rw [← e]; have := sz_mul (0 : Rat) (0 : Rat); omega)
  have HZ14 : Hid ((b) * (0 : Rat) = (0 : Rat)) := Lib.hid (by first | exact ok | exact HR.out | exact HSQ.out | exact HTM.out | exact HNS.out | decide +kernel | exact sq_nn _)
  have su14 : sz ((0 : Rat)) ≤ 15 := by have e := HZ14.out; first | omega | (rw [← e]; have := sz_mul (b) (0 : Rat); omega)
  have lx3 := HF.out.c 0 rfl
  have lx4 := HF.out.c 1 rfl
  have lx8 := HF.out.c 2 rfl
  refine kS fun K hK => ?_
  refine pd 26 [(true, 0), (true, 1), (true, 2), (true, 3), (true, 4), (true, 5), (true, 6), (true, 7), (true, 8), (true, 9), (true, 10), (true, 11), (true, 12), (true, 13), (true, 14), (true, 16), (true, 17), (true, 15), (true, 18), (true, 19), (true, 20), (true, 21), (true, 22), (true, 23), (true, 24), (true, 25)] fun T hT => ?_
  iterate 2 refine tk ?_
  iterate 3 refine sk ?_
  iterate 2 refine tk ?_
  iterate 2 refine sk ?_
  iterate 8 refine tk ?_
  refine ck Tryz.call37 (fun w' hw => fsquare_any (0 : Rat) (0 : Rat) _ (Lib.hid HZ12.out) om) ?_
  refine ck Tryz.call37 (fun w' hw => fsquare_any (0 : Rat) (0 : Rat) _ (Lib.hid HZ13.out) om) ?_
  refine ck Tryz.call39 (fun w' hw => fmul_any (b) (0 : Rat) (0 : Rat) _ HZ14.out om om) ?_
  iterate 4 refine tk ?_
  refine ck Tryz.call22 (fun w' hw => works5_any _ (Lib.hid (HT.out.gr (Gr.trans HB.out hw)))) ?_
  refine tk ?_
  refine nlD hT HF fun vw9 HG => ?_
  clear hT T HF lx3 lx4 lx8 HB
  go_wp2
  refine hK.out _ _ ?_; clear hK K
  show Code.wp _ _ _ _ _
  refine fH ((((HG.out).er 2).er 1).er 0) fun Wx13 HF => ?_
  clear HG
  refine wp_ret ?_
  try simp only [Exit.then, Exit.inBlock]
  exact bodyPost_ret (v := .bool true) (by simp [results, Tryz.results6, go_sem]) rfl ⟨rfl, HF.out.1⟩

set_option maxRecDepth 100000 in
set_option maxHeartbeats 16000000 in
theorem exr_zn (bbxn : Bool) (vxn : Value) (kxn : Nat) (fxn : Nat → Nat) (mxn : Nat) (ixn : Int) (vxd : Value) (kxd : Nat) (fxd : Nat → Nat) (mxd : Nat) (bbyn : Bool) (vyn : Value) (kyn : Nat) (fyn : Nat → Nat) (myn : Nat) (iyn : Int) (vyd : Value) (kyd : Nat) (fyd : Nat → Nat) (myd : Nat) (b : Rat)  (w : World) (HWxn : Hid (Wa w vxn kxn fxn)) (HFxn : Hid (∀ i, i < kxn → fxn i < 4294967296)) (HVxn : Hid (vl fxn kxn = mxn)) (HAxn : Hid ((if bbxn then -((mxn : Nat) : Int) else ((mxn : Nat) : Int)) = ixn)) (HWxd : Hid (Wa w vxd kxd fxd)) (HFxd : Hid (∀ i, i < kxd → fxd i < 4294967296)) (HVxd : Hid (vl fxd kxd = mxd)) (HQx : Hid (mkRat ixn (mxd + 1) = (0 : Rat))) (HWyn : Hid (Wa w vyn kyn fyn)) (HFyn : Hid (∀ i, i < kyn → fyn i < 4294967296)) (HVyn : Hid (vl fyn kyn = myn)) (HAyn : Hid ((if bbyn then -((myn : Nat) : Int) else ((myn : Nat) : Int)) = iyn)) (HWyd : Hid (Wa w vyd kyd fyd)) (HFyd : Hid (∀ i, i < kyd → fyd i < 4294967296)) (HVyd : Hid (vl fyd kyd = myd)) (HQy : Hid (mkRat iyn (myd + 1) = b)) (hkxn : kxn ≤ 4) (hkxd : kxd ≤ 4) (hkyn : kyn ≤ 4) (hkyd : kyd ≤ 4) (HNS : Hid (¬ exq b * exq b = b)) (HT : Hid (Tab w)) :
    Calls Tryz.prog 6 #[.agg #[.bool bbxn, vxn, vxd], .agg #[.bool bbyn, vyn, vyd]] w fun e w' => e = .returned (.bool true) ∧ Below w.heap.size w w' := by
  obtain ⟨ao_xn, c_xn, rfl⟩ := HWxn.out.slice
  obtain ⟨ao_xd, c_xd, rfl⟩ := HWxd.out.slice
  have hm_xn : wl mxn ≤ 4 := by rw [← HVxn.out]; have := wl_le.2 (vl_lt HFxn.out); omega
  have hm_xd : wl mxd ≤ 4 := by rw [← HVxd.out]; have := wl_le.2 (vl_lt HFxd.out); omega
  have hi_x : wl (Int.natAbs ixn) ≤ 4 := by rw [zsize HAxn.out]; exact hm_xn
  have hs_x : sz (0 : Rat) ≤ 5 := by rw [← HQx.out]; exact sz_great hi_x hm_xd
  have hr_x : rz (0 : Rat) ≤ 15 := by rw [← HQx.out]; exact rz_great hi_x hm_xd (by decide)
  obtain ⟨ao_yn, c_yn, rfl⟩ := HWyn.out.slice
  obtain ⟨ao_yd, c_yd, rfl⟩ := HWyd.out.slice
  have hm_yn : wl myn ≤ 4 := by rw [← HVyn.out]; have := wl_le.2 (vl_lt HFyn.out); omega
  have hm_yd : wl myd ≤ 4 := by rw [← HVyd.out]; have := wl_le.2 (vl_lt HFyd.out); omega
  have hi_y : wl (Int.natAbs iyn) ≤ 4 := by rw [zsize HAyn.out]; exact hm_yn
  have hs_y : sz b ≤ 5 := by rw [← HQy.out]; exact sz_great hi_y hm_yd
  have hr_y : rz b ≤ 15 := by rw [← HQy.out]; exact rz_great hi_y hm_yd (by decide)
  go_enter Tryz.func6, Tryz.ntmps6
  have HF := Lib.hid (hp0 w)
  refine kS fun K hK => ?_
  refine wp_region_lit ?_
  go_wp2
  refine hK.out _ _ ?_; clear hK K
  show Code.wp _ _ _ _ _
  refine fH (((HF.out).al (b := w.heap.size) (by first | rfl | simp) (by decide)).al (b := w.heap.size + 1) (by first | rfl | simp) (by decide)) fun Wx0 HG => ?_
  clear HF; have HF := HG; clear HG
  generalize w.heap.size + 1 = gx1 at *
  refine wp_seq ?_
  have hd1 : ¬ (4 < ((kxn : Int))) := by first | exact ok | exact HR.out | exact HSQ.out | exact HTM.out | exact HNS.out | decide +kernel | exact sq_nn _
  have hd2 : ¬ (4 < ((kxd : Int))) := by first | exact ok | exact HR.out | exact HSQ.out | exact HTM.out | exact HNS.out | decide +kernel | exact sq_nn _
  have hd3 : ¬ (4 < ((kyn : Int))) := by first | exact ok | exact HR.out | exact HSQ.out | exact HTM.out | exact HNS.out | decide +kernel | exact sq_nn _
  have hd4 : ¬ (4 < ((kyd : Int))) := by first | exact ok | exact HR.out | exact HSQ.out | exact HTM.out | exact HNS.out | decide +kernel | exact sq_nn _
  have lx0 := HF.out.c 0 rfl
  have lx1 := HF.out.c 1 rfl
  refine kS fun K hK => ?_
  refine sq 24 [(true, 0), (true, 1), (true, 2), (true, 3), (true, 4), (true, 5), (true, 6), (true, 7), (true, 8), (true, 9), (true, 10), (true, 11), (true, 12), (true, 13), (true, 14), (true, 15), (true, 16), (true, 17), (true, 18), (true, 19), (true, 20), (true, 21), (true, 22), (true, 23)] fun T hT => ?_
  iterate 24 refine tk ?_
  refine nlS hT HF fun vw1 HG => ?_
  clear hT T HF lx0 lx1
  go_wp2
  refine hK.out _ _ ?_; clear hK K
  show Code.wp _ _ _ _ _
  have HF := HG; clear HG
  clear hd1 hd2 hd3 hd4
  refine wp_cond_false (by rfl) ?_
  refine wp_skip ?_
  show Code.wp _ _ _ _ _
  have HB := HPb HF
  have lx0 := HF.out.c 0 rfl
  have lx1 := HF.out.c 1 rfl
  refine kS fun K hK => ?_
  refine wp_region_plan 6 [4, 5] [] (fun i => if i = 4 then 5 else 6) (fun i => if i = 4 then .cells #[.int .u64 0, .string ⟨#[]⟩, .bool false, .int .u64 0, .string ⟨#[]⟩] 36 else .cells #[.int .u64 0, .string ⟨#[]⟩, .bool false, .int .u64 0, .string ⟨#[]⟩] 36) [(true, 0), (true, 2), (true, 1), (true, 3)] (by kernel_rfl) (by kernel_rfl) (by intro i hi; simp only [List.mem_cons, List.not_mem_nil, or_false] at hi; rcases hi with rfl | rfl <;> exact ⟨_, rfl, rfl, rfl, by simp, fun ρ w => by kernel_rfl⟩) (fun i hi => by cases hi) (fun _ _ _ _ _ h => h) (fun T hT => ?_)
  iterate 2 refine tk ?_
  refine ck Tryz.call36 (fun w' hw => gof_any bbxn kxn fxn mxn ixn kxd fxd mxd (0 : Rat) ao_xn c_xn ao_xd c_xd w' (Lib.hid (HWxn.out.gr (Gr.trans HB.out hw))) HFxn HVxn HAxn (Lib.hid (HWxd.out.gr (Gr.trans HB.out hw))) HFxd HVxd HQx om om om om) ?_
  refine ck Tryz.call36 (fun w' hw => gof_any bbyn kyn fyn myn iyn kyd fyd myd b ao_yn c_yn ao_yd c_yd w' (Lib.hid (HWyn.out.gr (Gr.trans HB.out hw))) HFyn HVyn HAyn (Lib.hid (HWyd.out.gr (Gr.trans HB.out hw))) HFyd HVyd HQy om om om om) ?_
  refine wpPlan_nil (hT.out _ _ ?_)
  intro G vw2 hg hf
  simp only [puts, Act.put, lA, lB, lC, lD, lE, ↓reduceIte, Nat.reduceEqDiff]
  have HG := Lib.hid (HF.out.fr hg hf (zs := [(#[.int .u64 0, .string ⟨#[]⟩, .bool false, .int .u64 0, .string ⟨#[]⟩], 36), (#[.int .u64 0, .string ⟨#[]⟩, .bool false, .int .u64 0, .string ⟨#[]⟩], 36)]) rfl (by decide) (by decide))
  simp only [List.zip_cons_cons, List.zip_nil_right, List.map_cons, List.map_nil, lF, lG] at HG
  clear hT T HF hg hf lx0 lx1 HB
  generalize G 4 = gx3 at *
  generalize G 5 = gx4 at *
  have lx3 := HG.out.c 2 rfl; have fx3 := HG.out.f 2 rfl
  have lx4 := HG.out.c 3 rfl; have fx4 := HG.out.f 3 rfl
  have r0 := Gr.refl vw2
  obtain ⟨d3_4, d4_3⟩ := HG.out.ne 2 3 rfl rfl (by decide)
  go_wp2
  refine hK.out _ _ ?_; clear hK K
  show Code.wp _ _ _ _ _
  clear r0 lx3 fx3 lx4 fx4 d3_4 d4_3
  refine fH (((((((((HG.out).put2 2 0 rfl).put2 2 2 rfl).put 2 4 _ rfl).put2 3 0 rfl).put2 3 2 rfl).put 3 4 _ rfl).er 1).er 0) fun Wx3 HF => ?_
  clear HG
  have HZ1 : Hid ((0 : Rat) * (0 : Rat) = (0 : Rat)) := Lib.hid (by first | exact ok | exact HR.out | exact HSQ.out | exact HTM.out | exact HNS.out | decide +kernel | exact sq_nn _)
  have su1 : sz ((0 : Rat)) ≤ 10 := by have e := HZ1.out; first | omega | (rw [← e]; have := sz_mul (0 : Rat) (0 : Rat); omega)
  have HZ2 : Hid (exq (0 : Rat) = (0 : Rat)) := Lib.hid (by first | exact ok | exact HR.out | exact HSQ.out | exact HTM.out | exact HNS.out | decide +kernel | exact sq_nn _)
  have su2 : sz ((0 : Rat)) ≤ 10 := by have e := HZ2.out; first | omega | (rw [← e]; exact sz_exq om)
  have lx3 := HF.out.c 0 rfl
  refine kS fun K hK => ?_
  refine sq 6 [(true, 0), (true, 1), (true, 2), (true, 3), (true, 4), (true, 5)] fun T hT => ?_
  refine tk ?_
  refine ck Tryz.call37 (fun w' hw => fsquare_any (0 : Rat) (0 : Rat) _ (Lib.hid HZ1.out) om) ?_
  refine ck Tryz.call33 (fun w' hw => zexact_y (0 : Rat) (0 : Rat) _ HZ2.out (by decide +kernel) om) ?_
  iterate 3 refine tk ?_
  refine nlS hT HF fun vw3 HG => ?_
  clear hT T HF lx3
  go_wp2
  refine hK.out _ _ ?_; clear hK K
  show Code.wp _ _ _ _ _
  refine fH ((HG.out).al (b := vw3.heap.size) (by first | rfl | simp) (by decide)) fun Wx4 HF => ?_
  clear HG
  generalize vw3.heap.size = gx5 at *
  have lx4 := HF.out.c 1 rfl
  refine kS fun K hK => ?_
  refine sq 5 [(true, 0), (true, 1), (true, 2), (true, 3), (true, 4)] fun T hT => ?_
  refine tk ?_
  refine ck Tryz.call33 (fun w' hw => zexact_n (b) _ _ rfl (by first | exact ok | exact HR.out | exact HSQ.out | exact HTM.out | exact HNS.out | decide +kernel | exact sq_nn _) om) ?_
  iterate 3 refine tk ?_
  refine nlS hT HF fun vw4 HG => ?_
  clear hT T HF lx4
  go_wp2
  refine hK.out _ _ ?_; clear hK K
  show Code.wp _ _ _ _ _
  refine fH ((HG.out).al (b := vw4.heap.size) (by first | rfl | simp) (by decide)) fun Wx5 HF => ?_
  clear HG
  generalize vw4.heap.size = gx6 at *
  have HZ3 : Hid ((0 : Rat) * (0 : Rat) = (0 : Rat)) := Lib.hid (by first | exact ok | exact HR.out | exact HSQ.out | exact HTM.out | exact HNS.out | decide +kernel | exact sq_nn _)
  have su3 : sz ((0 : Rat)) ≤ 10 := by have e := HZ3.out; first | omega | (rw [← e]; have := sz_mul (0 : Rat) (0 : Rat); omega)
  have HZ4 : Hid (rlo (0 : Rat) 64 = (0 : Rat)) := Lib.hid (by first | exact ok | exact HR.out | exact HSQ.out | exact HTM.out | exact HNS.out | decide +kernel | exact sq_nn _)
  have su4 : sz ((0 : Rat)) ≤ 20 := by have e := HZ4.out; first | omega | (rw [← e]; exact Nat.le_trans (sz_rlo (by omega) om) (by omega))
  have lx3 := HF.out.c 0 rfl
  refine kS fun K hK => ?_
  refine sq 6 [(true, 0), (true, 1), (true, 2), (true, 3), (true, 4), (true, 5)] fun T hT => ?_
  refine tk ?_
  refine ck Tryz.call37 (fun w' hw => fsquare_any (0 : Rat) (0 : Rat) _ (Lib.hid HZ3.out) om) ?_
  refine ck Tryz.call23 (fun w' hw => rBelow_ok (0 : Rat) (0 : Rat) 64 _ (Lib.hid (by exact Rat.le_refl)) (Lib.hid HZ4.out) (by omega) om) ?_
  iterate 3 refine tk ?_
  refine nlS hT HF fun vw5 HG => ?_
  clear hT T HF lx3
  go_wp2
  refine hK.out _ _ ?_; clear hK K
  show Code.wp _ _ _ _ _
  refine fH ((HG.out).al (b := vw5.heap.size) (by first | rfl | simp) (by decide)) fun Wx6 HF => ?_
  clear HG
  generalize vw5.heap.size = gx7 at *
  refine wp_seq ?_
  have HZ5 : Hid (qabs (0 : Rat) = (0 : Rat)) := Lib.hid (by first | exact ok | exact HR.out | exact HSQ.out | exact HTM.out | exact HNS.out | decide +kernel | exact sq_nn _)
  have su5 : sz ((0 : Rat)) ≤ 5 := by have e := HZ5.out; first | omega | (rw [← e]; rw [sz_qabs]; omega)
  have lx3 := HF.out.c 0 rfl
  have lx4 := HF.out.c 1 rfl
  have lx5 := HF.out.c 2 rfl
  have lx6 := HF.out.c 3 rfl
  have lx7 := HF.out.c 4 rfl
  refine kS fun K hK => ?_
  refine pd 36 [(true, 0), (true, 1), (true, 2), (true, 3), (true, 4), (true, 5), (true, 6), (true, 7), (true, 8), (true, 9), (true, 10), (true, 11), (true, 13), (true, 12), (true, 14), (true, 15), (true, 16), (true, 17), (true, 18), (true, 19), (true, 20), (true, 21), (true, 22), (true, 23), (true, 24), (true, 25), (true, 26), (true, 27), (true, 28), (true, 29), (true, 30), (true, 31), (true, 32), (true, 33), (true, 34), (true, 35)] fun T hT => ?_
  iterate 2 refine tk ?_
  refine ck Tryz.call31 (fun w' hw => fabs_any (0 : Rat) (0 : Rat) _ HZ5.out) ?_
  iterate 8 refine tk ?_
  iterate 9 refine sk ?_
  iterate 14 refine tk ?_
  refine ck Tryz.call38 (fun w' hw => fcmp_any (0 : Rat) (0 : Rat) (0) _ (by have e9 : (0 : Rat) - (0 : Rat) = (0 : Rat) := (by first | exact ok | exact HR.out | exact HSQ.out | exact HTM.out | exact HNS.out | decide +kernel | exact sq_nn _); exact sgQ_zero' e9) om om) ?_
  refine tk ?_
  refine nlD hT HF fun vw6 HG => ?_
  clear hT T HF lx3 lx4 lx5 lx6 lx7
  go_wp2
  refine hK.out _ _ ?_; clear hK K
  show Code.wp _ _ _ _ _
  refine fH (((HG.out).er 4).er 2) fun Wx7 HF => ?_
  clear HG
  refine wp_cond_false (by rfl) ?_
  refine wp_skip ?_
  show Code.wp _ _ _ _ _
  refine wp_seq ?_
  have lx3 := HF.out.c 0 rfl
  refine kS fun K hK => ?_
  refine sq 6 [(true, 0), (true, 1), (true, 2), (true, 3), (true, 4), (true, 5)] fun T hT => ?_
  iterate 2 refine tk ?_
  iterate 3 refine sk ?_
  refine tk ?_
  refine nlS hT HF fun vw7 HG => ?_
  clear hT T HF lx3
  go_wp2
  refine hK.out _ _ ?_; clear hK K
  show Code.wp _ _ _ _ _
  have HF := HG; clear HG
  refine wp_cond_false (by rfl) ?_
  refine wp_skip ?_
  show Code.wp _ _ _ _ _
  have HZ6 : Hid ((0 : Rat) * (0 : Rat) = (0 : Rat)) := Lib.hid (by first | exact ok | exact HR.out | exact HSQ.out | exact HTM.out | exact HNS.out | decide +kernel | exact sq_nn _)
  have su6 : sz ((0 : Rat)) ≤ 10 := by have e := HZ6.out; first | omega | (rw [← e]; have := sz_mul (0 : Rat) (0 : Rat); omega)
  have HZ7 : Hid ((b) * (0 : Rat) = (0 : Rat)) := Lib.hid (by first | exact ok | exact HR.out | exact HSQ.out | exact HTM.out | exact HNS.out | decide +kernel | exact sq_nn _)
  have su7 : sz ((0 : Rat)) ≤ 15 := by have e := HZ7.out; first | omega | (rw [← e]; have := sz_mul (b) (0 : Rat); omega)
  have HZ8 : Hid (exq (0 : Rat) = (0 : Rat)) := Lib.hid (by first | exact ok | exact HR.out | exact HSQ.out | exact HTM.out | exact HNS.out | decide +kernel | exact sq_nn _)
  have su8 : sz ((0 : Rat)) ≤ 15 := by have e := HZ8.out; first | omega | (rw [← e]; exact sz_exq om)
  have lx3 := HF.out.c 0 rfl
  have lx4 := HF.out.c 1 rfl
  refine kS fun K hK => ?_
  refine wp_region_plan 9 [8] [7] (fun _ => 15) (fun _ => .cells #[.int .u64 0, .string ⟨#[]⟩, .bool false, .int .u64 0, .string ⟨#[]⟩] 36) [(true, 0), (true, 1), (true, 2), (true, 3), (true, 4), (true, 5), (true, 6), (true, 7)] (by kernel_rfl) (by kernel_rfl) (by intro i hi; simp only [List.mem_cons, List.not_mem_nil, or_false] at hi; rcases hi with rfl <;> exact ⟨_, rfl, rfl, rfl, by simp, fun ρ w => by kernel_rfl⟩) (by intro i hi; simp only [List.mem_cons, List.not_mem_nil, or_false] at hi; rcases hi with rfl <;> exact ⟨_, rfl, pure_extract⟩) (fun _ _ _ _ _ h => h) (fun T hT => ?_)
  iterate 2 refine tk ?_
  refine ck Tryz.call37 (fun w' hw => fsquare_any (0 : Rat) (0 : Rat) _ (Lib.hid HZ6.out) om) ?_
  refine ck Tryz.call39 (fun w' hw => fmul_any (b) (0 : Rat) (0 : Rat) _ HZ7.out om om) ?_
  refine ck Tryz.call33 (fun w' hw => zexact_y (0 : Rat) (0 : Rat) _ HZ8.out (by decide +kernel) om) ?_
  iterate 3 refine tk ?_
  refine wpPlan_nil (hT.out _ _ ?_)
  intro G vw8 hg hf
  simp only [puts, Act.put, lA, lB, lC, lD, lE, ↓reduceIte, Nat.reduceEqDiff]
  have HG := Lib.hid (HF.out.fr hg hf (zs := [(#[.int .u64 0, .string ⟨#[]⟩, .bool false, .int .u64 0, .string ⟨#[]⟩], 36)]) rfl (by decide) (by decide))
  simp only [List.zip_cons_cons, List.zip_nil_right, List.map_cons, List.map_nil, lF, lG] at HG
  clear hT T HF hg hf lx3 lx4
  generalize G 8 = gx8 at *
  have lx8 := HG.out.c 3 rfl; have fx8 := HG.out.f 3 rfl
  have r0 := Gr.refl vw8
  go_wp2
  refine hK.out _ _ ?_; clear hK K
  show Code.wp _ _ _ _ _
  clear r0 lx8 fx8
  refine fH (((((HG.out).put2 3 0 rfl).put2 3 2 rfl).put 3 4 _ rfl).er 2) fun Wx12 HF => ?_
  clear HG
  have HB := HPb HF
  have HZ9 : Hid ((0 : Rat) * (0 : Rat) = (0 : Rat)) := Lib.hid (by first | exact ok | exact HR.out | exact HSQ.out | exact HTM.out | exact HNS.out | decide +kernel | exact sq_nn _)
  have su9 : sz ((0 : Rat)) ≤ 30 := by have e := HZ9.out; first | omega | (rw [← e]; have := sz_mul (0 : Rat) (0 : Rat); omega)
  have HZ10 : Hid ((0 : Rat) * (0 : Rat) = (0 : Rat)) := Lib.hid (by first | exact ok | exact HR.out | exact HSQ.out | exact HTM.out | exact HNS.out | decide +kernel | exact sq_nn _)
  have su10 : sz ((0 : Rat)) ≤ 10 := by have e := HZ10.out; first | omega | (rw [← e]; have := sz_mul (0 : Rat) (0 : Rat); omega)
  have HZ11 : Hid ((b) * (0 : Rat) = (0 : Rat)) := Lib.hid (by first | exact ok | exact HR.out | exact HSQ.out | exact HTM.out | exact HNS.out | decide +kernel | exact sq_nn _)
  have su11 : sz ((0 : Rat)) ≤ 15 := by have e := HZ11.out; first | omega | (rw [← e]; have := sz_mul (b) (0 : Rat); omega)
  have lx3 := HF.out.c 0 rfl
  have lx4 := HF.out.c 1 rfl
  have lx8 := HF.out.c 2 rfl
  refine kS fun K hK => ?_
  refine pd 26 [(true, 0), (true, 1), (true, 2), (true, 3), (true, 4), (true, 5), (true, 6), (true, 7), (true, 8), (true, 9), (true, 10), (true, 11), (true, 12), (true, 13), (true, 14), (true, 16), (true, 17), (true, 15), (true, 18), (true, 19), (true, 20), (true, 21), (true, 22), (true, 23), (true, 24), (true, 25)] fun T hT => ?_
  iterate 3 refine tk ?_
  refine ck Tryz.call35 (fun w' hw => fsign_any (0 : Rat) (0) _ (by have e9 : (0 : Rat) = (0 : Rat) := (by first | exact ok | exact HR.out | exact HSQ.out | exact HTM.out | exact HNS.out | decide +kernel | exact sq_nn _); exact sgQ_zero' e9)) ?_
  iterate 3 refine tk ?_
  iterate 2 refine sk ?_
  iterate 8 refine tk ?_
  refine ck Tryz.call37 (fun w' hw => fsquare_any (0 : Rat) (0 : Rat) _ (Lib.hid HZ9.out) om) ?_
  refine ck Tryz.call37 (fun w' hw => fsquare_any (0 : Rat) (0 : Rat) _ (Lib.hid HZ10.out) om) ?_
  refine ck Tryz.call39 (fun w' hw => fmul_any (b) (0 : Rat) (0 : Rat) _ HZ11.out om om) ?_
  iterate 4 refine tk ?_
  refine ck Tryz.call22 (fun w' hw => works5_any _ (Lib.hid (HT.out.gr (Gr.trans HB.out hw)))) ?_
  refine tk ?_
  refine nlD hT HF fun vw9 HG => ?_
  clear hT T HF lx3 lx4 lx8 HB
  go_wp2
  refine hK.out _ _ ?_; clear hK K
  show Code.wp _ _ _ _ _
  refine fH ((((HG.out).er 2).er 1).er 0) fun Wx13 HF => ?_
  clear HG
  refine wp_ret ?_
  try simp only [Exit.then, Exit.inBlock]
  exact bodyPost_ret (v := .bool true) (by simp [results, Tryz.results6, go_sem]) rfl ⟨rfl, HF.out.1⟩

set_option maxRecDepth 100000 in
set_option maxHeartbeats 8000000 in
theorem exr_big1 (bbxn : Bool) (vxn : Value) (kxn : Nat) (fxn : Nat → Nat) (mxn : Nat) (ixn : Int) (vxd : Value) (kxd : Nat) (fxd : Nat → Nat) (mxd : Nat) (bbyn : Bool) (vyn : Value) (kyn : Nat) (fyn : Nat → Nat) (myn : Nat) (iyn : Int) (vyd : Value) (kyd : Nat) (fyd : Nat → Nat) (myd : Nat) (a b : Rat)  (w : World) (HWxn : Hid (Wa w vxn kxn fxn)) (HFxn : Hid (∀ i, i < kxn → fxn i < 4294967296)) (HVxn : Hid (vl fxn kxn = mxn)) (HAxn : Hid ((if bbxn then -((mxn : Nat) : Int) else ((mxn : Nat) : Int)) = ixn)) (HWxd : Hid (Wa w vxd kxd fxd)) (HFxd : Hid (∀ i, i < kxd → fxd i < 4294967296)) (HVxd : Hid (vl fxd kxd = mxd)) (HQx : Hid (mkRat ixn (mxd + 1) = a)) (HWyn : Hid (Wa w vyn kyn fyn)) (HFyn : Hid (∀ i, i < kyn → fyn i < 4294967296)) (HVyn : Hid (vl fyn kyn = myn)) (HAyn : Hid ((if bbyn then -((myn : Nat) : Int) else ((myn : Nat) : Int)) = iyn)) (HWyd : Hid (Wa w vyd kyd fyd)) (HFyd : Hid (∀ i, i < kyd → fyd i < 4294967296)) (HVyd : Hid (vl fyd kyd = myd)) (HQy : Hid (mkRat iyn (myd + 1) = b))  (hkxn : 4 < kxn) (HT : Hid (Tab w)) :
    Calls Tryz.prog 6 #[.agg #[.bool bbxn, vxn, vxd], .agg #[.bool bbyn, vyn, vyd]] w fun e w' => e = .returned (.bool true) ∧ Below w.heap.size w w' := by
  obtain ⟨ao_xn, c_xn, rfl⟩ := HWxn.out.slice
  obtain ⟨ao_xd, c_xd, rfl⟩ := HWxd.out.slice
  obtain ⟨ao_yn, c_yn, rfl⟩ := HWyn.out.slice
  obtain ⟨ao_yd, c_yd, rfl⟩ := HWyd.out.slice
  go_enter Tryz.func6, Tryz.ntmps6
  have HF := Lib.hid (hp0 w)
  refine kS fun K hK => ?_
  refine wp_region_lit ?_
  go_wp2
  refine hK.out _ _ ?_; clear hK K
  show Code.wp _ _ _ _ _
  refine fH (((HF.out).al (b := w.heap.size) (by first | rfl | simp) (by decide)).al (b := w.heap.size + 1) (by first | rfl | simp) (by decide)) fun Wx0 HG => ?_
  clear HF; have HF := HG; clear HG
  generalize w.heap.size + 1 = gx1 at *
  refine wp_seq ?_
  have hd1 : 4 < ((kxn : Int)) := ok
  have lx0 := HF.out.c 0 rfl
  refine kS fun K hK => ?_
  refine sq 24 [(true, 0), (true, 1), (true, 2), (true, 3), (true, 4), (true, 5), (true, 6), (true, 7), (true, 8), (true, 9), (true, 10), (true, 11), (true, 12), (true, 13), (true, 14), (true, 15), (true, 16), (true, 17), (true, 18), (true, 19), (true, 20), (true, 21), (true, 22), (true, 23)] fun T hT => ?_
  iterate 6 refine tk ?_
  iterate 4 refine sk ?_
  iterate 2 refine tk ?_
  iterate 5 refine sk ?_
  iterate 2 refine tk ?_
  iterate 4 refine sk ?_
  refine tk ?_
  refine nlS hT HF fun vw1 HG => ?_
  clear hT T HF lx0
  go_wp2
  refine hK.out _ _ ?_; clear hK K
  show Code.wp _ _ _ _ _
  have HF := HG; clear HG
  clear hd1
  refine wp_cond_true (by rfl) ?_
  have HB := HPb HF
  refine kS fun K hK => ?_
  refine sq 2 [(true, 0), (true, 1)] fun T hT => ?_
  refine ck Tryz.call22 (fun w' hw => works5_any _ (Lib.hid (HT.out.gr (Gr.trans HB.out hw)))) ?_
  refine tk ?_
  refine nlS hT HF fun vw2 HG => ?_
  clear hT T HF HB
  go_wp2
  refine hK.out _ _ ?_; clear hK K
  show Code.wp _ _ _ _ _
  have HF := HG; clear HG
  refine wp_ret ?_
  try simp only [Exit.then, Exit.inBlock]
  exact bodyPost_ret (v := .bool true) (by simp [results, Tryz.results6, go_sem]) rfl ⟨rfl, HF.out.1⟩

set_option maxRecDepth 100000 in
set_option maxHeartbeats 8000000 in
theorem exr_big2 (bbxn : Bool) (vxn : Value) (kxn : Nat) (fxn : Nat → Nat) (mxn : Nat) (ixn : Int) (vxd : Value) (kxd : Nat) (fxd : Nat → Nat) (mxd : Nat) (bbyn : Bool) (vyn : Value) (kyn : Nat) (fyn : Nat → Nat) (myn : Nat) (iyn : Int) (vyd : Value) (kyd : Nat) (fyd : Nat → Nat) (myd : Nat) (a b : Rat)  (w : World) (HWxn : Hid (Wa w vxn kxn fxn)) (HFxn : Hid (∀ i, i < kxn → fxn i < 4294967296)) (HVxn : Hid (vl fxn kxn = mxn)) (HAxn : Hid ((if bbxn then -((mxn : Nat) : Int) else ((mxn : Nat) : Int)) = ixn)) (HWxd : Hid (Wa w vxd kxd fxd)) (HFxd : Hid (∀ i, i < kxd → fxd i < 4294967296)) (HVxd : Hid (vl fxd kxd = mxd)) (HQx : Hid (mkRat ixn (mxd + 1) = a)) (HWyn : Hid (Wa w vyn kyn fyn)) (HFyn : Hid (∀ i, i < kyn → fyn i < 4294967296)) (HVyn : Hid (vl fyn kyn = myn)) (HAyn : Hid ((if bbyn then -((myn : Nat) : Int) else ((myn : Nat) : Int)) = iyn)) (HWyd : Hid (Wa w vyd kyd fyd)) (HFyd : Hid (∀ i, i < kyd → fyd i < 4294967296)) (HVyd : Hid (vl fyd kyd = myd)) (HQy : Hid (mkRat iyn (myd + 1) = b)) (hkxn : kxn ≤ 4) (hkxd : 4 < kxd) (HT : Hid (Tab w)) :
    Calls Tryz.prog 6 #[.agg #[.bool bbxn, vxn, vxd], .agg #[.bool bbyn, vyn, vyd]] w fun e w' => e = .returned (.bool true) ∧ Below w.heap.size w w' := by
  obtain ⟨ao_xn, c_xn, rfl⟩ := HWxn.out.slice
  obtain ⟨ao_xd, c_xd, rfl⟩ := HWxd.out.slice
  obtain ⟨ao_yn, c_yn, rfl⟩ := HWyn.out.slice
  obtain ⟨ao_yd, c_yd, rfl⟩ := HWyd.out.slice
  go_enter Tryz.func6, Tryz.ntmps6
  have HF := Lib.hid (hp0 w)
  refine kS fun K hK => ?_
  refine wp_region_lit ?_
  go_wp2
  refine hK.out _ _ ?_; clear hK K
  show Code.wp _ _ _ _ _
  refine fH (((HF.out).al (b := w.heap.size) (by first | rfl | simp) (by decide)).al (b := w.heap.size + 1) (by first | rfl | simp) (by decide)) fun Wx0 HG => ?_
  clear HF; have HF := HG; clear HG
  generalize w.heap.size + 1 = gx1 at *
  refine wp_seq ?_
  have hd1 : ¬ (4 < ((kxn : Int))) := ok
  have hd2 : 4 < ((kxd : Int)) := ok
  have lx0 := HF.out.c 0 rfl
  refine kS fun K hK => ?_
  refine sq 24 [(true, 0), (true, 1), (true, 2), (true, 3), (true, 4), (true, 5), (true, 6), (true, 7), (true, 8), (true, 9), (true, 10), (true, 11), (true, 12), (true, 13), (true, 14), (true, 15), (true, 16), (true, 17), (true, 18), (true, 19), (true, 20), (true, 21), (true, 22), (true, 23)] fun T hT => ?_
  iterate 12 refine tk ?_
  iterate 5 refine sk ?_
  iterate 2 refine tk ?_
  iterate 4 refine sk ?_
  refine tk ?_
  refine nlS hT HF fun vw1 HG => ?_
  clear hT T HF lx0
  go_wp2
  refine hK.out _ _ ?_; clear hK K
  show Code.wp _ _ _ _ _
  have HF := HG; clear HG
  clear hd1 hd2
  refine wp_cond_true (by rfl) ?_
  have HB := HPb HF
  refine kS fun K hK => ?_
  refine sq 2 [(true, 0), (true, 1)] fun T hT => ?_
  refine ck Tryz.call22 (fun w' hw => works5_any _ (Lib.hid (HT.out.gr (Gr.trans HB.out hw)))) ?_
  refine tk ?_
  refine nlS hT HF fun vw2 HG => ?_
  clear hT T HF HB
  go_wp2
  refine hK.out _ _ ?_; clear hK K
  show Code.wp _ _ _ _ _
  have HF := HG; clear HG
  refine wp_ret ?_
  try simp only [Exit.then, Exit.inBlock]
  exact bodyPost_ret (v := .bool true) (by simp [results, Tryz.results6, go_sem]) rfl ⟨rfl, HF.out.1⟩

set_option maxRecDepth 100000 in
set_option maxHeartbeats 8000000 in
theorem exr_big3 (bbxn : Bool) (vxn : Value) (kxn : Nat) (fxn : Nat → Nat) (mxn : Nat) (ixn : Int) (vxd : Value) (kxd : Nat) (fxd : Nat → Nat) (mxd : Nat) (bbyn : Bool) (vyn : Value) (kyn : Nat) (fyn : Nat → Nat) (myn : Nat) (iyn : Int) (vyd : Value) (kyd : Nat) (fyd : Nat → Nat) (myd : Nat) (a b : Rat)  (w : World) (HWxn : Hid (Wa w vxn kxn fxn)) (HFxn : Hid (∀ i, i < kxn → fxn i < 4294967296)) (HVxn : Hid (vl fxn kxn = mxn)) (HAxn : Hid ((if bbxn then -((mxn : Nat) : Int) else ((mxn : Nat) : Int)) = ixn)) (HWxd : Hid (Wa w vxd kxd fxd)) (HFxd : Hid (∀ i, i < kxd → fxd i < 4294967296)) (HVxd : Hid (vl fxd kxd = mxd)) (HQx : Hid (mkRat ixn (mxd + 1) = a)) (HWyn : Hid (Wa w vyn kyn fyn)) (HFyn : Hid (∀ i, i < kyn → fyn i < 4294967296)) (HVyn : Hid (vl fyn kyn = myn)) (HAyn : Hid ((if bbyn then -((myn : Nat) : Int) else ((myn : Nat) : Int)) = iyn)) (HWyd : Hid (Wa w vyd kyd fyd)) (HFyd : Hid (∀ i, i < kyd → fyd i < 4294967296)) (HVyd : Hid (vl fyd kyd = myd)) (HQy : Hid (mkRat iyn (myd + 1) = b)) (hkxn : kxn ≤ 4) (hkxd : kxd ≤ 4) (hkyn : 4 < kyn) (HT : Hid (Tab w)) :
    Calls Tryz.prog 6 #[.agg #[.bool bbxn, vxn, vxd], .agg #[.bool bbyn, vyn, vyd]] w fun e w' => e = .returned (.bool true) ∧ Below w.heap.size w w' := by
  obtain ⟨ao_xn, c_xn, rfl⟩ := HWxn.out.slice
  obtain ⟨ao_xd, c_xd, rfl⟩ := HWxd.out.slice
  obtain ⟨ao_yn, c_yn, rfl⟩ := HWyn.out.slice
  obtain ⟨ao_yd, c_yd, rfl⟩ := HWyd.out.slice
  go_enter Tryz.func6, Tryz.ntmps6
  have HF := Lib.hid (hp0 w)
  refine kS fun K hK => ?_
  refine wp_region_lit ?_
  go_wp2
  refine hK.out _ _ ?_; clear hK K
  show Code.wp _ _ _ _ _
  refine fH (((HF.out).al (b := w.heap.size) (by first | rfl | simp) (by decide)).al (b := w.heap.size + 1) (by first | rfl | simp) (by decide)) fun Wx0 HG => ?_
  clear HF; have HF := HG; clear HG
  generalize w.heap.size + 1 = gx1 at *
  refine wp_seq ?_
  have hd1 : ¬ (4 < ((kxn : Int))) := ok
  have hd2 : ¬ (4 < ((kxd : Int))) := ok
  have hd3 : 4 < ((kyn : Int)) := ok
  have lx0 := HF.out.c 0 rfl
  have lx1 := HF.out.c 1 rfl
  refine kS fun K hK => ?_
  refine sq 24 [(true, 0), (true, 1), (true, 2), (true, 3), (true, 4), (true, 5), (true, 6), (true, 7), (true, 8), (true, 9), (true, 10), (true, 11), (true, 12), (true, 13), (true, 14), (true, 15), (true, 16), (true, 17), (true, 18), (true, 19), (true, 20), (true, 21), (true, 22), (true, 23)] fun T hT => ?_
  iterate 19 refine tk ?_
  iterate 4 refine sk ?_
  refine tk ?_
  refine nlS hT HF fun vw1 HG => ?_
  clear hT T HF lx0 lx1
  go_wp2
  refine hK.out _ _ ?_; clear hK K
  show Code.wp _ _ _ _ _
  have HF := HG; clear HG
  clear hd1 hd2 hd3
  refine wp_cond_true (by rfl) ?_
  have HB := HPb HF
  refine kS fun K hK => ?_
  refine sq 2 [(true, 0), (true, 1)] fun T hT => ?_
  refine ck Tryz.call22 (fun w' hw => works5_any _ (Lib.hid (HT.out.gr (Gr.trans HB.out hw)))) ?_
  refine tk ?_
  refine nlS hT HF fun vw2 HG => ?_
  clear hT T HF HB
  go_wp2
  refine hK.out _ _ ?_; clear hK K
  show Code.wp _ _ _ _ _
  have HF := HG; clear HG
  refine wp_ret ?_
  try simp only [Exit.then, Exit.inBlock]
  exact bodyPost_ret (v := .bool true) (by simp [results, Tryz.results6, go_sem]) rfl ⟨rfl, HF.out.1⟩

set_option maxRecDepth 100000 in
set_option maxHeartbeats 8000000 in
theorem exr_big4 (bbxn : Bool) (vxn : Value) (kxn : Nat) (fxn : Nat → Nat) (mxn : Nat) (ixn : Int) (vxd : Value) (kxd : Nat) (fxd : Nat → Nat) (mxd : Nat) (bbyn : Bool) (vyn : Value) (kyn : Nat) (fyn : Nat → Nat) (myn : Nat) (iyn : Int) (vyd : Value) (kyd : Nat) (fyd : Nat → Nat) (myd : Nat) (a b : Rat)  (w : World) (HWxn : Hid (Wa w vxn kxn fxn)) (HFxn : Hid (∀ i, i < kxn → fxn i < 4294967296)) (HVxn : Hid (vl fxn kxn = mxn)) (HAxn : Hid ((if bbxn then -((mxn : Nat) : Int) else ((mxn : Nat) : Int)) = ixn)) (HWxd : Hid (Wa w vxd kxd fxd)) (HFxd : Hid (∀ i, i < kxd → fxd i < 4294967296)) (HVxd : Hid (vl fxd kxd = mxd)) (HQx : Hid (mkRat ixn (mxd + 1) = a)) (HWyn : Hid (Wa w vyn kyn fyn)) (HFyn : Hid (∀ i, i < kyn → fyn i < 4294967296)) (HVyn : Hid (vl fyn kyn = myn)) (HAyn : Hid ((if bbyn then -((myn : Nat) : Int) else ((myn : Nat) : Int)) = iyn)) (HWyd : Hid (Wa w vyd kyd fyd)) (HFyd : Hid (∀ i, i < kyd → fyd i < 4294967296)) (HVyd : Hid (vl fyd kyd = myd)) (HQy : Hid (mkRat iyn (myd + 1) = b)) (hkxn : kxn ≤ 4) (hkxd : kxd ≤ 4) (hkyn : kyn ≤ 4) (hkyd : 4 < kyd) (HT : Hid (Tab w)) :
    Calls Tryz.prog 6 #[.agg #[.bool bbxn, vxn, vxd], .agg #[.bool bbyn, vyn, vyd]] w fun e w' => e = .returned (.bool true) ∧ Below w.heap.size w w' := by
  obtain ⟨ao_xn, c_xn, rfl⟩ := HWxn.out.slice
  obtain ⟨ao_xd, c_xd, rfl⟩ := HWxd.out.slice
  obtain ⟨ao_yn, c_yn, rfl⟩ := HWyn.out.slice
  obtain ⟨ao_yd, c_yd, rfl⟩ := HWyd.out.slice
  go_enter Tryz.func6, Tryz.ntmps6
  have HF := Lib.hid (hp0 w)
  refine kS fun K hK => ?_
  refine wp_region_lit ?_
  go_wp2
  refine hK.out _ _ ?_; clear hK K
  show Code.wp _ _ _ _ _
  refine fH (((HF.out).al (b := w.heap.size) (by first | rfl | simp) (by decide)).al (b := w.heap.size + 1) (by first | rfl | simp) (by decide)) fun Wx0 HG => ?_
  clear HF; have HF := HG; clear HG
  generalize w.heap.size + 1 = gx1 at *
  refine wp_seq ?_
  have hd1 : ¬ (4 < ((kxn : Int))) := ok
  have hd2 : ¬ (4 < ((kxd : Int))) := ok
  have hd3 : ¬ (4 < ((kyn : Int))) := ok
  have hd4 : 4 < ((kyd : Int)) := ok
  have lx0 := HF.out.c 0 rfl
  have lx1 := HF.out.c 1 rfl
  refine kS fun K hK => ?_
  refine sq 24 [(true, 0), (true, 1), (true, 2), (true, 3), (true, 4), (true, 5), (true, 6), (true, 7), (true, 8), (true, 9), (true, 10), (true, 11), (true, 12), (true, 13), (true, 14), (true, 15), (true, 16), (true, 17), (true, 18), (true, 19), (true, 20), (true, 21), (true, 22), (true, 23)] fun T hT => ?_
  iterate 24 refine tk ?_
  refine nlS hT HF fun vw1 HG => ?_
  clear hT T HF lx0 lx1
  go_wp2
  refine hK.out _ _ ?_; clear hK K
  show Code.wp _ _ _ _ _
  have HF := HG; clear HG
  clear hd1 hd2 hd3 hd4
  refine wp_cond_true (by rfl) ?_
  have HB := HPb HF
  refine kS fun K hK => ?_
  refine sq 2 [(true, 0), (true, 1)] fun T hT => ?_
  refine ck Tryz.call22 (fun w' hw => works5_any _ (Lib.hid (HT.out.gr (Gr.trans HB.out hw)))) ?_
  refine tk ?_
  refine nlS hT HF fun vw2 HG => ?_
  clear hT T HF HB
  go_wp2
  refine hK.out _ _ ?_; clear hK K
  show Code.wp _ _ _ _ _
  have HF := HG; clear HG
  refine wp_ret ?_
  try simp only [Exit.then, Exit.inBlock]
  exact bodyPost_ret (v := .bool true) (by simp [results, Tryz.results6, go_sem]) rfl ⟨rfl, HF.out.1⟩

theorem exr_law (bbxn : Bool) (vxn : Value) (kxn : Nat) (fxn : Nat → Nat) (vxd : Value) (kxd : Nat) (fxd : Nat → Nat) (bbyn : Bool) (vyn : Value) (kyn : Nat) (fyn : Nat → Nat) (vyd : Value) (kyd : Nat) (fyd : Nat → Nat)  (w : World) (HWxn : Hid (Wa w vxn kxn fxn)) (HFxn : Hid (∀ i, i < kxn → fxn i < 4294967296)) (HWxd : Hid (Wa w vxd kxd fxd)) (HFxd : Hid (∀ i, i < kxd → fxd i < 4294967296)) (HWyn : Hid (Wa w vyn kyn fyn)) (HFyn : Hid (∀ i, i < kyn → fyn i < 4294967296)) (HWyd : Hid (Wa w vyd kyd fyd)) (HFyd : Hid (∀ i, i < kyd → fyd i < 4294967296))  (HT : Hid (Tab w)) :
    Calls Tryz.prog 6 #[.agg #[.bool bbxn, vxn, vxd], .agg #[.bool bbyn, vyn, vyd]] w fun e w' => e = .returned (.bool true) ∧ Below w.heap.size w w' := by
  obtain ⟨ixn, HAxn⟩ : ∃ z, Hid ((if bbxn then -((vl fxn kxn : Nat) : Int) else ((vl fxn kxn : Nat) : Int)) = z) := ⟨_, Lib.hid rfl⟩
  obtain ⟨a, HQx⟩ : ∃ z, Hid (mkRat ixn (vl fxd kxd + 1) = z) := ⟨_, Lib.hid rfl⟩
  obtain ⟨iyn, HAyn⟩ : ∃ z, Hid ((if bbyn then -((vl fyn kyn : Nat) : Int) else ((vl fyn kyn : Nat) : Int)) = z) := ⟨_, Lib.hid rfl⟩
  obtain ⟨b, HQy⟩ : ∃ z, Hid (mkRat iyn (vl fyd kyd + 1) = z) := ⟨_, Lib.hid rfl⟩
  by_cases hkxn : kxn ≤ 4
  · skip
    by_cases hkxd : kxd ≤ 4
    · skip
      by_cases hkyn : kyn ≤ 4
      · skip
        by_cases hkyd : kyd ≤ 4
        · skip
          have hsa : sz a ≤ 5 := by
            rw [← HQx.out]
            have hm1 : wl (vl fxn kxn) ≤ 4 := by have := wl_le.2 (vl_lt HFxn.out); omega
            exact sz_great (by rw [zsize HAxn.out]; exact hm1) (by have := wl_le.2 (vl_lt HFxd.out); omega)
          have hsb : sz b ≤ 5 := by
            rw [← HQy.out]
            have hm1 : wl (vl fyn kyn) ≤ 4 := by have := wl_le.2 (vl_lt HFyn.out); omega
            exact sz_great (by rw [zsize HAyn.out]; exact hm1) (by have := wl_le.2 (vl_lt HFyd.out); omega)
          by_cases ha : a = 0
          · subst ha
            by_cases hb : exq b * exq b = b
            · exact exr_zs bbxn vxn kxn fxn _ ixn vxd kxd fxd _ bbyn vyn kyn fyn _ iyn vyd kyd fyd _ b _ w HWxn HFxn (Lib.hid rfl) HAxn HWxd HFxd (Lib.hid rfl) HQx HWyn HFyn (Lib.hid rfl) HAyn HWyd HFyd (Lib.hid rfl) HQy hkxn hkxd hkyn hkyd (Lib.hid rfl) (Lib.hid hb) (Lib.hid (exq_nn b)) (sz_exq hsb) HT
            · exact exr_zn bbxn vxn kxn fxn _ ixn vxd kxd fxd _ bbyn vyn kyn fyn _ iyn vyd kyd fyd _ b w HWxn HFxn (Lib.hid rfl) HAxn HWxd HFxd (Lib.hid rfl) HQx HWyn HFyn (Lib.hid rfl) HAyn HWyd HFyd (Lib.hid rfl) HQy hkxn hkxd hkyn hkyd (Lib.hid hb) HT
          · have hsr : sz (qabs a) ≤ 5 := by rw [sz_qabs]; exact hsa
            have hc := sgQ_np (rlo_abs a 64)
            by_cases hb : exq b * exq b = b
            · exact exr_as bbxn vxn kxn fxn _ ixn vxd kxd fxd _ bbyn vyn kyn fyn _ iyn vyd kyd fyd _ a b _ _ _ _ _ _ w HWxn HFxn (Lib.hid rfl) HAxn HWxd HFxd (Lib.hid rfl) HQx HWyn HFyn (Lib.hid rfl) HAyn HWyd HFyd (Lib.hid rfl) HQy hkxn hkxd hkyn hkyd (Lib.hid rfl) hsr (Lib.hid rfl) (Lib.hid rfl) hc (Lib.hid rfl) (sgQ_ne ha) (Lib.hid rfl) (Lib.hid hb) (Lib.hid (exq_nn b)) (sz_exq hsb) (Lib.hid (by rw [← exq_mul (exq_nn b), hb])) (Lib.hid (by rw [exq_mulsq, hb])) (Lib.hid rfl) (sz_exm (b := b) (sz_exq hsb) hsa) HT
            · exact exr_an bbxn vxn kxn fxn _ ixn vxd kxd fxd _ bbyn vyn kyn fyn _ iyn vyd kyd fyd _ a b _ _ _ _ w HWxn HFxn (Lib.hid rfl) HAxn HWxd HFxd (Lib.hid rfl) HQx HWyn HFyn (Lib.hid rfl) HAyn HWyd HFyd (Lib.hid rfl) HQy hkxn hkxd hkyn hkyd (Lib.hid rfl) hsr (Lib.hid rfl) (Lib.hid rfl) hc (Lib.hid rfl) (sgQ_ne ha) (Lib.hid hb) (Lib.hid (exq_not ha hb)) HT
        · exact exr_big4 bbxn vxn kxn fxn _ ixn vxd kxd fxd _ bbyn vyn kyn fyn _ iyn vyd kyd fyd _ a b  w HWxn HFxn (Lib.hid rfl) HAxn HWxd HFxd (Lib.hid rfl) HQx HWyn HFyn (Lib.hid rfl) HAyn HWyd HFyd (Lib.hid rfl) HQy  hkxn hkxd hkyn (by omega) HT
      · exact exr_big3 bbxn vxn kxn fxn _ ixn vxd kxd fxd _ bbyn vyn kyn fyn _ iyn vyd kyd fyd _ a b  w HWxn HFxn (Lib.hid rfl) HAxn HWxd HFxd (Lib.hid rfl) HQx HWyn HFyn (Lib.hid rfl) HAyn HWyd HFyd (Lib.hid rfl) HQy  hkxn hkxd (by omega) HT
    · exact exr_big2 bbxn vxn kxn fxn _ ixn vxd kxd fxd _ bbyn vyn kyn fyn _ iyn vyd kyd fyd _ a b  w HWxn HFxn (Lib.hid rfl) HAxn HWxd HFxd (Lib.hid rfl) HQx HWyn HFyn (Lib.hid rfl) HAyn HWyd HFyd (Lib.hid rfl) HQy  hkxn (by omega) HT
  · exact exr_big1 bbxn vxn kxn fxn _ ixn vxd kxd fxd _ bbyn vyn kyn fyn _ iyn vyd kyd fyd _ a b  w HWxn HFxn (Lib.hid rfl) HAxn HWxd HFxd (Lib.hid rfl) HQx HWyn HFyn (Lib.hid rfl) HAyn HWyd HFyd (Lib.hid rfl) HQy   (by omega) HT

end Go.Proofs.YtaflakcemiilaaaGreatDoor
