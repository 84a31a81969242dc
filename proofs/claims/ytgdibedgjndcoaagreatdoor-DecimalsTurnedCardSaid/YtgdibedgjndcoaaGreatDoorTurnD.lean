
/- DecimalsTurned: the law's walk. -/
import Derived.Test.YtgdibedgjndcoaaGreatDoorDecW
import Derived.Test.YtgdibedgjndcoaaGreatDoorSgnP
import Derived.Test.YtgdibedgjndcoaaGreatDoorPlanQ
namespace Go.Proofs.YtgdibedgjndcoaaGreatDoor
open Go.RowKit
set_option linter.unusedSimpArgs false
set_option linter.unusedVariables false
attribute [local go_sem ↓] Go.wp_at_zero Go.wp_at_succ
attribute [local go_sem ↓] eq_nat eq_nat_zero eq_int eq_frac eq_frac_zero
attribute [local go_sem] Instr.field asAgg
set_option maxRecDepth 100000 in
set_option maxHeartbeats 16000000 in
theorem dturn_s (bbxn : Bool) (vxn : Value) (kxn : Nat) (fxn : Nat → Nat) (mxn : Nat) (ixn : Int) (vxd : Value) (kxd : Nat) (fxd : Nat → Nat) (mxd : Nat) (bbyn : Bool) (vyn : Value) (kyn : Nat) (fyn : Nat → Nat) (myn : Nat) (iyn : Int) (vyd : Value) (kyd : Nat) (fyd : Nat → Nat) (myd : Nat) (a b : Rat) (m n : Int) (r t p q : Nat) (c0 c1 c2 : Int) (w : World) (HWxn : Hid (Wa w vxn kxn fxn)) (HFxn : Hid (∀ i, i < kxn → fxn i < 4294967296)) (HVxn : Hid (vl fxn kxn = mxn)) (HAxn : Hid ((if bbxn then -((mxn : Nat) : Int) else ((mxn : Nat) : Int)) = ixn)) (HWxd : Hid (Wa w vxd kxd fxd)) (HFxd : Hid (∀ i, i < kxd → fxd i < 4294967296)) (HVxd : Hid (vl fxd kxd = mxd)) (HQx : Hid (mkRat ixn (mxd + 1) = a)) (HWyn : Hid (Wa w vyn kyn fyn)) (HFyn : Hid (∀ i, i < kyn → fyn i < 4294967296)) (HVyn : Hid (vl fyn kyn = myn)) (HAyn : Hid ((if bbyn then -((myn : Nat) : Int) else ((myn : Nat) : Int)) = iyn)) (HWyd : Hid (Wa w vyd kyd fyd)) (HFyd : Hid (∀ i, i < kyd → fyd i < 4294967296)) (HVyd : Hid (vl fyd kyd = myd)) (HQy : Hid (mkRat iyn (myd + 1) = b)) (hkxn : kxn ≤ 4) (hkxd : kxd ≤ 4) (hkyn : kyn ≤ 4) (hkyd : kyd ≤ 4) (hm1 : 0 ≤ m) (hm2 : m ≤ 255) (hn1 : 0 ≤ n) (hn2 : n ≤ 255) (HMr : Hid (Int.tmod m 101 = (r : Int))) (HMt : Hid (Int.tmod n 101 = (t : Int))) (hmin : min (r : Int) (t : Int) = (p : Int)) (hmax : max (r : Int) (t : Int) = (q : Int)) (hpq : p ≤ q) (hq : q ≤ 100) (HC0 : Hid (sgQ (a - b) = c0)) (hc0 : 0 < c0) (HAB : Hid (b ≤ a)) (HC1 : Hid (sgQ (rdd 1 b p - rdd 1 b q) = c1)) (hc1 : ¬ 0 < c1) (HC2 : Hid (sgQ (rdd 2 b q - rdd 2 b p) = c2)) (hc2 : ¬ 0 < c2) (HCW : Hid (∀ w : Int, ¬ 0 < sgQ (rdd w b p - rdd w a p))) (HT : Hid (Tab w)) :
    Calls Tryz.prog 10 #[.agg #[.bool bbxn, vxn, vxd], .agg #[.bool bbyn, vyn, vyd], .int .u8 (m), .int .u8 (n)] w fun e w' => e = .returned (.bool true) ∧ Below w.heap.size w w' := by
  obtain ⟨ao_xn, c_xn, rfl⟩ := HWxn.out.slice
  obtain ⟨ao_xd, c_xd, rfl⟩ := HWxd.out.slice
  have hm_xn : wl mxn ≤ 4 := by rw [← HVxn.out]; have := wl_le.2 (vl_lt HFxn.out); omega
  have hm_xd : wl mxd ≤ 4 := by rw [← HVxd.out]; have := wl_le.2 (vl_lt HFxd.out); omega
  have hi_x : wl (Int.natAbs ixn) ≤ 4 := by rw [zsize HAxn.out]; exact hm_xn
  have hs_x : sz a ≤ 5 := by rw [← HQx.out]; exact sz_great hi_x hm_xd
  have hr_x : rz a ≤ 15 := by rw [← HQx.out]; exact rz_great hi_x hm_xd (by decide)
  obtain ⟨ao_yn, c_yn, rfl⟩ := HWyn.out.slice
  obtain ⟨ao_yd, c_yd, rfl⟩ := HWyd.out.slice
  have hm_yn : wl myn ≤ 4 := by rw [← HVyn.out]; have := wl_le.2 (vl_lt HFyn.out); omega
  have hm_yd : wl myd ≤ 4 := by rw [← HVyd.out]; have := wl_le.2 (vl_lt HFyd.out); omega
  have hi_y : wl (Int.natAbs iyn) ≤ 4 := by rw [zsize HAyn.out]; exact hm_yn
  have hs_y : sz b ≤ 5 := by rw [← HQy.out]; exact sz_great hi_y hm_yd
  have hr_y : rz b ≤ 15 := by rw [← HQy.out]; exact rz_great hi_y hm_yd (by decide)
  have hwm : IntKind.i64.wrap m = m := by rw [IntKind.wrap_i64]; omega
  have hwn : IntKind.i64.wrap n = n := by rw [IntKind.wrap_i64]; omega
  go_enter Tryz.func10, Tryz.ntmps10
  have HF := Lib.hid (hp0 w)
  refine kS fun K hK => ?_
  refine wp_region_lit ?_
  go_wp2
  refine hK.out _ _ ?_; clear hK K
  show Code.wp _ _ _ _ _
  refine fH (((HF.out).al (b := w.heap.size) (by first | rfl | simp) (by decide)).al (b := w.heap.size + 1) (by first | rfl | simp) (by decide)) fun Wx0 HG => ?_
  clear HF; have HF := HG; clear HG
  generalize w.heap.size + 1 = gx1 at *
  refine wp_seq ?_
  have hd1 : ¬ (4 < ((kxn : Int))) := by first | exact ok | exact rdd_neg1 _ _ | exact rdd_neg2 _ _ | exact rdd_neg3 _ _ | exact (rdd_neg1 _ _).symm | exact (rdd_neg2 _ _).symm | exact (rdd_neg3 _ _).symm
  have hd2 : ¬ (4 < ((kxd : Int))) := by first | exact ok | exact rdd_neg1 _ _ | exact rdd_neg2 _ _ | exact rdd_neg3 _ _ | exact (rdd_neg1 _ _).symm | exact (rdd_neg2 _ _).symm | exact (rdd_neg3 _ _).symm
  have hd3 : ¬ (4 < ((kyn : Int))) := by first | exact ok | exact rdd_neg1 _ _ | exact rdd_neg2 _ _ | exact rdd_neg3 _ _ | exact (rdd_neg1 _ _).symm | exact (rdd_neg2 _ _).symm | exact (rdd_neg3 _ _).symm
  have hd4 : ¬ (4 < ((kyd : Int))) := by first | exact ok | exact rdd_neg1 _ _ | exact rdd_neg2 _ _ | exact rdd_neg3 _ _ | exact (rdd_neg1 _ _).symm | exact (rdd_neg2 _ _).symm | exact (rdd_neg3 _ _).symm
  have lx0 := HF.out.c 0 rfl
  have lx1 := HF.out.c 1 rfl
  refine kS fun K hK => ?_
  refine sq 24 [(true, 0), (true, 1), (true, 2), (true, 3), (true, 4), (true, 5), (true, 6), (true, 7), (true, 8), (true, 9), (true, 10), (true, 11), (true, 12), (true, 13), (true, 14), (true, 15), (true, 16), (true, 17), (true, 18), (true, 19), (true, 20), (true, 21), (true, 22), (true, 23)] fun T hT => ?_
  iterate 24 refine tk ?_
  refine nlS hT HF fun vw1 HG => ?_
  clear hT T HF lx0 lx1
  go_wp2
  refine hK.out _ _ ?_; clear hK K
  show Code.wp _ _ _ _ _
  have HF := HG; clear HG
  clear hd1 hd2 hd3 hd4
  refine wp_cond_false (by rfl) ?_
  refine wp_skip ?_
  show Code.wp _ _ _ _ _
  have HB := HPb HF
  have lx0 := HF.out.c 0 rfl
  have lx1 := HF.out.c 1 rfl
  refine kS fun K hK => ?_
  refine wp_region_plan 6 [4, 5] [] (fun i => if i = 4 then 9 else 10) (fun i => if i = 4 then .cells #[.int .u64 0, .string ⟨#[]⟩, .bool false, .int .u64 0, .string ⟨#[]⟩] 36 else .cells #[.int .u64 0, .string ⟨#[]⟩, .bool false, .int .u64 0, .string ⟨#[]⟩] 36) [(true, 0), (true, 2), (true, 1), (true, 3)] (by kernel_rfl) (by kernel_rfl) (by intro i hi; simp only [List.mem_cons, List.not_mem_nil, or_false] at hi; rcases hi with rfl | rfl <;> exact ⟨_, rfl, rfl, rfl, by simp, fun ρ w => by kernel_rfl⟩) (fun i hi => by cases hi) (fun _ _ _ _ _ h => h) (fun T hT => ?_)
  iterate 2 refine tk ?_
  refine ck Tryz.call37 (fun w' hw => gof_any bbxn kxn fxn mxn ixn kxd fxd mxd a ao_xn c_xn ao_xd c_xd w' (Lib.hid (HWxn.out.gr (Gr.trans HB.out hw))) HFxn HVxn HAxn (Lib.hid (HWxd.out.gr (Gr.trans HB.out hw))) HFxd HVxd HQx om om om om) ?_
  refine ck Tryz.call37 (fun w' hw => gof_any bbyn kyn fyn myn iyn kyd fyd myd b ao_yn c_yn ao_yd c_yd w' (Lib.hid (HWyn.out.gr (Gr.trans HB.out hw))) HFyn HVyn HAyn (Lib.hid (HWyd.out.gr (Gr.trans HB.out hw))) HFyd HVyd HQy om om om om) ?_
  refine wpPlan_nil (hT.out _ _ ?_)
  intro G vw2 hg hf
  simp only [puts, Act.put, lA, lB, lC, lD, lE, ↓reduceIte, Nat.reduceEqDiff]
  have HG := Lib.hid (HF.out.fr hg hf (zs := [(#[.int .u64 0, .string ⟨#[]⟩, .bool false, .int .u64 0, .string ⟨#[]⟩], 36), (#[.int .u64 0, .string ⟨#[]⟩, .bool false, .int .u64 0, .string ⟨#[]⟩], 36)]) rfl (by decide) (by decide))
  simp only [List.zip_cons_cons, List.zip_nil_right, List.map_cons, List.map_nil, lF, lG] at HG
  clear hT T HF hg hf lx0 lx1 HB
  generalize G 4 = gx3 at *
  generalize G 5 = gx4 at *
  have lx3 := HG.out.c 2 rfl; have fx3 := HG.out.f 2 rfl
  have lx4 := HG.out.c 3 rfl; have fx4 := HG.out.f 3 rfl
  have r0 := Gr.refl vw2
  obtain ⟨d3_4, d4_3⟩ := HG.out.ne 2 3 rfl rfl (by decide)
  go_wp2
  refine hK.out _ _ ?_; clear hK K
  show Code.wp _ _ _ _ _
  clear r0 lx3 fx3 lx4 fx4 d3_4 d4_3
  refine fH (((((((((HG.out).put2 2 0 rfl).put2 2 2 rfl).put 2 4 _ rfl).put2 3 0 rfl).put2 3 2 rfl).put 3 4 _ rfl).er 1).er 0) fun Wx3 HF => ?_
  clear HG
  refine wp_seq ?_
  have hcc0 : 0 < c0 := by omega
  have lx3 := HF.out.c 0 rfl
  have lx4 := HF.out.c 1 rfl
  refine kS fun K hK => ?_
  refine sq 4 [(true, 0), (true, 1), (true, 2), (true, 3)] fun T hT => ?_
  iterate 2 refine tk ?_
  refine ck Tryz.call26 (fun w' hw => fcmp_any (a) (b) (c0) _ (HC0.out) om om) ?_
  refine tk ?_
  refine nlS hT HF fun vw3 HG => ?_
  clear hT T HF lx3 lx4
  go_wp2
  refine hK.out _ _ ?_; clear hK K
  show Code.wp _ _ _ _ _
  have HF := HG; clear HG
  clear hcc0
  refine wp_cond_true (by rfl) ?_
  have lx3 := HF.out.c 0 rfl
  have lx4 := HF.out.c 1 rfl
  refine kL fun K hK => ?_
  refine sq 2 [(true, 0), (true, 1)] fun T hT => ?_
  iterate 2 refine tk ?_
  refine nlS hT HF fun vw4 HG => ?_
  clear hT T HF lx3 lx4
  have lx3 := HG.out.c 0 rfl; have fx3 := HG.out.f 0 rfl
  have lx4 := HG.out.c 1 rfl; have fx4 := HG.out.f 1 rfl
  have r0 := Gr.refl vw4
  obtain ⟨d3_4, d4_3⟩ := HG.out.ne 0 1 rfl rfl (by decide)
  go_wp2
  refine hK.out _ _ ?_; clear hK K
  show Code.wp _ _ _ _ _
  clear r0 lx3 fx3 lx4 fx4 d3_4 d4_3
  refine fH (((((((HG.out).put2 0 0 rfl).put2 0 2 rfl).put 0 4 _ rfl).put2 1 0 rfl).put2 1 2 rfl).put 1 4 _ rfl) fun Wx5 HF => ?_
  clear HG
  have hrmr_2 : Int.tmod m 101 = (r : Int) := HMr.out
  have hrmt_5 : Int.tmod n 101 = (t : Int) := HMt.out
  have hrmr_9 : Int.tmod m 101 = (r : Int) := HMr.out
  have hrmt_12 : Int.tmod n 101 = (t : Int) := HMt.out
  refine kS fun K hK => ?_
  refine sq 16 [(true, 0), (true, 1), (true, 2), (true, 3), (true, 4), (true, 5), (true, 6), (true, 7), (true, 8), (true, 9), (true, 10), (true, 11), (true, 12), (true, 13), (true, 14), (true, 15)] fun T hT => ?_
  iterate 16 refine tk ?_
  refine nlS hT HF fun vw5 HG => ?_
  clear hT T HF
  go_wp2
  refine hK.out _ _ ?_; clear hK K
  show Code.wp _ _ _ _ _
  have HF := HG; clear HG
  clear hrmr_2 hrmt_5 hrmr_9 hrmt_12
  obtain ⟨u1, HZ1⟩ : ∃ z, Hid (rdd 1 (b) p = z) := ⟨_, Lib.hid rfl⟩
  have su1 : sz (u1) ≤ 18 := by rw [← HZ1.out]; exact sz_rdd (by omega) om
  obtain ⟨u2, HZ2⟩ : ∃ z, Hid (rdd 2 (b) p = z) := ⟨_, Lib.hid rfl⟩
  have su2 : sz (u2) ≤ 18 := by rw [← HZ2.out]; exact sz_rdd (by omega) om
  have lx3 := HF.out.c 0 rfl
  refine kS fun K hK => ?_
  refine sq 7 [(true, 0), (true, 1), (true, 2), (true, 3), (true, 4), (true, 5), (true, 6)] fun T hT => ?_
  iterate 2 refine tk ?_
  refine ck Tryz.call51 (fun w' hw => dbtw_any (b) (u1) (u2) p _ (Lib.hid HZ1.out) (Lib.hid HZ2.out) (by omega) om) ?_
  iterate 4 refine tk ?_
  refine nlS hT HF fun vw6 HG => ?_
  clear hT T HF lx3
  go_wp2
  refine hK.out _ _ ?_; clear hK K
  show Code.wp _ _ _ _ _
  refine fH (((HG.out).al (b := vw6.heap.size) (by first | rfl | simp) (by decide)).al (b := vw6.heap.size + 1) (by first | rfl | simp) (by decide)) fun Wx7 HF => ?_
  clear HG
  generalize vw6.heap.size + 1 = gx6 at *
  generalize vw6.heap.size = gx5 at *
  obtain ⟨u3, HZ3⟩ : ∃ z, Hid (-(b) = z) := ⟨_, Lib.hid rfl⟩
  have su3 : sz (u3) ≤ 5 := by rw [← HZ3.out]; rw [sz_neg]; omega
  obtain ⟨u4, HZ4⟩ : ∃ z, Hid (rdd 1 (u3) p = z) := ⟨_, Lib.hid rfl⟩
  have su4 : sz (u4) ≤ 18 := by rw [← HZ4.out]; exact sz_rdd (by omega) om
  obtain ⟨u5, HZ5⟩ : ∃ z, Hid (rdd 2 (u3) p = z) := ⟨_, Lib.hid rfl⟩
  have su5 : sz (u5) ≤ 18 := by rw [← HZ5.out]; exact sz_rdd (by omega) om
  have lx3 := HF.out.c 0 rfl
  refine kS fun K hK => ?_
  refine sq 8 [(true, 0), (true, 1), (true, 2), (true, 3), (true, 4), (true, 5), (true, 6), (true, 7)] fun T hT => ?_
  refine tk ?_
  refine ck Tryz.call52 (fun w' hw => fneg_any (b) (u3) _ HZ3.out) ?_
  refine tk ?_
  refine ck Tryz.call51 (fun w' hw => dbtw_any (u3) (u4) (u5) p _ (Lib.hid HZ4.out) (Lib.hid HZ5.out) (by omega) om) ?_
  iterate 4 refine tk ?_
  refine nlS hT HF fun vw7 HG => ?_
  clear hT T HF lx3
  go_wp2
  refine hK.out _ _ ?_; clear hK K
  show Code.wp _ _ _ _ _
  refine fH (((HG.out).al (b := vw7.heap.size) (by first | rfl | simp) (by decide)).al (b := vw7.heap.size + 1) (by first | rfl | simp) (by decide)) fun Wx8 HF => ?_
  clear HG
  generalize vw7.heap.size + 1 = gx8 at *
  generalize vw7.heap.size = gx7 at *
  obtain ⟨u6, HZ6⟩ : ∃ z, Hid (rdd 1 (b) q = z) := ⟨_, Lib.hid rfl⟩
  have su6 : sz (u6) ≤ 18 := by rw [← HZ6.out]; exact sz_rdd (by omega) om
  obtain ⟨u7, HZ7⟩ : ∃ z, Hid (rdd 2 (b) q = z) := ⟨_, Lib.hid rfl⟩
  have su7 : sz (u7) ≤ 18 := by rw [← HZ7.out]; exact sz_rdd (by omega) om
  have lx3 := HF.out.c 0 rfl
  refine kS fun K hK => ?_
  refine sq 7 [(true, 0), (true, 1), (true, 2), (true, 3), (true, 4), (true, 5), (true, 6)] fun T hT => ?_
  iterate 2 refine tk ?_
  refine ck Tryz.call51 (fun w' hw => dbtw_any (b) (u6) (u7) q _ (Lib.hid HZ6.out) (Lib.hid HZ7.out) (by omega) om) ?_
  iterate 4 refine tk ?_
  refine nlS hT HF fun vw8 HG => ?_
  clear hT T HF lx3
  go_wp2
  refine hK.out _ _ ?_; clear hK K
  show Code.wp _ _ _ _ _
  refine fH (((HG.out).al (b := vw8.heap.size) (by first | rfl | simp) (by decide)).al (b := vw8.heap.size + 1) (by first | rfl | simp) (by decide)) fun Wx9 HF => ?_
  clear HG
  generalize vw8.heap.size + 1 = gx10 at *
  generalize vw8.heap.size = gx9 at *
  obtain ⟨u8, HZ8⟩ : ∃ z, Hid (rdd (3) (b) p = z) := ⟨_, Lib.hid rfl⟩
  have su8 : sz (u8) ≤ 18 := by rw [← HZ8.out]; exact sz_rdd (by omega) om
  have lx3 := HF.out.c 0 rfl
  refine kS fun K hK => ?_
  refine sq 6 [(true, 0), (true, 1), (true, 2), (true, 3), (true, 4), (true, 5)] fun T hT => ?_
  iterate 2 refine tk ?_
  refine ck Tryz.call36 (fun w' hw => dround (3) (b) p (u8) _ HZ8.out (by omega) (by omega) (by omega) om) ?_
  iterate 3 refine tk ?_
  refine nlS hT HF fun vw9 HG => ?_
  clear hT T HF lx3
  go_wp2
  refine hK.out _ _ ?_; clear hK K
  show Code.wp _ _ _ _ _
  refine fH ((HG.out).al (b := vw9.heap.size) (by first | rfl | simp) (by decide)) fun Wx10 HF => ?_
  clear HG
  generalize vw9.heap.size = gx11 at *
  have HZ9 : Hid (-(b) = u3) := Lib.hid (by first | exact ok | exact rdd_neg1 _ _ | exact rdd_neg2 _ _ | exact rdd_neg3 _ _ | exact (rdd_neg1 _ _).symm | exact (rdd_neg2 _ _).symm | exact (rdd_neg3 _ _).symm | (simp only [← HZ8.out, ← HZ7.out, ← HZ6.out, ← HZ5.out, ← HZ4.out, ← HZ3.out, ← HZ2.out, ← HZ1.out] <;> first | exact ok | exact rdd_neg1 _ _ | exact rdd_neg2 _ _ | exact rdd_neg3 _ _ | exact (rdd_neg1 _ _).symm | exact (rdd_neg2 _ _).symm | exact (rdd_neg3 _ _).symm))
  have su9 : sz (u3) ≤ 5 := by have e := HZ9.out; first | omega | (rw [← e]; rw [sz_neg]; omega)
  obtain ⟨u10, HZ10⟩ : ∃ z, Hid (rdd (3) (u3) p = z) := ⟨_, Lib.hid rfl⟩
  have su10 : sz (u10) ≤ 18 := by rw [← HZ10.out]; exact sz_rdd (by omega) om
  have lx3 := HF.out.c 0 rfl
  refine kS fun K hK => ?_
  refine sq 7 [(true, 0), (true, 1), (true, 2), (true, 3), (true, 4), (true, 5), (true, 6)] fun T hT => ?_
  refine tk ?_
  refine ck Tryz.call52 (fun w' hw => fneg_any (b) (u3) _ HZ9.out) ?_
  refine tk ?_
  refine ck Tryz.call36 (fun w' hw => dround (3) (u3) p (u10) _ HZ10.out (by omega) (by omega) (by omega) om) ?_
  iterate 3 refine tk ?_
  refine nlS hT HF fun vw10 HG => ?_
  clear hT T HF lx3
  go_wp2
  refine hK.out _ _ ?_; clear hK K
  show Code.wp _ _ _ _ _
  refine fH ((HG.out).al (b := vw10.heap.size) (by first | rfl | simp) (by decide)) fun Wx11 HF => ?_
  clear HG
  generalize vw10.heap.size = gx12 at *
  refine wp_seq ?_
  have HZ11 : Hid (-(u2) = u4) := Lib.hid (by first | exact ok | exact rdd_neg1 _ _ | exact rdd_neg2 _ _ | exact rdd_neg3 _ _ | exact (rdd_neg1 _ _).symm | exact (rdd_neg2 _ _).symm | exact (rdd_neg3 _ _).symm | (simp only [← HZ10.out, ← HZ8.out, ← HZ7.out, ← HZ6.out, ← HZ5.out, ← HZ4.out, ← HZ3.out, ← HZ2.out, ← HZ1.out] <;> first | exact ok | exact rdd_neg1 _ _ | exact rdd_neg2 _ _ | exact rdd_neg3 _ _ | exact (rdd_neg1 _ _).symm | exact (rdd_neg2 _ _).symm | exact (rdd_neg3 _ _).symm))
  have su11 : sz (u4) ≤ 18 := by have e := HZ11.out; first | omega | (rw [← e]; rw [sz_neg]; omega)
  have HZ12 : Hid (-(u1) = u5) := Lib.hid (by first | exact ok | exact rdd_neg1 _ _ | exact rdd_neg2 _ _ | exact rdd_neg3 _ _ | exact (rdd_neg1 _ _).symm | exact (rdd_neg2 _ _).symm | exact (rdd_neg3 _ _).symm | (simp only [← HZ10.out, ← HZ8.out, ← HZ7.out, ← HZ6.out, ← HZ5.out, ← HZ4.out, ← HZ3.out, ← HZ2.out, ← HZ1.out] <;> first | exact ok | exact rdd_neg1 _ _ | exact rdd_neg2 _ _ | exact rdd_neg3 _ _ | exact (rdd_neg1 _ _).symm | exact (rdd_neg2 _ _).symm | exact (rdd_neg3 _ _).symm))
  have su12 : sz (u5) ≤ 18 := by have e := HZ12.out; first | omega | (rw [← e]; rw [sz_neg]; omega)
  have HZ13 : Hid (-(u8) = u10) := Lib.hid (by first | exact ok | exact rdd_neg1 _ _ | exact rdd_neg2 _ _ | exact rdd_neg3 _ _ | exact (rdd_neg1 _ _).symm | exact (rdd_neg2 _ _).symm | exact (rdd_neg3 _ _).symm | (simp only [← HZ10.out, ← HZ8.out, ← HZ7.out, ← HZ6.out, ← HZ5.out, ← HZ4.out, ← HZ3.out, ← HZ2.out, ← HZ1.out] <;> first | exact ok | exact rdd_neg1 _ _ | exact rdd_neg2 _ _ | exact rdd_neg3 _ _ | exact (rdd_neg1 _ _).symm | exact (rdd_neg2 _ _).symm | exact (rdd_neg3 _ _).symm))
  have su13 : sz (u10) ≤ 18 := by have e := HZ13.out; first | omega | (rw [← e]; rw [sz_neg]; omega)
  have hcc1 : ¬ 0 < c1 := by omega
  have hcc2 : ¬ 0 < c2 := by omega
  have lx5 := HF.out.c 2 rfl
  have lx6 := HF.out.c 3 rfl
  have lx7 := HF.out.c 4 rfl
  have lx8 := HF.out.c 5 rfl
  have lx9 := HF.out.c 6 rfl
  have lx10 := HF.out.c 7 rfl
  have lx11 := HF.out.c 8 rfl
  have lx12 := HF.out.c 9 rfl
  refine kS fun K hK => ?_
  refine pd 27 [(true, 0), (true, 1), (true, 2), (true, 3), (true, 4), (true, 5), (true, 6), (true, 7), (true, 8), (true, 9), (true, 10), (true, 11), (true, 12), (true, 13), (true, 14), (true, 15), (true, 16), (true, 17), (true, 18), (true, 19), (true, 20), (true, 21), (true, 22), (true, 23), (true, 24), (true, 25), (true, 26)] fun T hT => ?_
  iterate 2 refine tk ?_
  refine ck Tryz.call52 (fun w' hw => fneg_any (u2) (u4) _ HZ11.out) ?_
  iterate 4 refine tk ?_
  refine ck Tryz.call52 (fun w' hw => fneg_any (u1) (u5) _ HZ12.out) ?_
  iterate 5 refine tk ?_
  refine ck Tryz.call52 (fun w' hw => fneg_any (u8) (u10) _ HZ13.out) ?_
  iterate 5 refine tk ?_
  refine ck Tryz.call26 (fun w' hw => fcmp_any (u1) (u6) (c1) _ (by first | exact HC1.out | (simp only [← HZ10.out, ← HZ8.out, ← HZ7.out, ← HZ6.out, ← HZ5.out, ← HZ4.out, ← HZ3.out, ← HZ2.out, ← HZ1.out]; exact HC1.out)) om om) ?_
  iterate 5 refine tk ?_
  refine ck Tryz.call26 (fun w' hw => fcmp_any (u7) (u2) (c2) _ (by first | exact HC2.out | (simp only [← HZ10.out, ← HZ8.out, ← HZ7.out, ← HZ6.out, ← HZ5.out, ← HZ4.out, ← HZ3.out, ← HZ2.out, ← HZ1.out]; exact HC2.out)) om om) ?_
  refine tk ?_
  refine nlD hT HF fun vw11 HG => ?_
  clear hT T HF lx5 lx6 lx7 lx8 lx9 lx10 lx11 lx12
  go_wp2
  refine hK.out _ _ ?_; clear hK K
  show Code.wp _ _ _ _ _
  refine fH (((((((((HG.out).er 9).er 8).er 7).er 6).er 5).er 4).er 3).er 2) fun Wx12 HF => ?_
  clear HG
  clear hcc1 hcc2
  refine wp_cond_false (by rfl) ?_
  refine wp_skip ?_
  show Code.wp _ _ _ _ _
  refine wp_seq ?_
  refine kS fun K hK => ?_
  refine wp_region_lit ?_
  go_wp2
  refine hK.out _ _ ?_; clear hK K
  show Code.wp _ _ _ _ _
  refine fH (HF.out) fun Wx14 HG => ?_
  clear HF; have HF := HG; clear HG
  refine wp_block ?_
  go_loopg [26] 3 (fun k iv wr => ∃ j : Nat, iv = .int .i64 (j : Int) ∧ j + k = 4 ∧ 1 ≤ j ∧ Hid (HP w wr [Sum.inl (gx3, 36, #[.int .u64 ((lo (Int.natAbs ((b).num)) : Nat) : Int), .string (bg (Int.natAbs ((b).num))), .bool (decide (((b).num) < 0)), .int .u64 ((lo ((b).den - 1) : Nat) : Int), .string (bg ((b).den - 1))]), Sum.inl (gx4, 36, #[.int .u64 ((lo (Int.natAbs ((a).num)) : Nat) : Int), .string (bg (Int.natAbs ((a).num))), .bool (decide (((a).num) < 0)), .int .u64 ((lo ((a).den - 1) : Nat) : Int), .string (bg ((a).den - 1))])]))
  case atStart => exact ⟨1, rfl, rfl, Nat.le_refl _, HF⟩
  case round =>
    rename_i J_ K_ h1_ h0_
    clear HF
    obtain ⟨j, rfl, hjk, hj1, HF⟩ := hrel
    rcases gk with _ | k9
    · refine wp_seq ?_
      have hle9 : ¬ (j : Int) ≤ 3 := by omega
      refine kS fun K hK => ?_
      refine sq 2 [(true, 0), (true, 1)] fun T hT => ?_
      iterate 2 refine tk ?_
      refine nlS hT HF fun vw12 HG => ?_
      clear hT T HF
      go_wp2
      refine hK.out _ _ ?_; clear hK K
      show Code.wp _ _ _ _ _
      have HF := HG; clear HG
      clear hle9
      refine wp_cond_false (by rfl) ?_
      refine wp_exit ?_
      show Code.wp _ _ _ _ _
      have HB := HPb HF
      refine kS fun K hK => ?_
      refine sq 2 [(true, 0), (true, 1)] fun T hT => ?_
      refine ck Tryz.call35 (fun w' hw => worksd_any _ (Lib.hid (HT.out.gr (Gr.trans HB.out hw)))) ?_
      refine tk ?_
      refine nlS hT HF fun vw13 HG => ?_
      clear hT T HF HB
      go_wp2
      refine hK.out _ _ ?_; clear hK K
      show Code.wp _ _ _ _ _
      refine fH (((HG.out).er 1).er 0) fun Wx21 HF => ?_
      clear HG
      refine wp_ret ?_
      try simp only [Exit.then, Exit.inBlock]
      exact bodyPost_ret (v := .bool true) (by simp [results, Tryz.results10, go_sem]) rfl ⟨rfl, HF.out.1⟩
    · obtain ⟨c3, HC3⟩ : ∃ z, Hid (sgQ (rdd (j : Int) b p - rdd (j : Int) a p) = z) := ⟨_, Lib.hid rfl⟩
      have hc3 : ¬ 0 < c3 := by have e9 := HCW.out (j : Int); have e8 := HC3.out; omega
      refine wp_seq ?_
      have hle9 : (j : Int) ≤ 3 := by omega
      refine kS fun K hK => ?_
      refine sq 2 [(true, 0), (true, 1)] fun T hT => ?_
      iterate 2 refine tk ?_
      refine nlS hT HF fun vw12 HG => ?_
      clear hT T HF
      go_wp2
      refine hK.out _ _ ?_; clear hK K
      show Code.wp _ _ _ _ _
      have HF := HG; clear HG
      clear hle9
      refine wp_cond_true (by rfl) ?_
      refine wp_skip ?_
      show Code.wp _ _ _ _ _
      refine wp_seq ?_
      refine wp_block ?_
      obtain ⟨u14, HZ14⟩ : ∃ z, Hid (rdd ((j : Int)) (b) p = z) := ⟨_, Lib.hid rfl⟩
      have su14 : sz (u14) ≤ 18 := by rw [← HZ14.out]; exact sz_rdd (by omega) om
      have lx3 := HF.out.c 0 rfl
      refine kS fun K hK => ?_
      refine sq 7 [(true, 0), (true, 1), (true, 2), (true, 3), (true, 4), (true, 5), (true, 6)] fun T hT => ?_
      iterate 3 refine tk ?_
      refine ck Tryz.call36 (fun w' hw => dround ((j : Int)) (b) p (u14) _ HZ14.out (by omega) (by omega) (by omega) om) ?_
      iterate 3 refine tk ?_
      refine nlS hT HF fun vw13 HG => ?_
      clear hT T HF lx3
      go_wp2
      refine hK.out _ _ ?_; clear hK K
      show Code.wp _ _ _ _ _
      refine fH ((HG.out).al (b := vw13.heap.size) (by first | rfl | simp) (by decide)) fun Wx17 HF => ?_
      clear HG
      generalize vw13.heap.size = gx13 at *
      obtain ⟨u15, HZ15⟩ : ∃ z, Hid (rdd ((j : Int)) (a) p = z) := ⟨_, Lib.hid rfl⟩
      have su15 : sz (u15) ≤ 18 := by rw [← HZ15.out]; exact sz_rdd (by omega) om
      have lx4 := HF.out.c 1 rfl
      refine kS fun K hK => ?_
      refine sq 7 [(true, 0), (true, 1), (true, 2), (true, 3), (true, 4), (true, 5), (true, 6)] fun T hT => ?_
      iterate 3 refine tk ?_
      refine ck Tryz.call36 (fun w' hw => dround ((j : Int)) (a) p (u15) _ HZ15.out (by omega) (by omega) (by omega) om) ?_
      iterate 3 refine tk ?_
      refine nlS hT HF fun vw14 HG => ?_
      clear hT T HF lx4
      go_wp2
      refine hK.out _ _ ?_; clear hK K
      show Code.wp _ _ _ _ _
      refine fH ((HG.out).al (b := vw14.heap.size) (by first | rfl | simp) (by decide)) fun Wx18 HF => ?_
      clear HG
      generalize vw14.heap.size = gx14 at *
      have hcc3 : ¬ 0 < c3 := by omega
      have lx13 := HF.out.c 2 rfl
      have lx14 := HF.out.c 3 rfl
      refine kS fun K hK => ?_
      refine sq 4 [(true, 0), (true, 1), (true, 2), (true, 3)] fun T hT => ?_
      iterate 2 refine tk ?_
      refine ck Tryz.call26 (fun w' hw => fcmp_any (u14) (u15) (c3) _ (by first | exact HC3.out | (simp only [← HZ15.out, ← HZ14.out, ← HZ10.out, ← HZ8.out, ← HZ7.out, ← HZ6.out, ← HZ5.out, ← HZ4.out, ← HZ3.out, ← HZ2.out, ← HZ1.out]; exact HC3.out)) om om) ?_
      refine tk ?_
      refine nlS hT HF fun vw15 HG => ?_
      clear hT T HF lx13 lx14
      go_wp2
      refine hK.out _ _ ?_; clear hK K
      show Code.wp _ _ _ _ _
      have HF := HG; clear HG
      clear hcc3
      refine wp_cond_false (by rfl) ?_
      refine wp_skip ?_
      show Code.wp _ _ _ _ _
      have hwi : IntKind.i64.wrap ((j : Int) + 1) = (j : Int) + 1 := by rw [IntKind.wrap_i64]; omega
      refine kL fun K hK => ?_
      refine sq 3 [(true, 0), (true, 1), (true, 2)] fun T hT => ?_
      iterate 3 refine tk ?_
      refine nlS hT HF fun vw16 HG => ?_
      clear hT T HF
      go_wp2
      refine hK.out _ _ ?_; clear hK K
      try simp only [Exit.then, Exit.inBlock]
      have HF := Lib.hid (HG.out); clear HG
      clear hwi
      refine h0_ _ _ ?_
      go_roundg k9
      case measure => omega
      case rel => exact ⟨j + 1, rfl, by omega, by omega, Lib.hid (((HF.out).er 3).er 2)⟩

set_option maxRecDepth 100000 in
set_option maxHeartbeats 16000000 in
theorem dturn_n (bbxn : Bool) (vxn : Value) (kxn : Nat) (fxn : Nat → Nat) (mxn : Nat) (ixn : Int) (vxd : Value) (kxd : Nat) (fxd : Nat → Nat) (mxd : Nat) (bbyn : Bool) (vyn : Value) (kyn : Nat) (fyn : Nat → Nat) (myn : Nat) (iyn : Int) (vyd : Value) (kyd : Nat) (fyd : Nat → Nat) (myd : Nat) (a b : Rat) (m n : Int) (r t p q : Nat) (c0 c1 c2 : Int) (w : World) (HWxn : Hid (Wa w vxn kxn fxn)) (HFxn : Hid (∀ i, i < kxn → fxn i < 4294967296)) (HVxn : Hid (vl fxn kxn = mxn)) (HAxn : Hid ((if bbxn then -((mxn : Nat) : Int) else ((mxn : Nat) : Int)) = ixn)) (HWxd : Hid (Wa w vxd kxd fxd)) (HFxd : Hid (∀ i, i < kxd → fxd i < 4294967296)) (HVxd : Hid (vl fxd kxd = mxd)) (HQx : Hid (mkRat ixn (mxd + 1) = a)) (HWyn : Hid (Wa w vyn kyn fyn)) (HFyn : Hid (∀ i, i < kyn → fyn i < 4294967296)) (HVyn : Hid (vl fyn kyn = myn)) (HAyn : Hid ((if bbyn then -((myn : Nat) : Int) else ((myn : Nat) : Int)) = iyn)) (HWyd : Hid (Wa w vyd kyd fyd)) (HFyd : Hid (∀ i, i < kyd → fyd i < 4294967296)) (HVyd : Hid (vl fyd kyd = myd)) (HQy : Hid (mkRat iyn (myd + 1) = b)) (hkxn : kxn ≤ 4) (hkxd : kxd ≤ 4) (hkyn : kyn ≤ 4) (hkyd : kyd ≤ 4) (hm1 : 0 ≤ m) (hm2 : m ≤ 255) (hn1 : 0 ≤ n) (hn2 : n ≤ 255) (HMr : Hid (Int.tmod m 101 = (r : Int))) (HMt : Hid (Int.tmod n 101 = (t : Int))) (hmin : min (r : Int) (t : Int) = (p : Int)) (hmax : max (r : Int) (t : Int) = (q : Int)) (hpq : p ≤ q) (hq : q ≤ 100) (HC0 : Hid (sgQ (a - b) = c0)) (hc0 : ¬ 0 < c0) (HAB : Hid (a ≤ b)) (HC1 : Hid (sgQ (rdd 1 a p - rdd 1 a q) = c1)) (hc1 : ¬ 0 < c1) (HC2 : Hid (sgQ (rdd 2 a q - rdd 2 a p) = c2)) (hc2 : ¬ 0 < c2) (HCW : Hid (∀ w : Int, ¬ 0 < sgQ (rdd w a p - rdd w b p))) (HT : Hid (Tab w)) :
    Calls Tryz.prog 10 #[.agg #[.bool bbxn, vxn, vxd], .agg #[.bool bbyn, vyn, vyd], .int .u8 (m), .int .u8 (n)] w fun e w' => e = .returned (.bool true) ∧ Below w.heap.size w w' := by
  obtain ⟨ao_xn, c_xn, rfl⟩ := HWxn.out.slice
  obtain ⟨ao_xd, c_xd, rfl⟩ := HWxd.out.slice
  have hm_xn : wl mxn ≤ 4 := by rw [← HVxn.out]; have := wl_le.2 (vl_lt HFxn.out); omega
  have hm_xd : wl mxd ≤ 4 := by rw [← HVxd.out]; have := wl_le.2 (vl_lt HFxd.out); omega
  have hi_x : wl (Int.natAbs ixn) ≤ 4 := by rw [zsize HAxn.out]; exact hm_xn
  have hs_x : sz a ≤ 5 := by rw [← HQx.out]; exact sz_great hi_x hm_xd
  have hr_x : rz a ≤ 15 := by rw [← HQx.out]; exact rz_great hi_x hm_xd (by decide)
  obtain ⟨ao_yn, c_yn, rfl⟩ := HWyn.out.slice
  obtain ⟨ao_yd, c_yd, rfl⟩ := HWyd.out.slice
  have hm_yn : wl myn ≤ 4 := by rw [← HVyn.out]; have := wl_le.2 (vl_lt HFyn.out); omega
  have hm_yd : wl myd ≤ 4 := by rw [← HVyd.out]; have := wl_le.2 (vl_lt HFyd.out); omega
  have hi_y : wl (Int.natAbs iyn) ≤ 4 := by rw [zsize HAyn.out]; exact hm_yn
  have hs_y : sz b ≤ 5 := by rw [← HQy.out]; exact sz_great hi_y hm_yd
  have hr_y : rz b ≤ 15 := by rw [← HQy.out]; exact rz_great hi_y hm_yd (by decide)
  have hwm : IntKind.i64.wrap m = m := by rw [IntKind.wrap_i64]; omega
  have hwn : IntKind.i64.wrap n = n := by rw [IntKind.wrap_i64]; omega
  go_enter Tryz.func10, Tryz.ntmps10
  have HF := Lib.hid (hp0 w)
  refine kS fun K hK => ?_
  refine wp_region_lit ?_
  go_wp2
  refine hK.out _ _ ?_; clear hK K
  show Code.wp _ _ _ _ _
  refine fH (((HF.out).al (b := w.heap.size) (by first | rfl | simp) (by decide)).al (b := w.heap.size + 1) (by first | rfl | simp) (by decide)) fun Wx0 HG => ?_
  clear HF; have HF := HG; clear HG
  generalize w.heap.size + 1 = gx1 at *
  refine wp_seq ?_
  have hd1 : ¬ (4 < ((kxn : Int))) := by first | exact ok | exact rdd_neg1 _ _ | exact rdd_neg2 _ _ | exact rdd_neg3 _ _ | exact (rdd_neg1 _ _).symm | exact (rdd_neg2 _ _).symm | exact (rdd_neg3 _ _).symm
  have hd2 : ¬ (4 < ((kxd : Int))) := by first | exact ok | exact rdd_neg1 _ _ | exact rdd_neg2 _ _ | exact rdd_neg3 _ _ | exact (rdd_neg1 _ _).symm | exact (rdd_neg2 _ _).symm | exact (rdd_neg3 _ _).symm
  have hd3 : ¬ (4 < ((kyn : Int))) := by first | exact ok | exact rdd_neg1 _ _ | exact rdd_neg2 _ _ | exact rdd_neg3 _ _ | exact (rdd_neg1 _ _).symm | exact (rdd_neg2 _ _).symm | exact (rdd_neg3 _ _).symm
  have hd4 : ¬ (4 < ((kyd : Int))) := by first | exact ok | exact rdd_neg1 _ _ | exact rdd_neg2 _ _ | exact rdd_neg3 _ _ | exact (rdd_neg1 _ _).symm | exact (rdd_neg2 _ _).symm | exact (rdd_neg3 _ _).symm
  have lx0 := HF.out.c 0 rfl
  have lx1 := HF.out.c 1 rfl
  refine kS fun K hK => ?_
  refine sq 24 [(true, 0), (true, 1), (true, 2), (true, 3), (true, 4), (true, 5), (true, 6), (true, 7), (true, 8), (true, 9), (true, 10), (true, 11), (true, 12), (true, 13), (true, 14), (true, 15), (true, 16), (true, 17), (true, 18), (true, 19), (true, 20), (true, 21), (true, 22), (true, 23)] fun T hT => ?_
  iterate 24 refine tk ?_
  refine nlS hT HF fun vw1 HG => ?_
  clear hT T HF lx0 lx1
  go_wp2
  refine hK.out _ _ ?_; clear hK K
  show Code.wp _ _ _ _ _
  have HF := HG; clear HG
  clear hd1 hd2 hd3 hd4
  refine wp_cond_false (by rfl) ?_
  refine wp_skip ?_
  show Code.wp _ _ _ _ _
  have HB := HPb HF
  have lx0 := HF.out.c 0 rfl
  have lx1 := HF.out.c 1 rfl
  refine kS fun K hK => ?_
  refine wp_region_plan 6 [4, 5] [] (fun i => if i = 4 then 9 else 10) (fun i => if i = 4 then .cells #[.int .u64 0, .string ⟨#[]⟩, .bool false, .int .u64 0, .string ⟨#[]⟩] 36 else .cells #[.int .u64 0, .string ⟨#[]⟩, .bool false, .int .u64 0, .string ⟨#[]⟩] 36) [(true, 0), (true, 2), (true, 1), (true, 3)] (by kernel_rfl) (by kernel_rfl) (by intro i hi; simp only [List.mem_cons, List.not_mem_nil, or_false] at hi; rcases hi with rfl | rfl <;> exact ⟨_, rfl, rfl, rfl, by simp, fun ρ w => by kernel_rfl⟩) (fun i hi => by cases hi) (fun _ _ _ _ _ h => h) (fun T hT => ?_)
  iterate 2 refine tk ?_
  refine ck Tryz.call37 (fun w' hw => gof_any bbxn kxn fxn mxn ixn kxd fxd mxd a ao_xn c_xn ao_xd c_xd w' (Lib.hid (HWxn.out.gr (Gr.trans HB.out hw))) HFxn HVxn HAxn (Lib.hid (HWxd.out.gr (Gr.trans HB.out hw))) HFxd HVxd HQx om om om om) ?_
  refine ck Tryz.call37 (fun w' hw => gof_any bbyn kyn fyn myn iyn kyd fyd myd b ao_yn c_yn ao_yd c_yd w' (Lib.hid (HWyn.out.gr (Gr.trans HB.out hw))) HFyn HVyn HAyn (Lib.hid (HWyd.out.gr (Gr.trans HB.out hw))) HFyd HVyd HQy om om om om) ?_
  refine wpPlan_nil (hT.out _ _ ?_)
  intro G vw2 hg hf
  simp only [puts, Act.put, lA, lB, lC, lD, lE, ↓reduceIte, Nat.reduceEqDiff]
  have HG := Lib.hid (HF.out.fr hg hf (zs := [(#[.int .u64 0, .string ⟨#[]⟩, .bool false, .int .u64 0, .string ⟨#[]⟩], 36), (#[.int .u64 0, .string ⟨#[]⟩, .bool false, .int .u64 0, .string ⟨#[]⟩], 36)]) rfl (by decide) (by decide))
  simp only [List.zip_cons_cons, List.zip_nil_right, List.map_cons, List.map_nil, lF, lG] at HG
  clear hT T HF hg hf lx0 lx1 HB
  generalize G 4 = gx3 at *
  generalize G 5 = gx4 at *
  have lx3 := HG.out.c 2 rfl; have fx3 := HG.out.f 2 rfl
  have lx4 := HG.out.c 3 rfl; have fx4 := HG.out.f 3 rfl
  have r0 := Gr.refl vw2
  obtain ⟨d3_4, d4_3⟩ := HG.out.ne 2 3 rfl rfl (by decide)
  go_wp2
  refine hK.out _ _ ?_; clear hK K
  show Code.wp _ _ _ _ _
  clear r0 lx3 fx3 lx4 fx4 d3_4 d4_3
  refine fH (((((((((HG.out).put2 2 0 rfl).put2 2 2 rfl).put 2 4 _ rfl).put2 3 0 rfl).put2 3 2 rfl).put 3 4 _ rfl).er 1).er 0) fun Wx3 HF => ?_
  clear HG
  refine wp_seq ?_
  have hcc0 : ¬ 0 < c0 := by omega
  have lx3 := HF.out.c 0 rfl
  have lx4 := HF.out.c 1 rfl
  refine kS fun K hK => ?_
  refine sq 4 [(true, 0), (true, 1), (true, 2), (true, 3)] fun T hT => ?_
  iterate 2 refine tk ?_
  refine ck Tryz.call26 (fun w' hw => fcmp_any (a) (b) (c0) _ (HC0.out) om om) ?_
  refine tk ?_
  refine nlS hT HF fun vw3 HG => ?_
  clear hT T HF lx3 lx4
  go_wp2
  refine hK.out _ _ ?_; clear hK K
  show Code.wp _ _ _ _ _
  have HF := HG; clear HG
  clear hcc0
  refine wp_cond_false (by rfl) ?_
  refine wp_skip ?_
  show Code.wp _ _ _ _ _
  have hrmr_2 : Int.tmod m 101 = (r : Int) := HMr.out
  have hrmt_5 : Int.tmod n 101 = (t : Int) := HMt.out
  have hrmr_9 : Int.tmod m 101 = (r : Int) := HMr.out
  have hrmt_12 : Int.tmod n 101 = (t : Int) := HMt.out
  refine kS fun K hK => ?_
  refine sq 16 [(true, 0), (true, 1), (true, 2), (true, 3), (true, 4), (true, 5), (true, 6), (true, 7), (true, 8), (true, 9), (true, 10), (true, 11), (true, 12), (true, 13), (true, 14), (true, 15)] fun T hT => ?_
  iterate 16 refine tk ?_
  refine nlS hT HF fun vw4 HG => ?_
  clear hT T HF
  go_wp2
  refine hK.out _ _ ?_; clear hK K
  show Code.wp _ _ _ _ _
  have HF := HG; clear HG
  clear hrmr_2 hrmt_5 hrmr_9 hrmt_12
  obtain ⟨u1, HZ1⟩ : ∃ z, Hid (rdd 1 (a) p = z) := ⟨_, Lib.hid rfl⟩
  have su1 : sz (u1) ≤ 18 := by rw [← HZ1.out]; exact sz_rdd (by omega) om
  obtain ⟨u2, HZ2⟩ : ∃ z, Hid (rdd 2 (a) p = z) := ⟨_, Lib.hid rfl⟩
  have su2 : sz (u2) ≤ 18 := by rw [← HZ2.out]; exact sz_rdd (by omega) om
  have lx3 := HF.out.c 0 rfl
  refine kS fun K hK => ?_
  refine sq 7 [(true, 0), (true, 1), (true, 2), (true, 3), (true, 4), (true, 5), (true, 6)] fun T hT => ?_
  iterate 2 refine tk ?_
  refine ck Tryz.call51 (fun w' hw => dbtw_any (a) (u1) (u2) p _ (Lib.hid HZ1.out) (Lib.hid HZ2.out) (by omega) om) ?_
  iterate 4 refine tk ?_
  refine nlS hT HF fun vw5 HG => ?_
  clear hT T HF lx3
  go_wp2
  refine hK.out _ _ ?_; clear hK K
  show Code.wp _ _ _ _ _
  refine fH (((HG.out).al (b := vw5.heap.size) (by first | rfl | simp) (by decide)).al (b := vw5.heap.size + 1) (by first | rfl | simp) (by decide)) fun Wx7 HF => ?_
  clear HG
  generalize vw5.heap.size + 1 = gx6 at *
  generalize vw5.heap.size = gx5 at *
  obtain ⟨u3, HZ3⟩ : ∃ z, Hid (-(a) = z) := ⟨_, Lib.hid rfl⟩
  have su3 : sz (u3) ≤ 5 := by rw [← HZ3.out]; rw [sz_neg]; omega
  obtain ⟨u4, HZ4⟩ : ∃ z, Hid (rdd 1 (u3) p = z) := ⟨_, Lib.hid rfl⟩
  have su4 : sz (u4) ≤ 18 := by rw [← HZ4.out]; exact sz_rdd (by omega) om
  obtain ⟨u5, HZ5⟩ : ∃ z, Hid (rdd 2 (u3) p = z) := ⟨_, Lib.hid rfl⟩
  have su5 : sz (u5) ≤ 18 := by rw [← HZ5.out]; exact sz_rdd (by omega) om
  have lx3 := HF.out.c 0 rfl
  refine kS fun K hK => ?_
  refine sq 8 [(true, 0), (true, 1), (true, 2), (true, 3), (true, 4), (true, 5), (true, 6), (true, 7)] fun T hT => ?_
  refine tk ?_
  refine ck Tryz.call52 (fun w' hw => fneg_any (a) (u3) _ HZ3.out) ?_
  refine tk ?_
  refine ck Tryz.call51 (fun w' hw => dbtw_any (u3) (u4) (u5) p _ (Lib.hid HZ4.out) (Lib.hid HZ5.out) (by omega) om) ?_
  iterate 4 refine tk ?_
  refine nlS hT HF fun vw6 HG => ?_
  clear hT T HF lx3
  go_wp2
  refine hK.out _ _ ?_; clear hK K
  show Code.wp _ _ _ _ _
  refine fH (((HG.out).al (b := vw6.heap.size) (by first | rfl | simp) (by decide)).al (b := vw6.heap.size + 1) (by first | rfl | simp) (by decide)) fun Wx8 HF => ?_
  clear HG
  generalize vw6.heap.size + 1 = gx8 at *
  generalize vw6.heap.size = gx7 at *
  obtain ⟨u6, HZ6⟩ : ∃ z, Hid (rdd 1 (a) q = z) := ⟨_, Lib.hid rfl⟩
  have su6 : sz (u6) ≤ 18 := by rw [← HZ6.out]; exact sz_rdd (by omega) om
  obtain ⟨u7, HZ7⟩ : ∃ z, Hid (rdd 2 (a) q = z) := ⟨_, Lib.hid rfl⟩
  have su7 : sz (u7) ≤ 18 := by rw [← HZ7.out]; exact sz_rdd (by omega) om
  have lx3 := HF.out.c 0 rfl
  refine kS fun K hK => ?_
  refine sq 7 [(true, 0), (true, 1), (true, 2), (true, 3), (true, 4), (true, 5), (true, 6)] fun T hT => ?_
  iterate 2 refine tk ?_
  refine ck Tryz.call51 (fun w' hw => dbtw_any (a) (u6) (u7) q _ (Lib.hid HZ6.out) (Lib.hid HZ7.out) (by omega) om) ?_
  iterate 4 refine tk ?_
  refine nlS hT HF fun vw7 HG => ?_
  clear hT T HF lx3
  go_wp2
  refine hK.out _ _ ?_; clear hK K
  show Code.wp _ _ _ _ _
  refine fH (((HG.out).al (b := vw7.heap.size) (by first | rfl | simp) (by decide)).al (b := vw7.heap.size + 1) (by first | rfl | simp) (by decide)) fun Wx9 HF => ?_
  clear HG
  generalize vw7.heap.size + 1 = gx10 at *
  generalize vw7.heap.size = gx9 at *
  obtain ⟨u8, HZ8⟩ : ∃ z, Hid (rdd (3) (a) p = z) := ⟨_, Lib.hid rfl⟩
  have su8 : sz (u8) ≤ 18 := by rw [← HZ8.out]; exact sz_rdd (by omega) om
  have lx3 := HF.out.c 0 rfl
  refine kS fun K hK => ?_
  refine sq 6 [(true, 0), (true, 1), (true, 2), (true, 3), (true, 4), (true, 5)] fun T hT => ?_
  iterate 2 refine tk ?_
  refine ck Tryz.call36 (fun w' hw => dround (3) (a) p (u8) _ HZ8.out (by omega) (by omega) (by omega) om) ?_
  iterate 3 refine tk ?_
  refine nlS hT HF fun vw8 HG => ?_
  clear hT T HF lx3
  go_wp2
  refine hK.out _ _ ?_; clear hK K
  show Code.wp _ _ _ _ _
  refine fH ((HG.out).al (b := vw8.heap.size) (by first | rfl | simp) (by decide)) fun Wx10 HF => ?_
  clear HG
  generalize vw8.heap.size = gx11 at *
  have HZ9 : Hid (-(a) = u3) := Lib.hid (by first | exact ok | exact rdd_neg1 _ _ | exact rdd_neg2 _ _ | exact rdd_neg3 _ _ | exact (rdd_neg1 _ _).symm | exact (rdd_neg2 _ _).symm | exact (rdd_neg3 _ _).symm | (simp only [← HZ8.out, ← HZ7.out, ← HZ6.out, ← HZ5.out, ← HZ4.out, ← HZ3.out, ← HZ2.out, ← HZ1.out] <;> first | exact ok | exact rdd_neg1 _ _ | exact rdd_neg2 _ _ | exact rdd_neg3 _ _ | exact (rdd_neg1 _ _).symm | exact (rdd_neg2 _ _).symm | exact (rdd_neg3 _ _).symm))
  have su9 : sz (u3) ≤ 5 := by have e := HZ9.out; first | omega | (rw [← e]; rw [sz_neg]; omega)
  obtain ⟨u10, HZ10⟩ : ∃ z, Hid (rdd (3) (u3) p = z) := ⟨_, Lib.hid rfl⟩
  have su10 : sz (u10) ≤ 18 := by rw [← HZ10.out]; exact sz_rdd (by omega) om
  have lx3 := HF.out.c 0 rfl
  refine kS fun K hK => ?_
  refine sq 7 [(true, 0), (true, 1), (true, 2), (true, 3), (true, 4), (true, 5), (true, 6)] fun T hT => ?_
  refine tk ?_
  refine ck Tryz.call52 (fun w' hw => fneg_any (a) (u3) _ HZ9.out) ?_
  refine tk ?_
  refine ck Tryz.call36 (fun w' hw => dround (3) (u3) p (u10) _ HZ10.out (by omega) (by omega) (by omega) om) ?_
  iterate 3 refine tk ?_
  refine nlS hT HF fun vw9 HG => ?_
  clear hT T HF lx3
  go_wp2
  refine hK.out _ _ ?_; clear hK K
  show Code.wp _ _ _ _ _
  refine fH ((HG.out).al (b := vw9.heap.size) (by first | rfl | simp) (by decide)) fun Wx11 HF => ?_
  clear HG
  generalize vw9.heap.size = gx12 at *
  refine wp_seq ?_
  have HZ11 : Hid (-(u2) = u4) := Lib.hid (by first | exact ok | exact rdd_neg1 _ _ | exact rdd_neg2 _ _ | exact rdd_neg3 _ _ | exact (rdd_neg1 _ _).symm | exact (rdd_neg2 _ _).symm | exact (rdd_neg3 _ _).symm | (simp only [← HZ10.out, ← HZ8.out, ← HZ7.out, ← HZ6.out, ← HZ5.out, ← HZ4.out, ← HZ3.out, ← HZ2.out, ← HZ1.out] <;> first | exact ok | exact rdd_neg1 _ _ | exact rdd_neg2 _ _ | exact rdd_neg3 _ _ | exact (rdd_neg1 _ _).symm | exact (rdd_neg2 _ _).symm | exact (rdd_neg3 _ _).symm))
  have su11 : sz (u4) ≤ 18 := by have e := HZ11.out; first | omega | (rw [← e]; rw [sz_neg]; omega)
  have HZ12 : Hid (-(u1) = u5) := Lib.hid (by first | exact ok | exact rdd_neg1 _ _ | exact rdd_neg2 _ _ | exact rdd_neg3 _ _ | exact (rdd_neg1 _ _).symm | exact (rdd_neg2 _ _).symm | exact (rdd_neg3 _ _).symm | (simp only [← HZ10.out, ← HZ8.out, ← HZ7.out, ← HZ6.out, ← HZ5.out, ← HZ4.out, ← HZ3.out, ← HZ2.out, ← HZ1.out] <;> first | exact ok | exact rdd_neg1 _ _ | exact rdd_neg2 _ _ | exact rdd_neg3 _ _ | exact (rdd_neg1 _ _).symm | exact (rdd_neg2 _ _).symm | exact (rdd_neg3 _ _).symm))
  have su12 : sz (u5) ≤ 18 := by have e := HZ12.out; first | omega | (rw [← e]; rw [sz_neg]; omega)
  have HZ13 : Hid (-(u8) = u10) := Lib.hid (by first | exact ok | exact rdd_neg1 _ _ | exact rdd_neg2 _ _ | exact rdd_neg3 _ _ | exact (rdd_neg1 _ _).symm | exact (rdd_neg2 _ _).symm | exact (rdd_neg3 _ _).symm | (simp only [← HZ10.out, ← HZ8.out, ← HZ7.out, ← HZ6.out, ← HZ5.out, ← HZ4.out, ← HZ3.out, ← HZ2.out, ← HZ1.out] <;> first | exact ok | exact rdd_neg1 _ _ | exact rdd_neg2 _ _ | exact rdd_neg3 _ _ | exact (rdd_neg1 _ _).symm | exact (rdd_neg2 _ _).symm | exact (rdd_neg3 _ _).symm))
  have su13 : sz (u10) ≤ 18 := by have e := HZ13.out; first | omega | (rw [← e]; rw [sz_neg]; omega)
  have hcc1 : ¬ 0 < c1 := by omega
  have hcc2 : ¬ 0 < c2 := by omega
  have lx5 := HF.out.c 2 rfl
  have lx6 := HF.out.c 3 rfl
  have lx7 := HF.out.c 4 rfl
  have lx8 := HF.out.c 5 rfl
  have lx9 := HF.out.c 6 rfl
  have lx10 := HF.out.c 7 rfl
  have lx11 := HF.out.c 8 rfl
  have lx12 := HF.out.c 9 rfl
  refine kS fun K hK => ?_
  refine pd 27 [(true, 0), (true, 1), (true, 2), (true, 3), (true, 4), (true, 5), (true, 6), (true, 7), (true, 8), (true, 9), (true, 10), (true, 11), (true, 12), (true, 13), (true, 14), (true, 15), (true, 16), (true, 17), (true, 18), (true, 19), (true, 20), (true, 21), (true, 22), (true, 23), (true, 24), (true, 25), (true, 26)] fun T hT => ?_
  iterate 2 refine tk ?_
  refine ck Tryz.call52 (fun w' hw => fneg_any (u2) (u4) _ HZ11.out) ?_
  iterate 4 refine tk ?_
  refine ck Tryz.call52 (fun w' hw => fneg_any (u1) (u5) _ HZ12.out) ?_
  iterate 5 refine tk ?_
  refine ck Tryz.call52 (fun w' hw => fneg_any (u8) (u10) _ HZ13.out) ?_
  iterate 5 refine tk ?_
  refine ck Tryz.call26 (fun w' hw => fcmp_any (u1) (u6) (c1) _ (by first | exact HC1.out | (simp only [← HZ10.out, ← HZ8.out, ← HZ7.out, ← HZ6.out, ← HZ5.out, ← HZ4.out, ← HZ3.out, ← HZ2.out, ← HZ1.out]; exact HC1.out)) om om) ?_
  iterate 5 refine tk ?_
  refine ck Tryz.call26 (fun w' hw => fcmp_any (u7) (u2) (c2) _ (by first | exact HC2.out | (simp only [← HZ10.out, ← HZ8.out, ← HZ7.out, ← HZ6.out, ← HZ5.out, ← HZ4.out, ← HZ3.out, ← HZ2.out, ← HZ1.out]; exact HC2.out)) om om) ?_
  refine tk ?_
  refine nlD hT HF fun vw10 HG => ?_
  clear hT T HF lx5 lx6 lx7 lx8 lx9 lx10 lx11 lx12
  go_wp2
  refine hK.out _ _ ?_; clear hK K
  show Code.wp _ _ _ _ _
  refine fH (((((((((HG.out).er 9).er 8).er 7).er 6).er 5).er 4).er 3).er 2) fun Wx12 HF => ?_
  clear HG
  clear hcc1 hcc2
  refine wp_cond_false (by rfl) ?_
  refine wp_skip ?_
  show Code.wp _ _ _ _ _
  refine wp_seq ?_
  refine kS fun K hK => ?_
  refine wp_region_lit ?_
  go_wp2
  refine hK.out _ _ ?_; clear hK K
  show Code.wp _ _ _ _ _
  refine fH (HF.out) fun Wx14 HG => ?_
  clear HF; have HF := HG; clear HG
  refine wp_block ?_
  go_loopg [26] 3 (fun k iv wr => ∃ j : Nat, iv = .int .i64 (j : Int) ∧ j + k = 4 ∧ 1 ≤ j ∧ Hid (HP w wr [Sum.inl (gx3, 36, #[.int .u64 ((lo (Int.natAbs ((a).num)) : Nat) : Int), .string (bg (Int.natAbs ((a).num))), .bool (decide (((a).num) < 0)), .int .u64 ((lo ((a).den - 1) : Nat) : Int), .string (bg ((a).den - 1))]), Sum.inl (gx4, 36, #[.int .u64 ((lo (Int.natAbs ((b).num)) : Nat) : Int), .string (bg (Int.natAbs ((b).num))), .bool (decide (((b).num) < 0)), .int .u64 ((lo ((b).den - 1) : Nat) : Int), .string (bg ((b).den - 1))])]))
  case atStart => exact ⟨1, rfl, rfl, Nat.le_refl _, HF⟩
  case round =>
    rename_i J_ K_ h1_ h0_
    clear HF
    obtain ⟨j, rfl, hjk, hj1, HF⟩ := hrel
    rcases gk with _ | k9
    · refine wp_seq ?_
      have hle9 : ¬ (j : Int) ≤ 3 := by omega
      refine kS fun K hK => ?_
      refine sq 2 [(true, 0), (true, 1)] fun T hT => ?_
      iterate 2 refine tk ?_
      refine nlS hT HF fun vw11 HG => ?_
      clear hT T HF
      go_wp2
      refine hK.out _ _ ?_; clear hK K
      show Code.wp _ _ _ _ _
      have HF := HG; clear HG
      clear hle9
      refine wp_cond_false (by rfl) ?_
      refine wp_exit ?_
      show Code.wp _ _ _ _ _
      have HB := HPb HF
      refine kS fun K hK => ?_
      refine sq 2 [(true, 0), (true, 1)] fun T hT => ?_
      refine ck Tryz.call35 (fun w' hw => worksd_any _ (Lib.hid (HT.out.gr (Gr.trans HB.out hw)))) ?_
      refine tk ?_
      refine nlS hT HF fun vw12 HG => ?_
      clear hT T HF HB
      go_wp2
      refine hK.out _ _ ?_; clear hK K
      show Code.wp _ _ _ _ _
      refine fH (((HG.out).er 1).er 0) fun Wx21 HF => ?_
      clear HG
      refine wp_ret ?_
      try simp only [Exit.then, Exit.inBlock]
      exact bodyPost_ret (v := .bool true) (by simp [results, Tryz.results10, go_sem]) rfl ⟨rfl, HF.out.1⟩
    · obtain ⟨c3, HC3⟩ : ∃ z, Hid (sgQ (rdd (j : Int) a p - rdd (j : Int) b p) = z) := ⟨_, Lib.hid rfl⟩
      have hc3 : ¬ 0 < c3 := by have e9 := HCW.out (j : Int); have e8 := HC3.out; omega
      refine wp_seq ?_
      have hle9 : (j : Int) ≤ 3 := by omega
      refine kS fun K hK => ?_
      refine sq 2 [(true, 0), (true, 1)] fun T hT => ?_
      iterate 2 refine tk ?_
      refine nlS hT HF fun vw11 HG => ?_
      clear hT T HF
      go_wp2
      refine hK.out _ _ ?_; clear hK K
      show Code.wp _ _ _ _ _
      have HF := HG; clear HG
      clear hle9
      refine wp_cond_true (by rfl) ?_
      refine wp_skip ?_
      show Code.wp _ _ _ _ _
      refine wp_seq ?_
      refine wp_block ?_
      obtain ⟨u14, HZ14⟩ : ∃ z, Hid (rdd ((j : Int)) (a) p = z) := ⟨_, Lib.hid rfl⟩
      have su14 : sz (u14) ≤ 18 := by rw [← HZ14.out]; exact sz_rdd (by omega) om
      have lx3 := HF.out.c 0 rfl
      refine kS fun K hK => ?_
      refine sq 7 [(true, 0), (true, 1), (true, 2), (true, 3), (true, 4), (true, 5), (true, 6)] fun T hT => ?_
      iterate 3 refine tk ?_
      refine ck Tryz.call36 (fun w' hw => dround ((j : Int)) (a) p (u14) _ HZ14.out (by omega) (by omega) (by omega) om) ?_
      iterate 3 refine tk ?_
      refine nlS hT HF fun vw12 HG => ?_
      clear hT T HF lx3
      go_wp2
      refine hK.out _ _ ?_; clear hK K
      show Code.wp _ _ _ _ _
      refine fH ((HG.out).al (b := vw12.heap.size) (by first | rfl | simp) (by decide)) fun Wx17 HF => ?_
      clear HG
      generalize vw12.heap.size = gx13 at *
      obtain ⟨u15, HZ15⟩ : ∃ z, Hid (rdd ((j : Int)) (b) p = z) := ⟨_, Lib.hid rfl⟩
      have su15 : sz (u15) ≤ 18 := by rw [← HZ15.out]; exact sz_rdd (by omega) om
      have lx4 := HF.out.c 1 rfl
      refine kS fun K hK => ?_
      refine sq 7 [(true, 0), (true, 1), (true, 2), (true, 3), (true, 4), (true, 5), (true, 6)] fun T hT => ?_
      iterate 3 refine tk ?_
      refine ck Tryz.call36 (fun w' hw => dround ((j : Int)) (b) p (u15) _ HZ15.out (by omega) (by omega) (by omega) om) ?_
      iterate 3 refine tk ?_
      refine nlS hT HF fun vw13 HG => ?_
      clear hT T HF lx4
      go_wp2
      refine hK.out _ _ ?_; clear hK K
      show Code.wp _ _ _ _ _
      refine fH ((HG.out).al (b := vw13.heap.size) (by first | rfl | simp) (by decide)) fun Wx18 HF => ?_
      clear HG
      generalize vw13.heap.size = gx14 at *
      have hcc3 : ¬ 0 < c3 := by omega
      have lx13 := HF.out.c 2 rfl
      have lx14 := HF.out.c 3 rfl
      refine kS fun K hK => ?_
      refine sq 4 [(true, 0), (true, 1), (true, 2), (true, 3)] fun T hT => ?_
      iterate 2 refine tk ?_
      refine ck Tryz.call26 (fun w' hw => fcmp_any (u14) (u15) (c3) _ (by first | exact HC3.out | (simp only [← HZ15.out, ← HZ14.out, ← HZ10.out, ← HZ8.out, ← HZ7.out, ← HZ6.out, ← HZ5.out, ← HZ4.out, ← HZ3.out, ← HZ2.out, ← HZ1.out]; exact HC3.out)) om om) ?_
      refine tk ?_
      refine nlS hT HF fun vw14 HG => ?_
      clear hT T HF lx13 lx14
      go_wp2
      refine hK.out _ _ ?_; clear hK K
      show Code.wp _ _ _ _ _
      have HF := HG; clear HG
      clear hcc3
      refine wp_cond_false (by rfl) ?_
      refine wp_skip ?_
      show Code.wp _ _ _ _ _
      have hwi : IntKind.i64.wrap ((j : Int) + 1) = (j : Int) + 1 := by rw [IntKind.wrap_i64]; omega
      refine kL fun K hK => ?_
      refine sq 3 [(true, 0), (true, 1), (true, 2)] fun T hT => ?_
      iterate 3 refine tk ?_
      refine nlS hT HF fun vw15 HG => ?_
      clear hT T HF
      go_wp2
      refine hK.out _ _ ?_; clear hK K
      try simp only [Exit.then, Exit.inBlock]
      have HF := Lib.hid (HG.out); clear HG
      clear hwi
      refine h0_ _ _ ?_
      go_roundg k9
      case measure => omega
      case rel => exact ⟨j + 1, rfl, by omega, by omega, Lib.hid (((HF.out).er 3).er 2)⟩

end Go.Proofs.YtgdibedgjndcoaaGreatDoor
