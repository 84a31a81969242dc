
/- RootsRise: the law's walk. -/
import Derived.Test.YtaflakcemiilaaaGreatDoorRot6
import Derived.Test.YtaflakcemiilaaaGreatDoorPL
import Derived.Test.YtaflakcemiilaaaGreatDoorSgnR
namespace Go.Proofs.YtaflakcemiilaaaGreatDoor
open Go.RowKit
set_option linter.unusedSimpArgs false
set_option linter.unusedVariables false
attribute [local go_sem ↓] Go.wp_at_zero Go.wp_at_succ
attribute [local go_sem ↓] eq_nat eq_nat_zero eq_int eq_frac eq_frac_zero
attribute [local go_sem] Instr.field asAgg
set_option maxRecDepth 100000 in
set_option maxHeartbeats 16000000 in
theorem rise_00 (n1 d1 n2 d2 m n : Int) (x0 y0 a b l l2 h h2 l3 h3 : Rat) (r t : Nat) (c0 c1 c2 c3 c4 c5 : Int) (w : World) (h1_1 : -9223372036854775808 ≤ n1) (h2_1 : n1 ≤ 9223372036854775807) (h3_1 : 0 ≤ d1) (h4_1 : d1 ≤ 4294967295) (h1_2 : -9223372036854775808 ≤ n2) (h2_2 : n2 ≤ 9223372036854775807) (h3_2 : 0 ≤ d2) (h4_2 : d2 ≤ 4294967295) (hm1 : 0 ≤ m) (hm2 : m ≤ 255) (hn1 : 0 ≤ n) (hn2 : n ≤ 255) (HMr : Hid (Int.tmod m 101 = (r : Int))) (HMt : Hid (Int.tmod n 101 = (t : Int))) (hpq : r ≤ t) (hq : t ≤ 100) (HX0 : Hid (qv n1 d1 = x0)) (HY0 : Hid (qv n2 d2 = y0)) (HX : Hid (qabs x0 = a)) (HY : Hid (qabs y0 = b)) (hsa : sz a ≤ 4) (hsb : sz b ≤ 4) (HA0 : Hid (0 ≤ a)) (HB0 : Hid (0 ≤ b)) (HC0 : Hid (sgQ (a - b) = c0)) (hc0 : ¬ 0 < c0) (HL : Hid (rlo a r = l)) (HL2 : Hid (rlo a t = l2)) (HH : Hid (rhi a r = h)) (HH2 : Hid (rhi a t = h2)) (HL3 : Hid (rlo b r = l3)) (HH3 : Hid (rhi b r = h3)) (HC1 : Hid (sgQ (l - l2) = c1)) (hc1 : ¬ 0 < c1) (HC2 : Hid (sgQ (h2 - h) = c2)) (hc2 : ¬ 0 < c2) (HC3 : Hid (sgQ (l - l3) = c3)) (hc3 : ¬ 0 < c3) (HC4 : Hid (sgQ (h - h3) = c4)) (hc4 : ¬ 0 < c4) (HC5 : Hid (sgQ (l2 - h2) = c5)) (hc5 : ¬ 0 < c5) (HT : Hid (Tab w)) :
    Calls Tryz.prog 7 #[(Value.agg #[.int .i64 (n1), .int .u32 (d1)]), (Value.agg #[.int .i64 (n2), .int .u32 (d2)]), .int .u8 (m), .int .u8 (n)] w fun e w' => e = .returned ((.bool true)) ∧ Below w.heap.size w w' := by
  have hwm : IntKind.i64.wrap m = m := by rw [IntKind.wrap_i64]; omega
  have hwn : IntKind.i64.wrap n = n := by rw [IntKind.wrap_i64]; omega
  go_enter Tryz.func7, Tryz.ntmps7
  have HF := Lib.hid (hp0 w)
  refine kS fun K hK => ?_
  refine wp_region_lit ?_
  go_wp2
  refine hK.out _ _ ?_; clear hK K
  show Code.wp _ _ _ _ _
  refine fH (((HF.out).al (b := w.heap.size) (by first | rfl | simp) (by decide)).al (b := w.heap.size + 1) (by first | rfl | simp) (by decide)) fun Wx0 HG => ?_
  clear HF; have HF := HG; clear HG
  generalize w.heap.size + 1 = gx1 at *
  have hrmr_2 : Int.tmod m 101 = (r : Int) := HMr.out
  have hrmt_5 : Int.tmod n 101 = (t : Int) := HMt.out
  refine kS fun K hK => ?_
  refine sq 8 [(true, 0), (true, 1), (true, 2), (true, 3), (true, 4), (true, 5), (true, 6), (true, 7)] fun T hT => ?_
  iterate 8 refine tk ?_
  refine nlS hT HF fun vw1 HG => ?_
  clear hT T HF
  go_wp2
  refine hK.out _ _ ?_; clear hK K
  show Code.wp _ _ _ _ _
  have HF := HG; clear HG
  clear hrmr_2 hrmt_5
  refine wp_seq ?_
  have hpg : ¬ (t : Int) < (r : Int) := by omega
  refine kS fun K hK => ?_
  refine sq 3 [(true, 0), (true, 1), (true, 2)] fun T hT => ?_
  iterate 3 refine tk ?_
  refine nlS hT HF fun vw2 HG => ?_
  clear hT T HF
  go_wp2
  refine hK.out _ _ ?_; clear hK K
  show Code.wp _ _ _ _ _
  have HF := HG; clear HG
  clear hpg
  refine wp_cond_false (by rfl) ?_
  refine wp_skip ?_
  show Code.wp _ _ _ _ _
  have HZ1 : Hid (qv (n1) (d1) = x0) := Lib.hid (HX0.out)
  have su1 : sz (x0) ≤ 4 := by have e := HZ1.out; first | omega | (rw [← e]; exact sz_qv (n1) (d1) om om om om)
  have HZ2 : Hid (qabs (x0) = a) := Lib.hid (HX.out)
  have su2 : sz (a) ≤ 4 := by have e := HZ2.out; first | omega | (rw [← e]; rw [sz_qabs]; omega)
  have HZ3 : Hid (qv (n2) (d2) = y0) := Lib.hid (HY0.out)
  have su3 : sz (y0) ≤ 4 := by have e := HZ3.out; first | omega | (rw [← e]; exact sz_qv (n2) (d2) om om om om)
  have HZ4 : Hid (qabs (y0) = b) := Lib.hid (HY.out)
  have su4 : sz (b) ≤ 4 := by have e := HZ4.out; first | omega | (rw [← e]; rw [sz_qabs]; omega)
  have lx0 := HF.out.c 0 rfl
  have lx1 := HF.out.c 1 rfl
  refine kS fun K hK => ?_
  refine wp_region_plan 8 [6, 7] [] (fun i => if i = 6 then 11 else 12) (fun i => if i = 6 then .cells #[.int .u64 0, .string ⟨#[]⟩, .bool false, .int .u64 0, .string ⟨#[]⟩] 36 else .cells #[.int .u64 0, .string ⟨#[]⟩, .bool false, .int .u64 0, .string ⟨#[]⟩] 36) [(true, 0), (true, 3), (true, 1), (true, 2), (true, 4), (true, 5)] (by kernel_rfl) (by kernel_rfl) (by intro i hi; simp only [List.mem_cons, List.not_mem_nil, or_false] at hi; rcases hi with rfl | rfl <;> exact ⟨_, rfl, rfl, rfl, by simp, fun ρ w => by kernel_rfl⟩) (fun i hi => by cases hi) (fun _ _ _ _ _ h => h) (fun T hT => ?_)
  iterate 2 refine tk ?_
  refine ck Tryz.call24 (fun w' hw => qv_any (n1) (d1) (x0) _ HZ1.out om om om om) ?_
  refine ck Tryz.call31 (fun w' hw => fabs_any (x0) (a) _ HZ2.out) ?_
  refine ck Tryz.call24 (fun w' hw => qv_any (n2) (d2) (y0) _ HZ3.out om om om om) ?_
  refine ck Tryz.call31 (fun w' hw => fabs_any (y0) (b) _ HZ4.out) ?_
  refine wpPlan_nil (hT.out _ _ ?_)
  intro G vw3 hg hf
  simp only [puts, Act.put, lA, lB, lC, lD, lE, ↓reduceIte, Nat.reduceEqDiff]
  have HG := Lib.hid (HF.out.fr hg hf (zs := [(#[.int .u64 0, .string ⟨#[]⟩, .bool false, .int .u64 0, .string ⟨#[]⟩], 36), (#[.int .u64 0, .string ⟨#[]⟩, .bool false, .int .u64 0, .string ⟨#[]⟩], 36)]) rfl (by decide) (by decide))
  simp only [List.zip_cons_cons, List.zip_nil_right, List.map_cons, List.map_nil, lF, lG] at HG
  clear hT T HF hg hf lx0 lx1
  generalize G 6 = gx3 at *
  generalize G 7 = gx4 at *
  have lx3 := HG.out.c 2 rfl; have fx3 := HG.out.f 2 rfl
  have lx4 := HG.out.c 3 rfl; have fx4 := HG.out.f 3 rfl
  have r0 := Gr.refl vw3
  obtain ⟨d3_4, d4_3⟩ := HG.out.ne 2 3 rfl rfl (by decide)
  go_wp2
  refine hK.out _ _ ?_; clear hK K
  show Code.wp _ _ _ _ _
  clear r0 lx3 fx3 lx4 fx4 d3_4 d4_3
  refine fH (((((((((HG.out).put2 2 0 rfl).put2 2 2 rfl).put 2 4 _ rfl).put2 3 0 rfl).put2 3 2 rfl).put 3 4 _ rfl).er 1).er 0) fun Wx4 HF => ?_
  clear HG
  refine wp_seq ?_
  have hcc0 : ¬ 0 < c0 := by omega
  have lx3 := HF.out.c 0 rfl
  have lx4 := HF.out.c 1 rfl
  refine kS fun K hK => ?_
  refine sq 4 [(true, 0), (true, 1), (true, 2), (true, 3)] fun T hT => ?_
  iterate 2 refine tk ?_
  refine ck Tryz.call38 (fun w' hw => fcmp_any (a) (b) (c0) _ (HC0.out) om om) ?_
  refine tk ?_
  refine nlS hT HF fun vw4 HG => ?_
  clear hT T HF lx3 lx4
  go_wp2
  refine hK.out _ _ ?_; clear hK K
  show Code.wp _ _ _ _ _
  have HF := HG; clear HG
  clear hcc0
  refine wp_cond_false (by rfl) ?_
  refine wp_skip ?_
  show Code.wp _ _ _ _ _
  have HZ5 : Hid (rlo (a) r = l) := Lib.hid (HL.out)
  have su5 : sz (l) ≤ 14 := by have e := HZ5.out; first | omega | (rw [← e]; exact Nat.le_trans (sz_rlo (by omega) om) (by omega))
  have lx3 := HF.out.c 0 rfl
  refine kS fun K hK => ?_
  refine sq 6 [(true, 0), (true, 1), (true, 2), (true, 3), (true, 4), (true, 5)] fun T hT => ?_
  iterate 2 refine tk ?_
  refine ck Tryz.call23 (fun w' hw => rBelow_ok (a) (l) r _ (Lib.hid (by first | exact ok | exact HA0.out | exact HB0.out)) (Lib.hid HZ5.out) (by omega) om) ?_
  iterate 3 refine tk ?_
  refine nlS hT HF fun vw5 HG => ?_
  clear hT T HF lx3
  go_wp2
  refine hK.out _ _ ?_; clear hK K
  show Code.wp _ _ _ _ _
  refine fH ((HG.out).al (b := vw5.heap.size) (by first | rfl | simp) (by decide)) fun Wx7 HF => ?_
  clear HG
  generalize vw5.heap.size = gx5 at *
  have HZ6 : Hid (rlo (a) t = l2) := Lib.hid (HL2.out)
  have su6 : sz (l2) ≤ 14 := by have e := HZ6.out; first | omega | (rw [← e]; exact Nat.le_trans (sz_rlo (by omega) om) (by omega))
  have lx3 := HF.out.c 0 rfl
  refine kS fun K hK => ?_
  refine sq 6 [(true, 0), (true, 1), (true, 2), (true, 3), (true, 4), (true, 5)] fun T hT => ?_
  iterate 2 refine tk ?_
  refine ck Tryz.call23 (fun w' hw => rBelow_ok (a) (l2) t _ (Lib.hid (by first | exact ok | exact HA0.out | exact HB0.out)) (Lib.hid HZ6.out) (by omega) om) ?_
  iterate 3 refine tk ?_
  refine nlS hT HF fun vw6 HG => ?_
  clear hT T HF lx3
  go_wp2
  refine hK.out _ _ ?_; clear hK K
  show Code.wp _ _ _ _ _
  refine fH ((HG.out).al (b := vw6.heap.size) (by first | rfl | simp) (by decide)) fun Wx8 HF => ?_
  clear HG
  generalize vw6.heap.size = gx6 at *
  have HZ7 : Hid (rhi (a) r = h) := Lib.hid (HH.out)
  have su7 : sz (h) ≤ 14 := by have e := HZ7.out; first | omega | (rw [← e]; exact Nat.le_trans (sz_rhi (by omega) om) (by omega))
  have lx3 := HF.out.c 0 rfl
  refine kS fun K hK => ?_
  refine sq 6 [(true, 0), (true, 1), (true, 2), (true, 3), (true, 4), (true, 5)] fun T hT => ?_
  iterate 2 refine tk ?_
  refine ck Tryz.call25 (fun w' hw => rAbove_ok (a) (h) r _ (Lib.hid (by first | exact ok | exact HA0.out | exact HB0.out)) (Lib.hid HZ7.out) (by omega) om) ?_
  iterate 3 refine tk ?_
  refine nlS hT HF fun vw7 HG => ?_
  clear hT T HF lx3
  go_wp2
  refine hK.out _ _ ?_; clear hK K
  show Code.wp _ _ _ _ _
  refine fH ((HG.out).al (b := vw7.heap.size) (by first | rfl | simp) (by decide)) fun Wx9 HF => ?_
  clear HG
  generalize vw7.heap.size = gx7 at *
  have HZ8 : Hid (rhi (a) t = h2) := Lib.hid (HH2.out)
  have su8 : sz (h2) ≤ 14 := by have e := HZ8.out; first | omega | (rw [← e]; exact Nat.le_trans (sz_rhi (by omega) om) (by omega))
  have lx3 := HF.out.c 0 rfl
  refine kS fun K hK => ?_
  refine sq 6 [(true, 0), (true, 1), (true, 2), (true, 3), (true, 4), (true, 5)] fun T hT => ?_
  iterate 2 refine tk ?_
  refine ck Tryz.call25 (fun w' hw => rAbove_ok (a) (h2) t _ (Lib.hid (by first | exact ok | exact HA0.out | exact HB0.out)) (Lib.hid HZ8.out) (by omega) om) ?_
  iterate 3 refine tk ?_
  refine nlS hT HF fun vw8 HG => ?_
  clear hT T HF lx3
  go_wp2
  refine hK.out _ _ ?_; clear hK K
  show Code.wp _ _ _ _ _
  refine fH ((HG.out).al (b := vw8.heap.size) (by first | rfl | simp) (by decide)) fun Wx10 HF => ?_
  clear HG
  generalize vw8.heap.size = gx8 at *
  have HZ9 : Hid (rlo (b) r = l3) := Lib.hid (HL3.out)
  have su9 : sz (l3) ≤ 14 := by have e := HZ9.out; first | omega | (rw [← e]; exact Nat.le_trans (sz_rlo (by omega) om) (by omega))
  have lx4 := HF.out.c 1 rfl
  refine kS fun K hK => ?_
  refine sq 6 [(true, 0), (true, 1), (true, 2), (true, 3), (true, 4), (true, 5)] fun T hT => ?_
  iterate 2 refine tk ?_
  refine ck Tryz.call23 (fun w' hw => rBelow_ok (b) (l3) r _ (Lib.hid (by first | exact ok | exact HA0.out | exact HB0.out)) (Lib.hid HZ9.out) (by omega) om) ?_
  iterate 3 refine tk ?_
  refine nlS hT HF fun vw9 HG => ?_
  clear hT T HF lx4
  go_wp2
  refine hK.out _ _ ?_; clear hK K
  show Code.wp _ _ _ _ _
  refine fH ((HG.out).al (b := vw9.heap.size) (by first | rfl | simp) (by decide)) fun Wx11 HF => ?_
  clear HG
  generalize vw9.heap.size = gx9 at *
  have HZ10 : Hid (rhi (b) r = h3) := Lib.hid (HH3.out)
  have su10 : sz (h3) ≤ 14 := by have e := HZ10.out; first | omega | (rw [← e]; exact Nat.le_trans (sz_rhi (by omega) om) (by omega))
  have lx4 := HF.out.c 1 rfl
  refine kS fun K hK => ?_
  refine sq 6 [(true, 0), (true, 1), (true, 2), (true, 3), (true, 4), (true, 5)] fun T hT => ?_
  iterate 2 refine tk ?_
  refine ck Tryz.call25 (fun w' hw => rAbove_ok (b) (h3) r _ (Lib.hid (by first | exact ok | exact HA0.out | exact HB0.out)) (Lib.hid HZ10.out) (by omega) om) ?_
  iterate 3 refine tk ?_
  refine nlS hT HF fun vw10 HG => ?_
  clear hT T HF lx4
  go_wp2
  refine hK.out _ _ ?_; clear hK K
  show Code.wp _ _ _ _ _
  refine fH (((HG.out).al (b := vw10.heap.size) (by first | rfl | simp) (by decide)).er 1) fun Wx12 HF => ?_
  clear HG
  generalize vw10.heap.size = gx10 at *
  refine wp_seq ?_
  have hcc1 : ¬ 0 < c1 := by omega
  have hcc2 : ¬ 0 < c2 := by omega
  have hcc3 : ¬ 0 < c3 := by omega
  have hcc4 : ¬ 0 < c4 := by omega
  have hcc5 : ¬ 0 < c5 := by omega
  have lx5 := HF.out.c 1 rfl
  have lx6 := HF.out.c 2 rfl
  have lx7 := HF.out.c 3 rfl
  have lx8 := HF.out.c 4 rfl
  have lx9 := HF.out.c 5 rfl
  have lx10 := HF.out.c 6 rfl
  refine kS fun K hK => ?_
  refine sq 28 [(true, 0), (true, 1), (true, 2), (true, 3), (true, 4), (true, 5), (true, 6), (true, 7), (true, 8), (true, 9), (true, 10), (true, 11), (true, 12), (true, 13), (true, 14), (true, 15), (true, 16), (true, 17), (true, 18), (true, 19), (true, 20), (true, 21), (true, 22), (true, 23), (true, 24), (true, 25), (true, 26), (true, 27)] fun T hT => ?_
  iterate 2 refine tk ?_
  refine ck Tryz.call38 (fun w' hw => fcmp_any (l) (l2) (c1) _ (by first | exact HC1.out | (simp only []; exact HC1.out)) om om) ?_
  iterate 4 refine tk ?_
  refine ck Tryz.call38 (fun w' hw => fcmp_any (h2) (h) (c2) _ (by first | exact HC2.out | (simp only []; exact HC2.out)) om om) ?_
  iterate 5 refine tk ?_
  refine ck Tryz.call38 (fun w' hw => fcmp_any (l) (l3) (c3) _ (by first | exact HC3.out | (simp only []; exact HC3.out)) om om) ?_
  iterate 5 refine tk ?_
  refine ck Tryz.call38 (fun w' hw => fcmp_any (h) (h3) (c4) _ (by first | exact HC4.out | (simp only []; exact HC4.out)) om om) ?_
  iterate 5 refine tk ?_
  refine ck Tryz.call38 (fun w' hw => fcmp_any (l2) (h2) (c5) _ (by first | exact HC5.out | (simp only []; exact HC5.out)) om om) ?_
  iterate 2 refine tk ?_
  refine nlS hT HF fun vw11 HG => ?_
  clear hT T HF lx5 lx6 lx7 lx8 lx9 lx10
  go_wp2
  refine hK.out _ _ ?_; clear hK K
  show Code.wp _ _ _ _ _
  refine fH (((((HG.out).er 6).er 5).er 3).er 1) fun Wx13 HF => ?_
  clear HG
  clear hcc1 hcc2 hcc3 hcc4 hcc5
  refine wp_cond_false (by rfl) ?_
  refine wp_skip ?_
  show Code.wp _ _ _ _ _
  refine wp_seq ?_
  rcases Nat.eq_zero_or_pos t with hq0 | hq0
  · have HQ0 := Lib.hid hq0
    clear hq0
    have hqz : ((t : Int) == 0) = true := by have h9 := HQ0.out; simp [h9]
    refine kS fun K hK => ?_
    refine sq 2 [(true, 0), (true, 1)] fun T hT => ?_
    iterate 2 refine tk ?_
    refine nlS hT HF fun vw12 HG => ?_
    clear hT T HF
    go_wp2
    refine hK.out _ _ ?_; clear hK K
    show Code.wp _ _ _ _ _
    have HF := HG; clear HG
    clear hqz
    refine wp_cond_true (by rfl) ?_
    have HB := HPb HF
    refine kS fun K hK => ?_
    refine sq 2 [(true, 0), (true, 1)] fun T hT => ?_
    refine ck Tryz.call22 (fun w' hw => works5_any _ (Lib.hid (HT.out.gr (Gr.trans HB.out hw)))) ?_
    refine tk ?_
    refine nlS hT HF fun vw13 HG => ?_
    clear hT T HF HB
    go_wp2
    refine hK.out _ _ ?_; clear hK K
    show Code.wp _ _ _ _ _
    have HF := HG; clear HG
    refine wp_ret ?_
    try simp only [Exit.then, Exit.inBlock]
    exact bodyPost_ret (v := .bool true) (by simp [results, Tryz.results7, go_sem]) rfl ⟨rfl, HF.out.1⟩
  · obtain ⟨j, hj⟩ : ∃ j, t = j + 1 := ⟨t - 1, by omega⟩
    have HQJ := Lib.hid hj
    have hjk : j ≤ 100 := by omega
    have HF1 : Hid ((2 : Rat) * l2 = rlo ((4 : Rat) * a) j) := Lib.hid (by rw [rlo_four, ← hj, HL2.out])
    have HF2 : Hid ((2 : Rat) * h2 = rhi ((4 : Rat) * a) j) := Lib.hid (by rw [rhi_four, ← hj, HH2.out])
    have HA4 : Hid (0 ≤ (4 : Rat) * a) := Lib.hid (Rat.mul_nonneg (by decide +kernel) HA0.out)
    clear hj hq0
    have hqz : ((t : Int) == 0) = false := by have h9 : ¬ ((t : Int) = 0) := (by have := HQJ.out; omega); simpa using h9
    refine kS fun K hK => ?_
    refine sq 2 [(true, 0), (true, 1)] fun T hT => ?_
    iterate 2 refine tk ?_
    refine nlS hT HF fun vw12 HG => ?_
    clear hT T HF
    go_wp2
    refine hK.out _ _ ?_; clear hK K
    show Code.wp _ _ _ _ _
    have HF := HG; clear HG
    clear hqz
    refine wp_cond_false (by rfl) ?_
    refine wp_skip ?_
    show Code.wp _ _ _ _ _
    have hwj : IntKind.i64.wrap ((t : Int) - 1) = (j : Int) := by have := HQJ.out; rw [IntKind.wrap_i64]; omega
    have HZ11 : Hid (((4 : Int) : Rat) = (4 : Rat)) := Lib.hid (by decide +kernel)
    have su11 : sz ((4 : Rat)) ≤ 2 := sz_of (wl_le.2 (by decide +kernel)) (wl_le.2 (by decide +kernel))
    obtain ⟨u12, HZ12⟩ : ∃ z, Hid ((4 : Rat) * (a) = z) := ⟨_, Lib.hid rfl⟩
    have su12 : sz (u12) ≤ 6 := by rw [← HZ12.out]; have := sz_mul (4 : Rat) (a); omega
    obtain ⟨u13, HZ13⟩ : ∃ z, Hid (rlo (u12) j = z) := ⟨_, Lib.hid rfl⟩
    have su13 : sz (u13) ≤ 16 := by rw [← HZ13.out]; exact Nat.le_trans (sz_rlo (by omega) om) (by omega)
    have lx3 := HF.out.c 0 rfl
    refine kS fun K hK => ?_
    refine wp_region_plan 10 [9] [8] (fun _ => 25) (fun _ => .cells #[.int .u64 0, .string ⟨#[]⟩, .bool false, .int .u64 0, .string ⟨#[]⟩] 36) [(true, 1), (true, 3), (true, 4), (true, 0), (true, 2), (true, 5), (true, 6), (true, 7), (true, 8)] (by kernel_rfl) (by kernel_rfl) (by intro i hi; simp only [List.mem_cons, List.not_mem_nil, or_false] at hi; rcases hi with rfl <;> exact ⟨_, rfl, rfl, rfl, by simp, fun ρ w => by kernel_rfl⟩) (by intro i hi; simp only [List.mem_cons, List.not_mem_nil, or_false] at hi; rcases hi with rfl <;> exact ⟨_, rfl, pure_extract⟩) (fun _ _ _ _ _ h => h) (fun T hT => ?_)
    iterate 3 refine tk ?_
    refine ck Tryz.call32 (fun w' hw => fint_any (4) (4 : Rat) _ HZ11.out om om) ?_
    refine ck Tryz.call39 (fun w' hw => fmul_any (4 : Rat) (a) (u12) _ HZ12.out om om) ?_
    refine ck Tryz.call23 (fun w' hw => rBelow_ok (u12) (u13) j _ (Lib.hid (by simp only [← HZ13.out, ← HZ12.out]; exact HA4.out)) (Lib.hid HZ13.out) (by omega) om) ?_
    iterate 3 refine tk ?_
    refine wpPlan_nil (hT.out _ _ ?_)
    intro G vw13 hg hf
    simp only [puts, Act.put, lA, lB, lC, lD, lE, ↓reduceIte, Nat.reduceEqDiff]
    have HG := Lib.hid (HF.out.fr hg hf (zs := [(#[.int .u64 0, .string ⟨#[]⟩, .bool false, .int .u64 0, .string ⟨#[]⟩], 36)]) rfl (by decide) (by decide))
    simp only [List.zip_cons_cons, List.zip_nil_right, List.map_cons, List.map_nil, lF, lG] at HG
    clear hT T HF hg hf lx3
    generalize G 9 = gx11 at *
    have lx11 := HG.out.c 3 rfl; have fx11 := HG.out.f 3 rfl
    have r0 := Gr.refl vw13
    go_wp2
    refine hK.out _ _ ?_; clear hK K
    show Code.wp _ _ _ _ _
    clear r0 lx11 fx11
    refine fH ((((HG.out).put2 3 0 rfl).put2 3 2 rfl).put 3 4 _ rfl) fun Wx17 HF => ?_
    clear HG
    clear hwj
    have hwj : IntKind.i64.wrap ((t : Int) - 1) = (j : Int) := by have := HQJ.out; rw [IntKind.wrap_i64]; omega
    have HZ14 : Hid (((4 : Int) : Rat) = (4 : Rat)) := Lib.hid (by decide +kernel)
    have su14 : sz ((4 : Rat)) ≤ 2 := sz_of (wl_le.2 (by decide +kernel)) (wl_le.2 (by decide +kernel))
    have HZ15 : Hid ((4 : Rat) * (a) = u12) := Lib.hid (by first | exact ok | exact HF1.out | exact HF2.out | exact HA0.out | exact HB0.out | (simp only [← HZ13.out, ← HZ12.out] <;> first | exact ok | exact HF1.out | exact HF2.out | exact HA0.out | exact HB0.out))
    have su15 : sz (u12) ≤ 6 := by have e := HZ15.out; first | omega | (rw [← e]; have := sz_mul (4 : Rat) (a); omega)
    obtain ⟨u16, HZ16⟩ : ∃ z, Hid (rhi (u12) j = z) := ⟨_, Lib.hid rfl⟩
    have su16 : sz (u16) ≤ 16 := by rw [← HZ16.out]; exact Nat.le_trans (sz_rhi (by omega) om) (by omega)
    have lx3 := HF.out.c 0 rfl
    refine kS fun K hK => ?_
    refine wp_region_plan 10 [9] [8] (fun _ => 27) (fun _ => .cells #[.int .u64 0, .string ⟨#[]⟩, .bool false, .int .u64 0, .string ⟨#[]⟩] 36) [(true, 1), (true, 3), (true, 4), (true, 0), (true, 2), (true, 5), (true, 6), (true, 7), (true, 8)] (by kernel_rfl) (by kernel_rfl) (by intro i hi; simp only [List.mem_cons, List.not_mem_nil, or_false] at hi; rcases hi with rfl <;> exact ⟨_, rfl, rfl, rfl, by simp, fun ρ w => by kernel_rfl⟩) (by intro i hi; simp only [List.mem_cons, List.not_mem_nil, or_false] at hi; rcases hi with rfl <;> exact ⟨_, rfl, pure_extract⟩) (fun _ _ _ _ _ h => h) (fun T hT => ?_)
    iterate 3 refine tk ?_
    refine ck Tryz.call32 (fun w' hw => fint_any (4) (4 : Rat) _ HZ14.out om om) ?_
    refine ck Tryz.call39 (fun w' hw => fmul_any (4 : Rat) (a) (u12) _ HZ15.out om om) ?_
    refine ck Tryz.call25 (fun w' hw => rAbove_ok (u12) (u16) j _ (Lib.hid (by simp only [← HZ16.out, ← HZ13.out, ← HZ12.out]; exact HA4.out)) (Lib.hid HZ16.out) (by omega) om) ?_
    iterate 3 refine tk ?_
    refine wpPlan_nil (hT.out _ _ ?_)
    intro G vw14 hg hf
    simp only [puts, Act.put, lA, lB, lC, lD, lE, ↓reduceIte, Nat.reduceEqDiff]
    have HG := Lib.hid (HF.out.fr hg hf (zs := [(#[.int .u64 0, .string ⟨#[]⟩, .bool false, .int .u64 0, .string ⟨#[]⟩], 36)]) rfl (by decide) (by decide))
    simp only [List.zip_cons_cons, List.zip_nil_right, List.map_cons, List.map_nil, lF, lG] at HG
    clear hT T HF hg hf lx3
    generalize G 9 = gx12 at *
    have lx12 := HG.out.c 4 rfl; have fx12 := HG.out.f 4 rfl
    have r0 := Gr.refl vw14
    go_wp2
    refine hK.out _ _ ?_; clear hK K
    show Code.wp _ _ _ _ _
    clear r0 lx12 fx12
    refine fH (((((HG.out).put2 4 0 rfl).put2 4 2 rfl).put 4 4 _ rfl).er 0) fun Wx18 HF => ?_
    clear HG
    clear hwj
    have HB := HPb HF
    have HZ17 : Hid (((2 : Int) : Rat) = (2 : Rat)) := Lib.hid (by decide +kernel)
    have su17 : sz ((2 : Rat)) ≤ 2 := sz_of (wl_le.2 (by decide +kernel)) (wl_le.2 (by decide +kernel))
    have HZ18 : Hid ((2 : Rat) * (l2) = u13) := Lib.hid (by first | exact ok | exact HF1.out | exact HF2.out | exact HA0.out | exact HB0.out | (simp only [← HZ16.out, ← HZ13.out, ← HZ12.out] <;> first | exact ok | exact HF1.out | exact HF2.out | exact HA0.out | exact HB0.out))
    have su18 : sz (u13) ≤ 16 := by have e := HZ18.out; first | omega | (rw [← e]; have := sz_mul (2 : Rat) (l2); omega)
    have HZ19 : Hid (((2 : Int) : Rat) = (2 : Rat)) := Lib.hid (by decide +kernel)
    have su19 : sz ((2 : Rat)) ≤ 2 := sz_of (wl_le.2 (by decide +kernel)) (wl_le.2 (by decide +kernel))
    have HZ20 : Hid ((2 : Rat) * (h2) = u16) := Lib.hid (by first | exact ok | exact HF1.out | exact HF2.out | exact HA0.out | exact HB0.out | (simp only [← HZ16.out, ← HZ13.out, ← HZ12.out] <;> first | exact ok | exact HF1.out | exact HF2.out | exact HA0.out | exact HB0.out))
    have su20 : sz (u16) ≤ 16 := by have e := HZ20.out; first | omega | (rw [← e]; have := sz_mul (2 : Rat) (h2); omega)
    have lx6 := HF.out.c 0 rfl
    have lx8 := HF.out.c 1 rfl
    have lx11 := HF.out.c 2 rfl
    have lx12 := HF.out.c 3 rfl
    refine kS fun K hK => ?_
    refine pd 23 [(true, 0), (true, 1), (true, 2), (true, 3), (true, 4), (true, 5), (true, 6), (true, 7), (true, 9), (true, 8), (true, 10), (true, 11), (true, 12), (true, 13), (true, 14), (true, 16), (true, 15), (true, 17), (true, 18), (true, 19), (true, 20), (true, 21), (true, 22)] fun T hT => ?_
    iterate 9 refine tk ?_
    refine ck Tryz.call32 (fun w' hw => fint_any (2) (2 : Rat) _ HZ17.out om om) ?_
    refine ck Tryz.call39 (fun w' hw => fmul_any (2 : Rat) (l2) (u13) _ HZ18.out om om) ?_
    iterate 5 refine tk ?_
    refine ck Tryz.call32 (fun w' hw => fint_any (2) (2 : Rat) _ HZ19.out om om) ?_
    refine ck Tryz.call39 (fun w' hw => fmul_any (2 : Rat) (h2) (u16) _ HZ20.out om om) ?_
    iterate 3 refine tk ?_
    refine ck Tryz.call22 (fun w' hw => works5_any _ (Lib.hid (HT.out.gr (Gr.trans HB.out hw)))) ?_
    refine tk ?_
    refine nlD hT HF fun vw15 HG => ?_
    clear hT T HF lx6 lx8 lx11 lx12 HB
    go_wp2
    refine hK.out _ _ ?_; clear hK K
    show Code.wp _ _ _ _ _
    refine fH (((((HG.out).er 3).er 2).er 1).er 0) fun Wx19 HF => ?_
    clear HG
    refine wp_ret ?_
    try simp only [Exit.then, Exit.inBlock]
    exact bodyPost_ret (v := .bool true) (by simp [results, Tryz.results7, go_sem]) rfl ⟨rfl, HF.out.1⟩

set_option maxRecDepth 100000 in
set_option maxHeartbeats 16000000 in
theorem rise_01 (n1 d1 n2 d2 m n : Int) (x0 y0 a b l l2 h h2 l3 h3 : Rat) (r t : Nat) (c0 c1 c2 c3 c4 c5 : Int) (w : World) (h1_1 : -9223372036854775808 ≤ n1) (h2_1 : n1 ≤ 9223372036854775807) (h3_1 : 0 ≤ d1) (h4_1 : d1 ≤ 4294967295) (h1_2 : -9223372036854775808 ≤ n2) (h2_2 : n2 ≤ 9223372036854775807) (h3_2 : 0 ≤ d2) (h4_2 : d2 ≤ 4294967295) (hm1 : 0 ≤ m) (hm2 : m ≤ 255) (hn1 : 0 ≤ n) (hn2 : n ≤ 255) (HMr : Hid (Int.tmod m 101 = (r : Int))) (HMt : Hid (Int.tmod n 101 = (t : Int))) (hpq : t < r) (hq : r ≤ 100) (HX0 : Hid (qv n1 d1 = x0)) (HY0 : Hid (qv n2 d2 = y0)) (HX : Hid (qabs x0 = a)) (HY : Hid (qabs y0 = b)) (hsa : sz a ≤ 4) (hsb : sz b ≤ 4) (HA0 : Hid (0 ≤ a)) (HB0 : Hid (0 ≤ b)) (HC0 : Hid (sgQ (a - b) = c0)) (hc0 : ¬ 0 < c0) (HL : Hid (rlo a t = l)) (HL2 : Hid (rlo a r = l2)) (HH : Hid (rhi a t = h)) (HH2 : Hid (rhi a r = h2)) (HL3 : Hid (rlo b t = l3)) (HH3 : Hid (rhi b t = h3)) (HC1 : Hid (sgQ (l - l2) = c1)) (hc1 : ¬ 0 < c1) (HC2 : Hid (sgQ (h2 - h) = c2)) (hc2 : ¬ 0 < c2) (HC3 : Hid (sgQ (l - l3) = c3)) (hc3 : ¬ 0 < c3) (HC4 : Hid (sgQ (h - h3) = c4)) (hc4 : ¬ 0 < c4) (HC5 : Hid (sgQ (l2 - h2) = c5)) (hc5 : ¬ 0 < c5) (HT : Hid (Tab w)) :
    Calls Tryz.prog 7 #[(Value.agg #[.int .i64 (n1), .int .u32 (d1)]), (Value.agg #[.int .i64 (n2), .int .u32 (d2)]), .int .u8 (m), .int .u8 (n)] w fun e w' => e = .returned ((.bool true)) ∧ Below w.heap.size w w' := by
  have hwm : IntKind.i64.wrap m = m := by rw [IntKind.wrap_i64]; omega
  have hwn : IntKind.i64.wrap n = n := by rw [IntKind.wrap_i64]; omega
  go_enter Tryz.func7, Tryz.ntmps7
  have HF := Lib.hid (hp0 w)
  refine kS fun K hK => ?_
  refine wp_region_lit ?_
  go_wp2
  refine hK.out _ _ ?_; clear hK K
  show Code.wp _ _ _ _ _
  refine fH (((HF.out).al (b := w.heap.size) (by first | rfl | simp) (by decide)).al (b := w.heap.size + 1) (by first | rfl | simp) (by decide)) fun Wx0 HG => ?_
  clear HF; have HF := HG; clear HG
  generalize w.heap.size + 1 = gx1 at *
  have hrmr_2 : Int.tmod m 101 = (r : Int) := HMr.out
  have hrmt_5 : Int.tmod n 101 = (t : Int) := HMt.out
  refine kS fun K hK => ?_
  refine sq 8 [(true, 0), (true, 1), (true, 2), (true, 3), (true, 4), (true, 5), (true, 6), (true, 7)] fun T hT => ?_
  iterate 8 refine tk ?_
  refine nlS hT HF fun vw1 HG => ?_
  clear hT T HF
  go_wp2
  refine hK.out _ _ ?_; clear hK K
  show Code.wp _ _ _ _ _
  have HF := HG; clear HG
  clear hrmr_2 hrmt_5
  refine wp_seq ?_
  have hpg : (t : Int) < (r : Int) := by omega
  refine kS fun K hK => ?_
  refine sq 3 [(true, 0), (true, 1), (true, 2)] fun T hT => ?_
  iterate 3 refine tk ?_
  refine nlS hT HF fun vw2 HG => ?_
  clear hT T HF
  go_wp2
  refine hK.out _ _ ?_; clear hK K
  show Code.wp _ _ _ _ _
  have HF := HG; clear HG
  clear hpg
  refine wp_cond_true (by rfl) ?_
  refine kL fun K hK => ?_
  refine sq 4 [(true, 0), (true, 1), (true, 2), (true, 3)] fun T hT => ?_
  iterate 4 refine tk ?_
  refine nlS hT HF fun vw3 HG => ?_
  clear hT T HF
  go_wp2
  refine hK.out _ _ ?_; clear hK K
  show Code.wp _ _ _ _ _
  have HF := HG; clear HG
  have HZ1 : Hid (qv (n1) (d1) = x0) := Lib.hid (HX0.out)
  have su1 : sz (x0) ≤ 4 := by have e := HZ1.out; first | omega | (rw [← e]; exact sz_qv (n1) (d1) om om om om)
  have HZ2 : Hid (qabs (x0) = a) := Lib.hid (HX.out)
  have su2 : sz (a) ≤ 4 := by have e := HZ2.out; first | omega | (rw [← e]; rw [sz_qabs]; omega)
  have HZ3 : Hid (qv (n2) (d2) = y0) := Lib.hid (HY0.out)
  have su3 : sz (y0) ≤ 4 := by have e := HZ3.out; first | omega | (rw [← e]; exact sz_qv (n2) (d2) om om om om)
  have HZ4 : Hid (qabs (y0) = b) := Lib.hid (HY.out)
  have su4 : sz (b) ≤ 4 := by have e := HZ4.out; first | omega | (rw [← e]; rw [sz_qabs]; omega)
  have lx0 := HF.out.c 0 rfl
  have lx1 := HF.out.c 1 rfl
  refine kS fun K hK => ?_
  refine wp_region_plan 8 [6, 7] [] (fun i => if i = 6 then 11 else 12) (fun i => if i = 6 then .cells #[.int .u64 0, .string ⟨#[]⟩, .bool false, .int .u64 0, .string ⟨#[]⟩] 36 else .cells #[.int .u64 0, .string ⟨#[]⟩, .bool false, .int .u64 0, .string ⟨#[]⟩] 36) [(true, 0), (true, 3), (true, 1), (true, 2), (true, 4), (true, 5)] (by kernel_rfl) (by kernel_rfl) (by intro i hi; simp only [List.mem_cons, List.not_mem_nil, or_false] at hi; rcases hi with rfl | rfl <;> exact ⟨_, rfl, rfl, rfl, by simp, fun ρ w => by kernel_rfl⟩) (fun i hi => by cases hi) (fun _ _ _ _ _ h => h) (fun T hT => ?_)
  iterate 2 refine tk ?_
  refine ck Tryz.call24 (fun w' hw => qv_any (n1) (d1) (x0) _ HZ1.out om om om om) ?_
  refine ck Tryz.call31 (fun w' hw => fabs_any (x0) (a) _ HZ2.out) ?_
  refine ck Tryz.call24 (fun w' hw => qv_any (n2) (d2) (y0) _ HZ3.out om om om om) ?_
  refine ck Tryz.call31 (fun w' hw => fabs_any (y0) (b) _ HZ4.out) ?_
  refine wpPlan_nil (hT.out _ _ ?_)
  intro G vw4 hg hf
  simp only [puts, Act.put, lA, lB, lC, lD, lE, ↓reduceIte, Nat.reduceEqDiff]
  have HG := Lib.hid (HF.out.fr hg hf (zs := [(#[.int .u64 0, .string ⟨#[]⟩, .bool false, .int .u64 0, .string ⟨#[]⟩], 36), (#[.int .u64 0, .string ⟨#[]⟩, .bool false, .int .u64 0, .string ⟨#[]⟩], 36)]) rfl (by decide) (by decide))
  simp only [List.zip_cons_cons, List.zip_nil_right, List.map_cons, List.map_nil, lF, lG] at HG
  clear hT T HF hg hf lx0 lx1
  generalize G 6 = gx3 at *
  generalize G 7 = gx4 at *
  have lx3 := HG.out.c 2 rfl; have fx3 := HG.out.f 2 rfl
  have lx4 := HG.out.c 3 rfl; have fx4 := HG.out.f 3 rfl
  have r0 := Gr.refl vw4
  obtain ⟨d3_4, d4_3⟩ := HG.out.ne 2 3 rfl rfl (by decide)
  go_wp2
  refine hK.out _ _ ?_; clear hK K
  show Code.wp _ _ _ _ _
  clear r0 lx3 fx3 lx4 fx4 d3_4 d4_3
  refine fH (((((((((HG.out).put2 2 0 rfl).put2 2 2 rfl).put 2 4 _ rfl).put2 3 0 rfl).put2 3 2 rfl).put 3 4 _ rfl).er 1).er 0) fun Wx4 HF => ?_
  clear HG
  refine wp_seq ?_
  have hcc0 : ¬ 0 < c0 := by omega
  have lx3 := HF.out.c 0 rfl
  have lx4 := HF.out.c 1 rfl
  refine kS fun K hK => ?_
  refine sq 4 [(true, 0), (true, 1), (true, 2), (true, 3)] fun T hT => ?_
  iterate 2 refine tk ?_
  refine ck Tryz.call38 (fun w' hw => fcmp_any (a) (b) (c0) _ (HC0.out) om om) ?_
  refine tk ?_
  refine nlS hT HF fun vw5 HG => ?_
  clear hT T HF lx3 lx4
  go_wp2
  refine hK.out _ _ ?_; clear hK K
  show Code.wp _ _ _ _ _
  have HF := HG; clear HG
  clear hcc0
  refine wp_cond_false (by rfl) ?_
  refine wp_skip ?_
  show Code.wp _ _ _ _ _
  have HZ5 : Hid (rlo (a) t = l) := Lib.hid (HL.out)
  have su5 : sz (l) ≤ 14 := by have e := HZ5.out; first | omega | (rw [← e]; exact Nat.le_trans (sz_rlo (by omega) om) (by omega))
  have lx3 := HF.out.c 0 rfl
  refine kS fun K hK => ?_
  refine sq 6 [(true, 0), (true, 1), (true, 2), (true, 3), (true, 4), (true, 5)] fun T hT => ?_
  iterate 2 refine tk ?_
  refine ck Tryz.call23 (fun w' hw => rBelow_ok (a) (l) t _ (Lib.hid (by first | exact ok | exact HA0.out | exact HB0.out)) (Lib.hid HZ5.out) (by omega) om) ?_
  iterate 3 refine tk ?_
  refine nlS hT HF fun vw6 HG => ?_
  clear hT T HF lx3
  go_wp2
  refine hK.out _ _ ?_; clear hK K
  show Code.wp _ _ _ _ _
  refine fH ((HG.out).al (b := vw6.heap.size) (by first | rfl | simp) (by decide)) fun Wx7 HF => ?_
  clear HG
  generalize vw6.heap.size = gx5 at *
  have HZ6 : Hid (rlo (a) r = l2) := Lib.hid (HL2.out)
  have su6 : sz (l2) ≤ 14 := by have e := HZ6.out; first | omega | (rw [← e]; exact Nat.le_trans (sz_rlo (by omega) om) (by omega))
  have lx3 := HF.out.c 0 rfl
  refine kS fun K hK => ?_
  refine sq 6 [(true, 0), (true, 1), (true, 2), (true, 3), (true, 4), (true, 5)] fun T hT => ?_
  iterate 2 refine tk ?_
  refine ck Tryz.call23 (fun w' hw => rBelow_ok (a) (l2) r _ (Lib.hid (by first | exact ok | exact HA0.out | exact HB0.out)) (Lib.hid HZ6.out) (by omega) om) ?_
  iterate 3 refine tk ?_
  refine nlS hT HF fun vw7 HG => ?_
  clear hT T HF lx3
  go_wp2
  refine hK.out _ _ ?_; clear hK K
  show Code.wp _ _ _ _ _
  refine fH ((HG.out).al (b := vw7.heap.size) (by first | rfl | simp) (by decide)) fun Wx8 HF => ?_
  clear HG
  generalize vw7.heap.size = gx6 at *
  have HZ7 : Hid (rhi (a) t = h) := Lib.hid (HH.out)
  have su7 : sz (h) ≤ 14 := by have e := HZ7.out; first | omega | (rw [← e]; exact Nat.le_trans (sz_rhi (by omega) om) (by omega))
  have lx3 := HF.out.c 0 rfl
  refine kS fun K hK => ?_
  refine sq 6 [(true, 0), (true, 1), (true, 2), (true, 3), (true, 4), (true, 5)] fun T hT => ?_
  iterate 2 refine tk ?_
  refine ck Tryz.call25 (fun w' hw => rAbove_ok (a) (h) t _ (Lib.hid (by first | exact ok | exact HA0.out | exact HB0.out)) (Lib.hid HZ7.out) (by omega) om) ?_
  iterate 3 refine tk ?_
  refine nlS hT HF fun vw8 HG => ?_
  clear hT T HF lx3
  go_wp2
  refine hK.out _ _ ?_; clear hK K
  show Code.wp _ _ _ _ _
  refine fH ((HG.out).al (b := vw8.heap.size) (by first | rfl | simp) (by decide)) fun Wx9 HF => ?_
  clear HG
  generalize vw8.heap.size = gx7 at *
  have HZ8 : Hid (rhi (a) r = h2) := Lib.hid (HH2.out)
  have su8 : sz (h2) ≤ 14 := by have e := HZ8.out; first | omega | (rw [← e]; exact Nat.le_trans (sz_rhi (by omega) om) (by omega))
  have lx3 := HF.out.c 0 rfl
  refine kS fun K hK => ?_
  refine sq 6 [(true, 0), (true, 1), (true, 2), (true, 3), (true, 4), (true, 5)] fun T hT => ?_
  iterate 2 refine tk ?_
  refine ck Tryz.call25 (fun w' hw => rAbove_ok (a) (h2) r _ (Lib.hid (by first | exact ok | exact HA0.out | exact HB0.out)) (Lib.hid HZ8.out) (by omega) om) ?_
  iterate 3 refine tk ?_
  refine nlS hT HF fun vw9 HG => ?_
  clear hT T HF lx3
  go_wp2
  refine hK.out _ _ ?_; clear hK K
  show Code.wp _ _ _ _ _
  refine fH ((HG.out).al (b := vw9.heap.size) (by first | rfl | simp) (by decide)) fun Wx10 HF => ?_
  clear HG
  generalize vw9.heap.size = gx8 at *
  have HZ9 : Hid (rlo (b) t = l3) := Lib.hid (HL3.out)
  have su9 : sz (l3) ≤ 14 := by have e := HZ9.out; first | omega | (rw [← e]; exact Nat.le_trans (sz_rlo (by omega) om) (by omega))
  have lx4 := HF.out.c 1 rfl
  refine kS fun K hK => ?_
  refine sq 6 [(true, 0), (true, 1), (true, 2), (true, 3), (true, 4), (true, 5)] fun T hT => ?_
  iterate 2 refine tk ?_
  refine ck Tryz.call23 (fun w' hw => rBelow_ok (b) (l3) t _ (Lib.hid (by first | exact ok | exact HA0.out | exact HB0.out)) (Lib.hid HZ9.out) (by omega) om) ?_
  iterate 3 refine tk ?_
  refine nlS hT HF fun vw10 HG => ?_
  clear hT T HF lx4
  go_wp2
  refine hK.out _ _ ?_; clear hK K
  show Code.wp _ _ _ _ _
  refine fH ((HG.out).al (b := vw10.heap.size) (by first | rfl | simp) (by decide)) fun Wx11 HF => ?_
  clear HG
  generalize vw10.heap.size = gx9 at *
  have HZ10 : Hid (rhi (b) t = h3) := Lib.hid (HH3.out)
  have su10 : sz (h3) ≤ 14 := by have e := HZ10.out; first | omega | (rw [← e]; exact Nat.le_trans (sz_rhi (by omega) om) (by omega))
  have lx4 := HF.out.c 1 rfl
  refine kS fun K hK => ?_
  refine sq 6 [(true, 0), (true, 1), (true, 2), (true, 3), (true, 4), (true, 5)] fun T hT => ?_
  iterate 2 refine tk ?_
  refine ck Tryz.call25 (fun w' hw => rAbove_ok (b) (h3) t _ (Lib.hid (by first | exact ok | exact HA0.out | exact HB0.out)) (Lib.hid HZ10.out) (by omega) om) ?_
  iterate 3 refine tk ?_
  refine nlS hT HF fun vw11 HG => ?_
  clear hT T HF lx4
  go_wp2
  refine hK.out _ _ ?_; clear hK K
  show Code.wp _ _ _ _ _
  refine fH (((HG.out).al (b := vw11.heap.size) (by first | rfl | simp) (by decide)).er 1) fun Wx12 HF => ?_
  clear HG
  generalize vw11.heap.size = gx10 at *
  refine wp_seq ?_
  have hcc1 : ¬ 0 < c1 := by omega
  have hcc2 : ¬ 0 < c2 := by omega
  have hcc3 : ¬ 0 < c3 := by omega
  have hcc4 : ¬ 0 < c4 := by omega
  have hcc5 : ¬ 0 < c5 := by omega
  have lx5 := HF.out.c 1 rfl
  have lx6 := HF.out.c 2 rfl
  have lx7 := HF.out.c 3 rfl
  have lx8 := HF.out.c 4 rfl
  have lx9 := HF.out.c 5 rfl
  have lx10 := HF.out.c 6 rfl
  refine kS fun K hK => ?_
  refine sq 28 [(true, 0), (true, 1), (true, 2), (true, 3), (true, 4), (true, 5), (true, 6), (true, 7), (true, 8), (true, 9), (true, 10), (true, 11), (true, 12), (true, 13), (true, 14), (true, 15), (true, 16), (true, 17), (true, 18), (true, 19), (true, 20), (true, 21), (true, 22), (true, 23), (true, 24), (true, 25), (true, 26), (true, 27)] fun T hT => ?_
  iterate 2 refine tk ?_
  refine ck Tryz.call38 (fun w' hw => fcmp_any (l) (l2) (c1) _ (by first | exact HC1.out | (simp only []; exact HC1.out)) om om) ?_
  iterate 4 refine tk ?_
  refine ck Tryz.call38 (fun w' hw => fcmp_any (h2) (h) (c2) _ (by first | exact HC2.out | (simp only []; exact HC2.out)) om om) ?_
  iterate 5 refine tk ?_
  refine ck Tryz.call38 (fun w' hw => fcmp_any (l) (l3) (c3) _ (by first | exact HC3.out | (simp only []; exact HC3.out)) om om) ?_
  iterate 5 refine tk ?_
  refine ck Tryz.call38 (fun w' hw => fcmp_any (h) (h3) (c4) _ (by first | exact HC4.out | (simp only []; exact HC4.out)) om om) ?_
  iterate 5 refine tk ?_
  refine ck Tryz.call38 (fun w' hw => fcmp_any (l2) (h2) (c5) _ (by first | exact HC5.out | (simp only []; exact HC5.out)) om om) ?_
  iterate 2 refine tk ?_
  refine nlS hT HF fun vw12 HG => ?_
  clear hT T HF lx5 lx6 lx7 lx8 lx9 lx10
  go_wp2
  refine hK.out _ _ ?_; clear hK K
  show Code.wp _ _ _ _ _
  refine fH (((((HG.out).er 6).er 5).er 3).er 1) fun Wx13 HF => ?_
  clear HG
  clear hcc1 hcc2 hcc3 hcc4 hcc5
  refine wp_cond_false (by rfl) ?_
  refine wp_skip ?_
  show Code.wp _ _ _ _ _
  refine wp_seq ?_
  rcases Nat.eq_zero_or_pos r with hq0 | hq0
  · have HQ0 := Lib.hid hq0
    clear hq0
    have hqz : ((r : Int) == 0) = true := by have h9 := HQ0.out; simp [h9]
    refine kS fun K hK => ?_
    refine sq 2 [(true, 0), (true, 1)] fun T hT => ?_
    iterate 2 refine tk ?_
    refine nlS hT HF fun vw13 HG => ?_
    clear hT T HF
    go_wp2
    refine hK.out _ _ ?_; clear hK K
    show Code.wp _ _ _ _ _
    have HF := HG; clear HG
    clear hqz
    refine wp_cond_true (by rfl) ?_
    have HB := HPb HF
    refine kS fun K hK => ?_
    refine sq 2 [(true, 0), (true, 1)] fun T hT => ?_
    refine ck Tryz.call22 (fun w' hw => works5_any _ (Lib.hid (HT.out.gr (Gr.trans HB.out hw)))) ?_
    refine tk ?_
    refine nlS hT HF fun vw14 HG => ?_
    clear hT T HF HB
    go_wp2
    refine hK.out _ _ ?_; clear hK K
    show Code.wp _ _ _ _ _
    have HF := HG; clear HG
    refine wp_ret ?_
    try simp only [Exit.then, Exit.inBlock]
    exact bodyPost_ret (v := .bool true) (by simp [results, Tryz.results7, go_sem]) rfl ⟨rfl, HF.out.1⟩
  · obtain ⟨j, hj⟩ : ∃ j, r = j + 1 := ⟨r - 1, by omega⟩
    have HQJ := Lib.hid hj
    have hjk : j ≤ 100 := by omega
    have HF1 : Hid ((2 : Rat) * l2 = rlo ((4 : Rat) * a) j) := Lib.hid (by rw [rlo_four, ← hj, HL2.out])
    have HF2 : Hid ((2 : Rat) * h2 = rhi ((4 : Rat) * a) j) := Lib.hid (by rw [rhi_four, ← hj, HH2.out])
    have HA4 : Hid (0 ≤ (4 : Rat) * a) := Lib.hid (Rat.mul_nonneg (by decide +kernel) HA0.out)
    clear hj hq0
    have hqz : ((r : Int) == 0) = false := by have h9 : ¬ ((r : Int) = 0) := (by have := HQJ.out; omega); simpa using h9
    refine kS fun K hK => ?_
    refine sq 2 [(true, 0), (true, 1)] fun T hT => ?_
    iterate 2 refine tk ?_
    refine nlS hT HF fun vw13 HG => ?_
    clear hT T HF
    go_wp2
    refine hK.out _ _ ?_; clear hK K
    show Code.wp _ _ _ _ _
    have HF := HG; clear HG
    clear hqz
    refine wp_cond_false (by rfl) ?_
    refine wp_skip ?_
    show Code.wp _ _ _ _ _
    have hwj : IntKind.i64.wrap ((r : Int) - 1) = (j : Int) := by have := HQJ.out; rw [IntKind.wrap_i64]; omega
    have HZ11 : Hid (((4 : Int) : Rat) = (4 : Rat)) := Lib.hid (by decide +kernel)
    have su11 : sz ((4 : Rat)) ≤ 2 := sz_of (wl_le.2 (by decide +kernel)) (wl_le.2 (by decide +kernel))
    obtain ⟨u12, HZ12⟩ : ∃ z, Hid ((4 : Rat) * (a) = z) := ⟨_, Lib.hid rfl⟩
    have su12 : sz (u12) ≤ 6 := by rw [← HZ12.out]; have := sz_mul (4 : Rat) (a); omega
    obtain ⟨u13, HZ13⟩ : ∃ z, Hid (rlo (u12) j = z) := ⟨_, Lib.hid rfl⟩
    have su13 : sz (u13) ≤ 16 := by rw [← HZ13.out]; exact Nat.le_trans (sz_rlo (by omega) om) (by omega)
    have lx3 := HF.out.c 0 rfl
    refine kS fun K hK => ?_
    refine wp_region_plan 10 [9] [8] (fun _ => 25) (fun _ => .cells #[.int .u64 0, .string ⟨#[]⟩, .bool false, .int .u64 0, .string ⟨#[]⟩] 36) [(true, 1), (true, 3), (true, 4), (true, 0), (true, 2), (true, 5), (true, 6), (true, 7), (true, 8)] (by kernel_rfl) (by kernel_rfl) (by intro i hi; simp only [List.mem_cons, List.not_mem_nil, or_false] at hi; rcases hi with rfl <;> exact ⟨_, rfl, rfl, rfl, by simp, fun ρ w => by kernel_rfl⟩) (by intro i hi; simp only [List.mem_cons, List.not_mem_nil, or_false] at hi; rcases hi with rfl <;> exact ⟨_, rfl, pure_extract⟩) (fun _ _ _ _ _ h => h) (fun T hT => ?_)
    iterate 3 refine tk ?_
    refine ck Tryz.call32 (fun w' hw => fint_any (4) (4 : Rat) _ HZ11.out om om) ?_
    refine ck Tryz.call39 (fun w' hw => fmul_any (4 : Rat) (a) (u12) _ HZ12.out om om) ?_
    refine ck Tryz.call23 (fun w' hw => rBelow_ok (u12) (u13) j _ (Lib.hid (by simp only [← HZ13.out, ← HZ12.out]; exact HA4.out)) (Lib.hid HZ13.out) (by omega) om) ?_
    iterate 3 refine tk ?_
    refine wpPlan_nil (hT.out _ _ ?_)
    intro G vw14 hg hf
    simp only [puts, Act.put, lA, lB, lC, lD, lE, ↓reduceIte, Nat.reduceEqDiff]
    have HG := Lib.hid (HF.out.fr hg hf (zs := [(#[.int .u64 0, .string ⟨#[]⟩, .bool false, .int .u64 0, .string ⟨#[]⟩], 36)]) rfl (by decide) (by decide))
    simp only [List.zip_cons_cons, List.zip_nil_right, List.map_cons, List.map_nil, lF, lG] at HG
    clear hT T HF hg hf lx3
    generalize G 9 = gx11 at *
    have lx11 := HG.out.c 3 rfl; have fx11 := HG.out.f 3 rfl
    have r0 := Gr.refl vw14
    go_wp2
    refine hK.out _ _ ?_; clear hK K
    show Code.wp _ _ _ _ _
    clear r0 lx11 fx11
    refine fH ((((HG.out).put2 3 0 rfl).put2 3 2 rfl).put 3 4 _ rfl) fun Wx17 HF => ?_
    clear HG
    clear hwj
    have hwj : IntKind.i64.wrap ((r : Int) - 1) = (j : Int) := by have := HQJ.out; rw [IntKind.wrap_i64]; omega
    have HZ14 : Hid (((4 : Int) : Rat) = (4 : Rat)) := Lib.hid (by decide +kernel)
    have su14 : sz ((4 : Rat)) ≤ 2 := sz_of (wl_le.2 (by decide +kernel)) (wl_le.2 (by decide +kernel))
    have HZ15 : Hid ((4 : Rat) * (a) = u12) := Lib.hid (by first | exact ok | exact HF1.out | exact HF2.out | exact HA0.out | exact HB0.out | (simp only [← HZ13.out, ← HZ12.out] <;> first | exact ok | exact HF1.out | exact HF2.out | exact HA0.out | exact HB0.out))
    have su15 : sz (u12) ≤ 6 := by have e := HZ15.out; first | omega | (rw [← e]; have := sz_mul (4 : Rat) (a); omega)
    obtain ⟨u16, HZ16⟩ : ∃ z, Hid (rhi (u12) j = z) := ⟨_, Lib.hid rfl⟩
    have su16 : sz (u16) ≤ 16 := by rw [← HZ16.out]; exact Nat.le_trans (sz_rhi (by omega) om) (by omega)
    have lx3 := HF.out.c 0 rfl
    refine kS fun K hK => ?_
    refine wp_region_plan 10 [9] [8] (fun _ => 27) (fun _ => .cells #[.int .u64 0, .string ⟨#[]⟩, .bool false, .int .u64 0, .string ⟨#[]⟩] 36) [(true, 1), (true, 3), (true, 4), (true, 0), (true, 2), (true, 5), (true, 6), (true, 7), (true, 8)] (by kernel_rfl) (by kernel_rfl) (by intro i hi; simp only [List.mem_cons, List.not_mem_nil, or_false] at hi; rcases hi with rfl <;> exact ⟨_, rfl, rfl, rfl, by simp, fun ρ w => by kernel_rfl⟩) (by intro i hi; simp only [List.mem_cons, List.not_mem_nil, or_false] at hi; rcases hi with rfl <;> exact ⟨_, rfl, pure_extract⟩) (fun _ _ _ _ _ h => h) (fun T hT => ?_)
    iterate 3 refine tk ?_
    refine ck Tryz.call32 (fun w' hw => fint_any (4) (4 : Rat) _ HZ14.out om om) ?_
    refine ck Tryz.call39 (fun w' hw => fmul_any (4 : Rat) (a) (u12) _ HZ15.out om om) ?_
    refine ck Tryz.call25 (fun w' hw => rAbove_ok (u12) (u16) j _ (Lib.hid (by simp only [← HZ16.out, ← HZ13.out, ← HZ12.out]; exact HA4.out)) (Lib.hid HZ16.out) (by omega) om) ?_
    iterate 3 refine tk ?_
    refine wpPlan_nil (hT.out _ _ ?_)
    intro G vw15 hg hf
    simp only [puts, Act.put, lA, lB, lC, lD, lE, ↓reduceIte, Nat.reduceEqDiff]
    have HG := Lib.hid (HF.out.fr hg hf (zs := [(#[.int .u64 0, .string ⟨#[]⟩, .bool false, .int .u64 0, .string ⟨#[]⟩], 36)]) rfl (by decide) (by decide))
    simp only [List.zip_cons_cons, List.zip_nil_right, List.map_cons, List.map_nil, lF, lG] at HG
    clear hT T HF hg hf lx3
    generalize G 9 = gx12 at *
    have lx12 := HG.out.c 4 rfl; have fx12 := HG.out.f 4 rfl
    have r0 := Gr.refl vw15
    go_wp2
    refine hK.out _ _ ?_; clear hK K
    show Code.wp _ _ _ _ _
    clear r0 lx12 fx12
    refine fH (((((HG.out).put2 4 0 rfl).put2 4 2 rfl).put 4 4 _ rfl).er 0) fun Wx18 HF => ?_
    clear HG
    clear hwj
    have HB := HPb HF
    have HZ17 : Hid (((2 : Int) : Rat) = (2 : Rat)) := Lib.hid (by decide +kernel)
    have su17 : sz ((2 : Rat)) ≤ 2 := sz_of (wl_le.2 (by decide +kernel)) (wl_le.2 (by decide +kernel))
    have HZ18 : Hid ((2 : Rat) * (l2) = u13) := Lib.hid (by first | exact ok | exact HF1.out | exact HF2.out | exact HA0.out | exact HB0.out | (simp only [← HZ16.out, ← HZ13.out, ← HZ12.out] <;> first | exact ok | exact HF1.out | exact HF2.out | exact HA0.out | exact HB0.out))
    have su18 : sz (u13) ≤ 16 := by have e := HZ18.out; first | omega | (rw [← e]; have := sz_mul (2 : Rat) (l2); omega)
    have HZ19 : Hid (((2 : Int) : Rat) = (2 : Rat)) := Lib.hid (by decide +kernel)
    have su19 : sz ((2 : Rat)) ≤ 2 := sz_of (wl_le.2 (by decide +kernel)) (wl_le.2 (by decide +kernel))
    have HZ20 : Hid ((2 : Rat) * (h2) = u16) := Lib.hid (by first | exact ok | exact HF1.out | exact HF2.out | exact HA0.out | exact HB0.out | (simp only [← HZ16.out, ← HZ13.out, ← HZ12.out] <;> first | exact ok | exact HF1.out | exact HF2.out | exact HA0.out | exact HB0.out))
    have su20 : sz (u16) ≤ 16 := by have e := HZ20.out; first | omega | (rw [← e]; have := sz_mul (2 : Rat) (h2); omega)
    have lx6 := HF.out.c 0 rfl
    have lx8 := HF.out.c 1 rfl
    have lx11 := HF.out.c 2 rfl
    have lx12 := HF.out.c 3 rfl
    refine kS fun K hK => ?_
    refine pd 23 [(true, 0), (true, 1), (true, 2), (true, 3), (true, 4), (true, 5), (true, 6), (true, 7), (true, 9), (true, 8), (true, 10), (true, 11), (true, 12), (true, 13), (true, 14), (true, 16), (true, 15), (true, 17), (true, 18), (true, 19), (true, 20), (true, 21), (true, 22)] fun T hT => ?_
    iterate 9 refine tk ?_
    refine ck Tryz.call32 (fun w' hw => fint_any (2) (2 : Rat) _ HZ17.out om om) ?_
    refine ck Tryz.call39 (fun w' hw => fmul_any (2 : Rat) (l2) (u13) _ HZ18.out om om) ?_
    iterate 5 refine tk ?_
    refine ck Tryz.call32 (fun w' hw => fint_any (2) (2 : Rat) _ HZ19.out om om) ?_
    refine ck Tryz.call39 (fun w' hw => fmul_any (2 : Rat) (h2) (u16) _ HZ20.out om om) ?_
    iterate 3 refine tk ?_
    refine ck Tryz.call22 (fun w' hw => works5_any _ (Lib.hid (HT.out.gr (Gr.trans HB.out hw)))) ?_
    refine tk ?_
    refine nlD hT HF fun vw16 HG => ?_
    clear hT T HF lx6 lx8 lx11 lx12 HB
    go_wp2
    refine hK.out _ _ ?_; clear hK K
    show Code.wp _ _ _ _ _
    refine fH (((((HG.out).er 3).er 2).er 1).er 0) fun Wx19 HF => ?_
    clear HG
    refine wp_ret ?_
    try simp only [Exit.then, Exit.inBlock]
    exact bodyPost_ret (v := .bool true) (by simp [results, Tryz.results7, go_sem]) rfl ⟨rfl, HF.out.1⟩

set_option maxRecDepth 100000 in
set_option maxHeartbeats 16000000 in
theorem rise_10 (n1 d1 n2 d2 m n : Int) (x0 y0 a b l l2 h h2 l3 h3 : Rat) (r t : Nat) (c0 c1 c2 c3 c4 c5 : Int) (w : World) (h1_1 : -9223372036854775808 ≤ n1) (h2_1 : n1 ≤ 9223372036854775807) (h3_1 : 0 ≤ d1) (h4_1 : d1 ≤ 4294967295) (h1_2 : -9223372036854775808 ≤ n2) (h2_2 : n2 ≤ 9223372036854775807) (h3_2 : 0 ≤ d2) (h4_2 : d2 ≤ 4294967295) (hm1 : 0 ≤ m) (hm2 : m ≤ 255) (hn1 : 0 ≤ n) (hn2 : n ≤ 255) (HMr : Hid (Int.tmod m 101 = (r : Int))) (HMt : Hid (Int.tmod n 101 = (t : Int))) (hpq : r ≤ t) (hq : t ≤ 100) (HX0 : Hid (qv n1 d1 = x0)) (HY0 : Hid (qv n2 d2 = y0)) (HX : Hid (qabs x0 = b)) (HY : Hid (qabs y0 = a)) (hsa : sz a ≤ 4) (hsb : sz b ≤ 4) (HA0 : Hid (0 ≤ a)) (HB0 : Hid (0 ≤ b)) (HC0 : Hid (sgQ (b - a) = c0)) (hc0 : 0 < c0) (HL : Hid (rlo a r = l)) (HL2 : Hid (rlo a t = l2)) (HH : Hid (rhi a r = h)) (HH2 : Hid (rhi a t = h2)) (HL3 : Hid (rlo b r = l3)) (HH3 : Hid (rhi b r = h3)) (HC1 : Hid (sgQ (l - l2) = c1)) (hc1 : ¬ 0 < c1) (HC2 : Hid (sgQ (h2 - h) = c2)) (hc2 : ¬ 0 < c2) (HC3 : Hid (sgQ (l - l3) = c3)) (hc3 : ¬ 0 < c3) (HC4 : Hid (sgQ (h - h3) = c4)) (hc4 : ¬ 0 < c4) (HC5 : Hid (sgQ (l2 - h2) = c5)) (hc5 : ¬ 0 < c5) (HT : Hid (Tab w)) :
    Calls Tryz.prog 7 #[(Value.agg #[.int .i64 (n1), .int .u32 (d1)]), (Value.agg #[.int .i64 (n2), .int .u32 (d2)]), .int .u8 (m), .int .u8 (n)] w fun e w' => e = .returned ((.bool true)) ∧ Below w.heap.size w w' := by
  have hwm : IntKind.i64.wrap m = m := by rw [IntKind.wrap_i64]; omega
  have hwn : IntKind.i64.wrap n = n := by rw [IntKind.wrap_i64]; omega
  go_enter Tryz.func7, Tryz.ntmps7
  have HF := Lib.hid (hp0 w)
  refine kS fun K hK => ?_
  refine wp_region_lit ?_
  go_wp2
  refine hK.out _ _ ?_; clear hK K
  show Code.wp _ _ _ _ _
  refine fH (((HF.out).al (b := w.heap.size) (by first | rfl | simp) (by decide)).al (b := w.heap.size + 1) (by first | rfl | simp) (by decide)) fun Wx0 HG => ?_
  clear HF; have HF := HG; clear HG
  generalize w.heap.size + 1 = gx1 at *
  have hrmr_2 : Int.tmod m 101 = (r : Int) := HMr.out
  have hrmt_5 : Int.tmod n 101 = (t : Int) := HMt.out
  refine kS fun K hK => ?_
  refine sq 8 [(true, 0), (true, 1), (true, 2), (true, 3), (true, 4), (true, 5), (true, 6), (true, 7)] fun T hT => ?_
  iterate 8 refine tk ?_
  refine nlS hT HF fun vw1 HG => ?_
  clear hT T HF
  go_wp2
  refine hK.out _ _ ?_; clear hK K
  show Code.wp _ _ _ _ _
  have HF := HG; clear HG
  clear hrmr_2 hrmt_5
  refine wp_seq ?_
  have hpg : ¬ (t : Int) < (r : Int) := by omega
  refine kS fun K hK => ?_
  refine sq 3 [(true, 0), (true, 1), (true, 2)] fun T hT => ?_
  iterate 3 refine tk ?_
  refine nlS hT HF fun vw2 HG => ?_
  clear hT T HF
  go_wp2
  refine hK.out _ _ ?_; clear hK K
  show Code.wp _ _ _ _ _
  have HF := HG; clear HG
  clear hpg
  refine wp_cond_false (by rfl) ?_
  refine wp_skip ?_
  show Code.wp _ _ _ _ _
  have HZ1 : Hid (qv (n1) (d1) = x0) := Lib.hid (HX0.out)
  have su1 : sz (x0) ≤ 4 := by have e := HZ1.out; first | omega | (rw [← e]; exact sz_qv (n1) (d1) om om om om)
  have HZ2 : Hid (qabs (x0) = b) := Lib.hid (HX.out)
  have su2 : sz (b) ≤ 4 := by have e := HZ2.out; first | omega | (rw [← e]; rw [sz_qabs]; omega)
  have HZ3 : Hid (qv (n2) (d2) = y0) := Lib.hid (HY0.out)
  have su3 : sz (y0) ≤ 4 := by have e := HZ3.out; first | omega | (rw [← e]; exact sz_qv (n2) (d2) om om om om)
  have HZ4 : Hid (qabs (y0) = a) := Lib.hid (HY.out)
  have su4 : sz (a) ≤ 4 := by have e := HZ4.out; first | omega | (rw [← e]; rw [sz_qabs]; omega)
  have lx0 := HF.out.c 0 rfl
  have lx1 := HF.out.c 1 rfl
  refine kS fun K hK => ?_
  refine wp_region_plan 8 [6, 7] [] (fun i => if i = 6 then 11 else 12) (fun i => if i = 6 then .cells #[.int .u64 0, .string ⟨#[]⟩, .bool false, .int .u64 0, .string ⟨#[]⟩] 36 else .cells #[.int .u64 0, .string ⟨#[]⟩, .bool false, .int .u64 0, .string ⟨#[]⟩] 36) [(true, 0), (true, 3), (true, 1), (true, 2), (true, 4), (true, 5)] (by kernel_rfl) (by kernel_rfl) (by intro i hi; simp only [List.mem_cons, List.not_mem_nil, or_false] at hi; rcases hi with rfl | rfl <;> exact ⟨_, rfl, rfl, rfl, by simp, fun ρ w => by kernel_rfl⟩) (fun i hi => by cases hi) (fun _ _ _ _ _ h => h) (fun T hT => ?_)
  iterate 2 refine tk ?_
  refine ck Tryz.call24 (fun w' hw => qv_any (n1) (d1) (x0) _ HZ1.out om om om om) ?_
  refine ck Tryz.call31 (fun w' hw => fabs_any (x0) (b) _ HZ2.out) ?_
  refine ck Tryz.call24 (fun w' hw => qv_any (n2) (d2) (y0) _ HZ3.out om om om om) ?_
  refine ck Tryz.call31 (fun w' hw => fabs_any (y0) (a) _ HZ4.out) ?_
  refine wpPlan_nil (hT.out _ _ ?_)
  intro G vw3 hg hf
  simp only [puts, Act.put, lA, lB, lC, lD, lE, ↓reduceIte, Nat.reduceEqDiff]
  have HG := Lib.hid (HF.out.fr hg hf (zs := [(#[.int .u64 0, .string ⟨#[]⟩, .bool false, .int .u64 0, .string ⟨#[]⟩], 36), (#[.int .u64 0, .string ⟨#[]⟩, .bool false, .int .u64 0, .string ⟨#[]⟩], 36)]) rfl (by decide) (by decide))
  simp only [List.zip_cons_cons, List.zip_nil_right, List.map_cons, List.map_nil, lF, lG] at HG
  clear hT T HF hg hf lx0 lx1
  generalize G 6 = gx3 at *
  generalize G 7 = gx4 at *
  have lx3 := HG.out.c 2 rfl; have fx3 := HG.out.f 2 rfl
  have lx4 := HG.out.c 3 rfl; have fx4 := HG.out.f 3 rfl
  have r0 := Gr.refl vw3
  obtain ⟨d3_4, d4_3⟩ := HG.out.ne 2 3 rfl rfl (by decide)
  go_wp2
  refine hK.out _ _ ?_; clear hK K
  show Code.wp _ _ _ _ _
  clear r0 lx3 fx3 lx4 fx4 d3_4 d4_3
  refine fH (((((((((HG.out).put2 2 0 rfl).put2 2 2 rfl).put 2 4 _ rfl).put2 3 0 rfl).put2 3 2 rfl).put 3 4 _ rfl).er 1).er 0) fun Wx4 HF => ?_
  clear HG
  refine wp_seq ?_
  have hcc0 : 0 < c0 := by omega
  have lx3 := HF.out.c 0 rfl
  have lx4 := HF.out.c 1 rfl
  refine kS fun K hK => ?_
  refine sq 4 [(true, 0), (true, 1), (true, 2), (true, 3)] fun T hT => ?_
  iterate 2 refine tk ?_
  refine ck Tryz.call38 (fun w' hw => fcmp_any (b) (a) (c0) _ (HC0.out) om om) ?_
  refine tk ?_
  refine nlS hT HF fun vw4 HG => ?_
  clear hT T HF lx3 lx4
  go_wp2
  refine hK.out _ _ ?_; clear hK K
  show Code.wp _ _ _ _ _
  have HF := HG; clear HG
  clear hcc0
  refine wp_cond_true (by rfl) ?_
  have lx3 := HF.out.c 0 rfl
  have lx4 := HF.out.c 1 rfl
  refine kL fun K hK => ?_
  refine sq 2 [(true, 0), (true, 1)] fun T hT => ?_
  iterate 2 refine tk ?_
  refine nlS hT HF fun vw5 HG => ?_
  clear hT T HF lx3 lx4
  have lx3 := HG.out.c 0 rfl; have fx3 := HG.out.f 0 rfl
  have lx4 := HG.out.c 1 rfl; have fx4 := HG.out.f 1 rfl
  have r0 := Gr.refl vw5
  obtain ⟨d3_4, d4_3⟩ := HG.out.ne 0 1 rfl rfl (by decide)
  go_wp2
  refine hK.out _ _ ?_; clear hK K
  show Code.wp _ _ _ _ _
  clear r0 lx3 fx3 lx4 fx4 d3_4 d4_3
  refine fH (((((((HG.out).put2 0 0 rfl).put2 0 2 rfl).put 0 4 _ rfl).put2 1 0 rfl).put2 1 2 rfl).put 1 4 _ rfl) fun Wx6 HF => ?_
  clear HG
  have HZ5 : Hid (rlo (a) r = l) := Lib.hid (HL.out)
  have su5 : sz (l) ≤ 14 := by have e := HZ5.out; first | omega | (rw [← e]; exact Nat.le_trans (sz_rlo (by omega) om) (by omega))
  have lx3 := HF.out.c 0 rfl
  refine kS fun K hK => ?_
  refine sq 6 [(true, 0), (true, 1), (true, 2), (true, 3), (true, 4), (true, 5)] fun T hT => ?_
  iterate 2 refine tk ?_
  refine ck Tryz.call23 (fun w' hw => rBelow_ok (a) (l) r _ (Lib.hid (by first | exact ok | exact HA0.out | exact HB0.out)) (Lib.hid HZ5.out) (by omega) om) ?_
  iterate 3 refine tk ?_
  refine nlS hT HF fun vw6 HG => ?_
  clear hT T HF lx3
  go_wp2
  refine hK.out _ _ ?_; clear hK K
  show Code.wp _ _ _ _ _
  refine fH ((HG.out).al (b := vw6.heap.size) (by first | rfl | simp) (by decide)) fun Wx7 HF => ?_
  clear HG
  generalize vw6.heap.size = gx5 at *
  have HZ6 : Hid (rlo (a) t = l2) := Lib.hid (HL2.out)
  have su6 : sz (l2) ≤ 14 := by have e := HZ6.out; first | omega | (rw [← e]; exact Nat.le_trans (sz_rlo (by omega) om) (by omega))
  have lx3 := HF.out.c 0 rfl
  refine kS fun K hK => ?_
  refine sq 6 [(true, 0), (true, 1), (true, 2), (true, 3), (true, 4), (true, 5)] fun T hT => ?_
  iterate 2 refine tk ?_
  refine ck Tryz.call23 (fun w' hw => rBelow_ok (a) (l2) t _ (Lib.hid (by first | exact ok | exact HA0.out | exact HB0.out)) (Lib.hid HZ6.out) (by omega) om) ?_
  iterate 3 refine tk ?_
  refine nlS hT HF fun vw7 HG => ?_
  clear hT T HF lx3
  go_wp2
  refine hK.out _ _ ?_; clear hK K
  show Code.wp _ _ _ _ _
  refine fH ((HG.out).al (b := vw7.heap.size) (by first | rfl | simp) (by decide)) fun Wx8 HF => ?_
  clear HG
  generalize vw7.heap.size = gx6 at *
  have HZ7 : Hid (rhi (a) r = h) := Lib.hid (HH.out)
  have su7 : sz (h) ≤ 14 := by have e := HZ7.out; first | omega | (rw [← e]; exact Nat.le_trans (sz_rhi (by omega) om) (by omega))
  have lx3 := HF.out.c 0 rfl
  refine kS fun K hK => ?_
  refine sq 6 [(true, 0), (true, 1), (true, 2), (true, 3), (true, 4), (true, 5)] fun T hT => ?_
  iterate 2 refine tk ?_
  refine ck Tryz.call25 (fun w' hw => rAbove_ok (a) (h) r _ (Lib.hid (by first | exact ok | exact HA0.out | exact HB0.out)) (Lib.hid HZ7.out) (by omega) om) ?_
  iterate 3 refine tk ?_
  refine nlS hT HF fun vw8 HG => ?_
  clear hT T HF lx3
  go_wp2
  refine hK.out _ _ ?_; clear hK K
  show Code.wp _ _ _ _ _
  refine fH ((HG.out).al (b := vw8.heap.size) (by first | rfl | simp) (by decide)) fun Wx9 HF => ?_
  clear HG
  generalize vw8.heap.size = gx7 at *
  have HZ8 : Hid (rhi (a) t = h2) := Lib.hid (HH2.out)
  have su8 : sz (h2) ≤ 14 := by have e := HZ8.out; first | omega | (rw [← e]; exact Nat.le_trans (sz_rhi (by omega) om) (by omega))
  have lx3 := HF.out.c 0 rfl
  refine kS fun K hK => ?_
  refine sq 6 [(true, 0), (true, 1), (true, 2), (true, 3), (true, 4), (true, 5)] fun T hT => ?_
  iterate 2 refine tk ?_
  refine ck Tryz.call25 (fun w' hw => rAbove_ok (a) (h2) t _ (Lib.hid (by first | exact ok | exact HA0.out | exact HB0.out)) (Lib.hid HZ8.out) (by omega) om) ?_
  iterate 3 refine tk ?_
  refine nlS hT HF fun vw9 HG => ?_
  clear hT T HF lx3
  go_wp2
  refine hK.out _ _ ?_; clear hK K
  show Code.wp _ _ _ _ _
  refine fH ((HG.out).al (b := vw9.heap.size) (by first | rfl | simp) (by decide)) fun Wx10 HF => ?_
  clear HG
  generalize vw9.heap.size = gx8 at *
  have HZ9 : Hid (rlo (b) r = l3) := Lib.hid (HL3.out)
  have su9 : sz (l3) ≤ 14 := by have e := HZ9.out; first | omega | (rw [← e]; exact Nat.le_trans (sz_rlo (by omega) om) (by omega))
  have lx4 := HF.out.c 1 rfl
  refine kS fun K hK => ?_
  refine sq 6 [(true, 0), (true, 1), (true, 2), (true, 3), (true, 4), (true, 5)] fun T hT => ?_
  iterate 2 refine tk ?_
  refine ck Tryz.call23 (fun w' hw => rBelow_ok (b) (l3) r _ (Lib.hid (by first | exact ok | exact HA0.out | exact HB0.out)) (Lib.hid HZ9.out) (by omega) om) ?_
  iterate 3 refine tk ?_
  refine nlS hT HF fun vw10 HG => ?_
  clear hT T HF lx4
  go_wp2
  refine hK.out _ _ ?_; clear hK K
  show Code.wp _ _ _ _ _
  refine fH ((HG.out).al (b := vw10.heap.size) (by first | rfl | simp) (by decide)) fun Wx11 HF => ?_
  clear HG
  generalize vw10.heap.size = gx9 at *
  have HZ10 : Hid (rhi (b) r = h3) := Lib.hid (HH3.out)
  have su10 : sz (h3) ≤ 14 := by have e := HZ10.out; first | omega | (rw [← e]; exact Nat.le_trans (sz_rhi (by omega) om) (by omega))
  have lx4 := HF.out.c 1 rfl
  refine kS fun K hK => ?_
  refine sq 6 [(true, 0), (true, 1), (true, 2), (true, 3), (true, 4), (true, 5)] fun T hT => ?_
  iterate 2 refine tk ?_
  refine ck Tryz.call25 (fun w' hw => rAbove_ok (b) (h3) r _ (Lib.hid (by first | exact ok | exact HA0.out | exact HB0.out)) (Lib.hid HZ10.out) (by omega) om) ?_
  iterate 3 refine tk ?_
  refine nlS hT HF fun vw11 HG => ?_
  clear hT T HF lx4
  go_wp2
  refine hK.out _ _ ?_; clear hK K
  show Code.wp _ _ _ _ _
  refine fH (((HG.out).al (b := vw11.heap.size) (by first | rfl | simp) (by decide)).er 1) fun Wx12 HF => ?_
  clear HG
  generalize vw11.heap.size = gx10 at *
  refine wp_seq ?_
  have hcc1 : ¬ 0 < c1 := by omega
  have hcc2 : ¬ 0 < c2 := by omega
  have hcc3 : ¬ 0 < c3 := by omega
  have hcc4 : ¬ 0 < c4 := by omega
  have hcc5 : ¬ 0 < c5 := by omega
  have lx5 := HF.out.c 1 rfl
  have lx6 := HF.out.c 2 rfl
  have lx7 := HF.out.c 3 rfl
  have lx8 := HF.out.c 4 rfl
  have lx9 := HF.out.c 5 rfl
  have lx10 := HF.out.c 6 rfl
  refine kS fun K hK => ?_
  refine sq 28 [(true, 0), (true, 1), (true, 2), (true, 3), (true, 4), (true, 5), (true, 6), (true, 7), (true, 8), (true, 9), (true, 10), (true, 11), (true, 12), (true, 13), (true, 14), (true, 15), (true, 16), (true, 17), (true, 18), (true, 19), (true, 20), (true, 21), (true, 22), (true, 23), (true, 24), (true, 25), (true, 26), (true, 27)] fun T hT => ?_
  iterate 2 refine tk ?_
  refine ck Tryz.call38 (fun w' hw => fcmp_any (l) (l2) (c1) _ (by first | exact HC1.out | (simp only []; exact HC1.out)) om om) ?_
  iterate 4 refine tk ?_
  refine ck Tryz.call38 (fun w' hw => fcmp_any (h2) (h) (c2) _ (by first | exact HC2.out | (simp only []; exact HC2.out)) om om) ?_
  iterate 5 refine tk ?_
  refine ck Tryz.call38 (fun w' hw => fcmp_any (l) (l3) (c3) _ (by first | exact HC3.out | (simp only []; exact HC3.out)) om om) ?_
  iterate 5 refine tk ?_
  refine ck Tryz.call38 (fun w' hw => fcmp_any (h) (h3) (c4) _ (by first | exact HC4.out | (simp only []; exact HC4.out)) om om) ?_
  iterate 5 refine tk ?_
  refine ck Tryz.call38 (fun w' hw => fcmp_any (l2) (h2) (c5) _ (by first | exact HC5.out | (simp only []; exact HC5.out)) om om) ?_
  iterate 2 refine tk ?_
  refine nlS hT HF fun vw12 HG => ?_
  clear hT T HF lx5 lx6 lx7 lx8 lx9 lx10
  go_wp2
  refine hK.out _ _ ?_; clear hK K
  show Code.wp _ _ _ _ _
  refine fH (((((HG.out).er 6).er 5).er 3).er 1) fun Wx13 HF => ?_
  clear HG
  clear hcc1 hcc2 hcc3 hcc4 hcc5
  refine wp_cond_false (by rfl) ?_
  refine wp_skip ?_
  show Code.wp _ _ _ _ _
  refine wp_seq ?_
  rcases Nat.eq_zero_or_pos t with hq0 | hq0
  · have HQ0 := Lib.hid hq0
    clear hq0
    have hqz : ((t : Int) == 0) = true := by have h9 := HQ0.out; simp [h9]
    refine kS fun K hK => ?_
    refine sq 2 [(true, 0), (true, 1)] fun T hT => ?_
    iterate 2 refine tk ?_
    refine nlS hT HF fun vw13 HG => ?_
    clear hT T HF
    go_wp2
    refine hK.out _ _ ?_; clear hK K
    show Code.wp _ _ _ _ _
    have HF := HG; clear HG
    clear hqz
    refine wp_cond_true (by rfl) ?_
    have HB := HPb HF
    refine kS fun K hK => ?_
    refine sq 2 [(true, 0), (true, 1)] fun T hT => ?_
    refine ck Tryz.call22 (fun w' hw => works5_any _ (Lib.hid (HT.out.gr (Gr.trans HB.out hw)))) ?_
    refine tk ?_
    refine nlS hT HF fun vw14 HG => ?_
    clear hT T HF HB
    go_wp2
    refine hK.out _ _ ?_; clear hK K
    show Code.wp _ _ _ _ _
    have HF := HG; clear HG
    refine wp_ret ?_
    try simp only [Exit.then, Exit.inBlock]
    exact bodyPost_ret (v := .bool true) (by simp [results, Tryz.results7, go_sem]) rfl ⟨rfl, HF.out.1⟩
  · obtain ⟨j, hj⟩ : ∃ j, t = j + 1 := ⟨t - 1, by omega⟩
    have HQJ := Lib.hid hj
    have hjk : j ≤ 100 := by omega
    have HF1 : Hid ((2 : Rat) * l2 = rlo ((4 : Rat) * a) j) := Lib.hid (by rw [rlo_four, ← hj, HL2.out])
    have HF2 : Hid ((2 : Rat) * h2 = rhi ((4 : Rat) * a) j) := Lib.hid (by rw [rhi_four, ← hj, HH2.out])
    have HA4 : Hid (0 ≤ (4 : Rat) * a) := Lib.hid (Rat.mul_nonneg (by decide +kernel) HA0.out)
    clear hj hq0
    have hqz : ((t : Int) == 0) = false := by have h9 : ¬ ((t : Int) = 0) := (by have := HQJ.out; omega); simpa using h9
    refine kS fun K hK => ?_
    refine sq 2 [(true, 0), (true, 1)] fun T hT => ?_
    iterate 2 refine tk ?_
    refine nlS hT HF fun vw13 HG => ?_
    clear hT T HF
    go_wp2
    refine hK.out _ _ ?_; clear hK K
    show Code.wp _ _ _ _ _
    have HF := HG; clear HG
    clear hqz
    refine wp_cond_false (by rfl) ?_
    refine wp_skip ?_
    show Code.wp _ _ _ _ _
    have hwj : IntKind.i64.wrap ((t : Int) - 1) = (j : Int) := by have := HQJ.out; rw [IntKind.wrap_i64]; omega
    have HZ11 : Hid (((4 : Int) : Rat) = (4 : Rat)) := Lib.hid (by decide +kernel)
    have su11 : sz ((4 : Rat)) ≤ 2 := sz_of (wl_le.2 (by decide +kernel)) (wl_le.2 (by decide +kernel))
    obtain ⟨u12, HZ12⟩ : ∃ z, Hid ((4 : Rat) * (a) = z) := ⟨_, Lib.hid rfl⟩
    have su12 : sz (u12) ≤ 6 := by rw [← HZ12.out]; have := sz_mul (4 : Rat) (a); omega
    obtain ⟨u13, HZ13⟩ : ∃ z, Hid (rlo (u12) j = z) := ⟨_, Lib.hid rfl⟩
    have su13 : sz (u13) ≤ 16 := by rw [← HZ13.out]; exact Nat.le_trans (sz_rlo (by omega) om) (by omega)
    have lx3 := HF.out.c 0 rfl
    refine kS fun K hK => ?_
    refine wp_region_plan 10 [9] [8] (fun _ => 25) (fun _ => .cells #[.int .u64 0, .string ⟨#[]⟩, .bool false, .int .u64 0, .string ⟨#[]⟩] 36) [(true, 1), (true, 3), (true, 4), (true, 0), (true, 2), (true, 5), (true, 6), (true, 7), (true, 8)] (by kernel_rfl) (by kernel_rfl) (by intro i hi; simp only [List.mem_cons, List.not_mem_nil, or_false] at hi; rcases hi with rfl <;> exact ⟨_, rfl, rfl, rfl, by simp, fun ρ w => by kernel_rfl⟩) (by intro i hi; simp only [List.mem_cons, List.not_mem_nil, or_false] at hi; rcases hi with rfl <;> exact ⟨_, rfl, pure_extract⟩) (fun _ _ _ _ _ h => h) (fun T hT => ?_)
    iterate 3 refine tk ?_
    refine ck Tryz.call32 (fun w' hw => fint_any (4) (4 : Rat) _ HZ11.out om om) ?_
    refine ck Tryz.call39 (fun w' hw => fmul_any (4 : Rat) (a) (u12) _ HZ12.out om om) ?_
    refine ck Tryz.call23 (fun w' hw => rBelow_ok (u12) (u13) j _ (Lib.hid (by simp only [← HZ13.out, ← HZ12.out]; exact HA4.out)) (Lib.hid HZ13.out) (by omega) om) ?_
    iterate 3 refine tk ?_
    refine wpPlan_nil (hT.out _ _ ?_)
    intro G vw14 hg hf
    simp only [puts, Act.put, lA, lB, lC, lD, lE, ↓reduceIte, Nat.reduceEqDiff]
    have HG := Lib.hid (HF.out.fr hg hf (zs := [(#[.int .u64 0, .string ⟨#[]⟩, .bool false, .int .u64 0, .string ⟨#[]⟩], 36)]) rfl (by decide) (by decide))
    simp only [List.zip_cons_cons, List.zip_nil_right, List.map_cons, List.map_nil, lF, lG] at HG
    clear hT T HF hg hf lx3
    generalize G 9 = gx11 at *
    have lx11 := HG.out.c 3 rfl; have fx11 := HG.out.f 3 rfl
    have r0 := Gr.refl vw14
    go_wp2
    refine hK.out _ _ ?_; clear hK K
    show Code.wp _ _ _ _ _
    clear r0 lx11 fx11
    refine fH ((((HG.out).put2 3 0 rfl).put2 3 2 rfl).put 3 4 _ rfl) fun Wx17 HF => ?_
    clear HG
    clear hwj
    have hwj : IntKind.i64.wrap ((t : Int) - 1) = (j : Int) := by have := HQJ.out; rw [IntKind.wrap_i64]; omega
    have HZ14 : Hid (((4 : Int) : Rat) = (4 : Rat)) := Lib.hid (by decide +kernel)
    have su14 : sz ((4 : Rat)) ≤ 2 := sz_of (wl_le.2 (by decide +kernel)) (wl_le.2 (by decide +kernel))
    have HZ15 : Hid ((4 : Rat) * (a) = u12) := Lib.hid (by first | exact ok | exact HF1.out | exact HF2.out | exact HA0.out | exact HB0.out | (simp only [← HZ13.out, ← HZ12.out] <;> first | exact ok | exact HF1.out | exact HF2.out | exact HA0.out | exact HB0.out))
    have su15 : sz (u12) ≤ 6 := by have e := HZ15.out; first | omega | (rw [← e]; have := sz_mul (4 : Rat) (a); omega)
    obtain ⟨u16, HZ16⟩ : ∃ z, Hid (rhi (u12) j = z) := ⟨_, Lib.hid rfl⟩
    have su16 : sz (u16) ≤ 16 := by rw [← HZ16.out]; exact Nat.le_trans (sz_rhi (by omega) om) (by omega)
    have lx3 := HF.out.c 0 rfl
    refine kS fun K hK => ?_
    refine wp_region_plan 10 [9] [8] (fun _ => 27) (fun _ => .cells #[.int .u64 0, .string ⟨#[]⟩, .bool false, .int .u64 0, .string ⟨#[]⟩] 36) [(true, 1), (true, 3), (true, 4), (true, 0), (true, 2), (true, 5), (true, 6), (true, 7), (true, 8)] (by kernel_rfl) (by kernel_rfl) (by intro i hi; simp only [List.mem_cons, List.not_mem_nil, or_false] at hi; rcases hi with rfl <;> exact ⟨_, rfl, rfl, rfl, by simp, fun ρ w => by kernel_rfl⟩) (by intro i hi; simp only [List.mem_cons, List.not_mem_nil, or_false] at hi; rcases hi with rfl <;> exact ⟨_, rfl, pure_extract⟩) (fun _ _ _ _ _ h => h) (fun T hT => ?_)
    iterate 3 refine tk ?_
    refine ck Tryz.call32 (fun w' hw => fint_any (4) (4 : Rat) _ HZ14.out om om) ?_
    refine ck Tryz.call39 (fun w' hw => fmul_any (4 : Rat) (a) (u12) _ HZ15.out om om) ?_
    refine ck Tryz.call25 (fun w' hw => rAbove_ok (u12) (u16) j _ (Lib.hid (by simp only [← HZ16.out, ← HZ13.out, ← HZ12.out]; exact HA4.out)) (Lib.hid HZ16.out) (by omega) om) ?_
    iterate 3 refine tk ?_
    refine wpPlan_nil (hT.out _ _ ?_)
    intro G vw15 hg hf
    simp only [puts, Act.put, lA, lB, lC, lD, lE, ↓reduceIte, Nat.reduceEqDiff]
    have HG := Lib.hid (HF.out.fr hg hf (zs := [(#[.int .u64 0, .string ⟨#[]⟩, .bool false, .int .u64 0, .string ⟨#[]⟩], 36)]) rfl (by decide) (by decide))
    simp only [List.zip_cons_cons, List.zip_nil_right, List.map_cons, List.map_nil, lF, lG] at HG
    clear hT T HF hg hf lx3
    generalize G 9 = gx12 at *
    have lx12 := HG.out.c 4 rfl; have fx12 := HG.out.f 4 rfl
    have r0 := Gr.refl vw15
    go_wp2
    refine hK.out _ _ ?_; clear hK K
    show Code.wp _ _ _ _ _
    clear r0 lx12 fx12
    refine fH (((((HG.out).put2 4 0 rfl).put2 4 2 rfl).put 4 4 _ rfl).er 0) fun Wx18 HF => ?_
    clear HG
    clear hwj
    have HB := HPb HF
    have HZ17 : Hid (((2 : Int) : Rat) = (2 : Rat)) := Lib.hid (by decide +kernel)
    have su17 : sz ((2 : Rat)) ≤ 2 := sz_of (wl_le.2 (by decide +kernel)) (wl_le.2 (by decide +kernel))
    have HZ18 : Hid ((2 : Rat) * (l2) = u13) := Lib.hid (by first | exact ok | exact HF1.out | exact HF2.out | exact HA0.out | exact HB0.out | (simp only [← HZ16.out, ← HZ13.out, ← HZ12.out] <;> first | exact ok | exact HF1.out | exact HF2.out | exact HA0.out | exact HB0.out))
    have su18 : sz (u13) ≤ 16 := by have e := HZ18.out; first | omega | (rw [← e]; have := sz_mul (2 : Rat) (l2); omega)
    have HZ19 : Hid (((2 : Int) : Rat) = (2 : Rat)) := Lib.hid (by decide +kernel)
    have su19 : sz ((2 : Rat)) ≤ 2 := sz_of (wl_le.2 (by decide +kernel)) (wl_le.2 (by decide +kernel))
    have HZ20 : Hid ((2 : Rat) * (h2) = u16) := Lib.hid (by first | exact ok | exact HF1.out | exact HF2.out | exact HA0.out | exact HB0.out | (simp only [← HZ16.out, ← HZ13.out, ← HZ12.out] <;> first | exact ok | exact HF1.out | exact HF2.out | exact HA0.out | exact HB0.out))
    have su20 : sz (u16) ≤ 16 := by have e := HZ20.out; first | omega | (rw [← e]; have := sz_mul (2 : Rat) (h2); omega)
    have lx6 := HF.out.c 0 rfl
    have lx8 := HF.out.c 1 rfl
    have lx11 := HF.out.c 2 rfl
    have lx12 := HF.out.c 3 rfl
    refine kS fun K hK => ?_
    refine pd 23 [(true, 0), (true, 1), (true, 2), (true, 3), (true, 4), (true, 5), (true, 6), (true, 7), (true, 9), (true, 8), (true, 10), (true, 11), (true, 12), (true, 13), (true, 14), (true, 16), (true, 15), (true, 17), (true, 18), (true, 19), (true, 20), (true, 21), (true, 22)] fun T hT => ?_
    iterate 9 refine tk ?_
    refine ck Tryz.call32 (fun w' hw => fint_any (2) (2 : Rat) _ HZ17.out om om) ?_
    refine ck Tryz.call39 (fun w' hw => fmul_any (2 : Rat) (l2) (u13) _ HZ18.out om om) ?_
    iterate 5 refine tk ?_
    refine ck Tryz.call32 (fun w' hw => fint_any (2) (2 : Rat) _ HZ19.out om om) ?_
    refine ck Tryz.call39 (fun w' hw => fmul_any (2 : Rat) (h2) (u16) _ HZ20.out om om) ?_
    iterate 3 refine tk ?_
    refine ck Tryz.call22 (fun w' hw => works5_any _ (Lib.hid (HT.out.gr (Gr.trans HB.out hw)))) ?_
    refine tk ?_
    refine nlD hT HF fun vw16 HG => ?_
    clear hT T HF lx6 lx8 lx11 lx12 HB
    go_wp2
    refine hK.out _ _ ?_; clear hK K
    show Code.wp _ _ _ _ _
    refine fH (((((HG.out).er 3).er 2).er 1).er 0) fun Wx19 HF => ?_
    clear HG
    refine wp_ret ?_
    try simp only [Exit.then, Exit.inBlock]
    exact bodyPost_ret (v := .bool true) (by simp [results, Tryz.results7, go_sem]) rfl ⟨rfl, HF.out.1⟩

set_option maxRecDepth 100000 in
set_option maxHeartbeats 16000000 in
theorem rise_11 (n1 d1 n2 d2 m n : Int) (x0 y0 a b l l2 h h2 l3 h3 : Rat) (r t : Nat) (c0 c1 c2 c3 c4 c5 : Int) (w : World) (h1_1 : -9223372036854775808 ≤ n1) (h2_1 : n1 ≤ 9223372036854775807) (h3_1 : 0 ≤ d1) (h4_1 : d1 ≤ 4294967295) (h1_2 : -9223372036854775808 ≤ n2) (h2_2 : n2 ≤ 9223372036854775807) (h3_2 : 0 ≤ d2) (h4_2 : d2 ≤ 4294967295) (hm1 : 0 ≤ m) (hm2 : m ≤ 255) (hn1 : 0 ≤ n) (hn2 : n ≤ 255) (HMr : Hid (Int.tmod m 101 = (r : Int))) (HMt : Hid (Int.tmod n 101 = (t : Int))) (hpq : t < r) (hq : r ≤ 100) (HX0 : Hid (qv n1 d1 = x0)) (HY0 : Hid (qv n2 d2 = y0)) (HX : Hid (qabs x0 = b)) (HY : Hid (qabs y0 = a)) (hsa : sz a ≤ 4) (hsb : sz b ≤ 4) (HA0 : Hid (0 ≤ a)) (HB0 : Hid (0 ≤ b)) (HC0 : Hid (sgQ (b - a) = c0)) (hc0 : 0 < c0) (HL : Hid (rlo a t = l)) (HL2 : Hid (rlo a r = l2)) (HH : Hid (rhi a t = h)) (HH2 : Hid (rhi a r = h2)) (HL3 : Hid (rlo b t = l3)) (HH3 : Hid (rhi b t = h3)) (HC1 : Hid (sgQ (l - l2) = c1)) (hc1 : ¬ 0 < c1) (HC2 : Hid (sgQ (h2 - h) = c2)) (hc2 : ¬ 0 < c2) (HC3 : Hid (sgQ (l - l3) = c3)) (hc3 : ¬ 0 < c3) (HC4 : Hid (sgQ (h - h3) = c4)) (hc4 : ¬ 0 < c4) (HC5 : Hid (sgQ (l2 - h2) = c5)) (hc5 : ¬ 0 < c5) (HT : Hid (Tab w)) :
    Calls Tryz.prog 7 #[(Value.agg #[.int .i64 (n1), .int .u32 (d1)]), (Value.agg #[.int .i64 (n2), .int .u32 (d2)]), .int .u8 (m), .int .u8 (n)] w fun e w' => e = .returned ((.bool true)) ∧ Below w.heap.size w w' := by
  have hwm : IntKind.i64.wrap m = m := by rw [IntKind.wrap_i64]; omega
  have hwn : IntKind.i64.wrap n = n := by rw [IntKind.wrap_i64]; omega
  go_enter Tryz.func7, Tryz.ntmps7
  have HF := Lib.hid (hp0 w)
  refine kS fun K hK => ?_
  refine wp_region_lit ?_
  go_wp2
  refine hK.out _ _ ?_; clear hK K
  show Code.wp _ _ _ _ _
  refine fH (((HF.out).al (b := w.heap.size) (by first | rfl | simp) (by decide)).al (b := w.heap.size + 1) (by first | rfl | simp) (by decide)) fun Wx0 HG => ?_
  clear HF; have HF := HG; clear HG
  generalize w.heap.size + 1 = gx1 at *
  have hrmr_2 : Int.tmod m 101 = (r : Int) := HMr.out
  have hrmt_5 : Int.tmod n 101 = (t : Int) := HMt.out
  refine kS fun K hK => ?_
  refine sq 8 [(true, 0), (true, 1), (true, 2), (true, 3), (true, 4), (true, 5), (true, 6), (true, 7)] fun T hT => ?_
  iterate 8 refine tk ?_
  refine nlS hT HF fun vw1 HG => ?_
  clear hT T HF
  go_wp2
  refine hK.out _ _ ?_; clear hK K
  show Code.wp _ _ _ _ _
  have HF := HG; clear HG
  clear hrmr_2 hrmt_5
  refine wp_seq ?_
  have hpg : (t : Int) < (r : Int) := by omega
  refine kS fun K hK => ?_
  refine sq 3 [(true, 0), (true, 1), (true, 2)] fun T hT => ?_
  iterate 3 refine tk ?_
  refine nlS hT HF fun vw2 HG => ?_
  clear hT T HF
  go_wp2
  refine hK.out _ _ ?_; clear hK K
  show Code.wp _ _ _ _ _
  have HF := HG; clear HG
  clear hpg
  refine wp_cond_true (by rfl) ?_
  refine kL fun K hK => ?_
  refine sq 4 [(true, 0), (true, 1), (true, 2), (true, 3)] fun T hT => ?_
  iterate 4 refine tk ?_
  refine nlS hT HF fun vw3 HG => ?_
  clear hT T HF
  go_wp2
  refine hK.out _ _ ?_; clear hK K
  show Code.wp _ _ _ _ _
  have HF := HG; clear HG
  have HZ1 : Hid (qv (n1) (d1) = x0) := Lib.hid (HX0.out)
  have su1 : sz (x0) ≤ 4 := by have e := HZ1.out; first | omega | (rw [← e]; exact sz_qv (n1) (d1) om om om om)
  have HZ2 : Hid (qabs (x0) = b) := Lib.hid (HX.out)
  have su2 : sz (b) ≤ 4 := by have e := HZ2.out; first | omega | (rw [← e]; rw [sz_qabs]; omega)
  have HZ3 : Hid (qv (n2) (d2) = y0) := Lib.hid (HY0.out)
  have su3 : sz (y0) ≤ 4 := by have e := HZ3.out; first | omega | (rw [← e]; exact sz_qv (n2) (d2) om om om om)
  have HZ4 : Hid (qabs (y0) = a) := Lib.hid (HY.out)
  have su4 : sz (a) ≤ 4 := by have e := HZ4.out; first | omega | (rw [← e]; rw [sz_qabs]; omega)
  have lx0 := HF.out.c 0 rfl
  have lx1 := HF.out.c 1 rfl
  refine kS fun K hK => ?_
  refine wp_region_plan 8 [6, 7] [] (fun i => if i = 6 then 11 else 12) (fun i => if i = 6 then .cells #[.int .u64 0, .string ⟨#[]⟩, .bool false, .int .u64 0, .string ⟨#[]⟩] 36 else .cells #[.int .u64 0, .string ⟨#[]⟩, .bool false, .int .u64 0, .string ⟨#[]⟩] 36) [(true, 0), (true, 3), (true, 1), (true, 2), (true, 4), (true, 5)] (by kernel_rfl) (by kernel_rfl) (by intro i hi; simp only [List.mem_cons, List.not_mem_nil, or_false] at hi; rcases hi with rfl | rfl <;> exact ⟨_, rfl, rfl, rfl, by simp, fun ρ w => by kernel_rfl⟩) (fun i hi => by cases hi) (fun _ _ _ _ _ h => h) (fun T hT => ?_)
  iterate 2 refine tk ?_
  refine ck Tryz.call24 (fun w' hw => qv_any (n1) (d1) (x0) _ HZ1.out om om om om) ?_
  refine ck Tryz.call31 (fun w' hw => fabs_any (x0) (b) _ HZ2.out) ?_
  refine ck Tryz.call24 (fun w' hw => qv_any (n2) (d2) (y0) _ HZ3.out om om om om) ?_
  refine ck Tryz.call31 (fun w' hw => fabs_any (y0) (a) _ HZ4.out) ?_
  refine wpPlan_nil (hT.out _ _ ?_)
  intro G vw4 hg hf
  simp only [puts, Act.put, lA, lB, lC, lD, lE, ↓reduceIte, Nat.reduceEqDiff]
  have HG := Lib.hid (HF.out.fr hg hf (zs := [(#[.int .u64 0, .string ⟨#[]⟩, .bool false, .int .u64 0, .string ⟨#[]⟩], 36), (#[.int .u64 0, .string ⟨#[]⟩, .bool false, .int .u64 0, .string ⟨#[]⟩], 36)]) rfl (by decide) (by decide))
  simp only [List.zip_cons_cons, List.zip_nil_right, List.map_cons, List.map_nil, lF, lG] at HG
  clear hT T HF hg hf lx0 lx1
  generalize G 6 = gx3 at *
  generalize G 7 = gx4 at *
  have lx3 := HG.out.c 2 rfl; have fx3 := HG.out.f 2 rfl
  have lx4 := HG.out.c 3 rfl; have fx4 := HG.out.f 3 rfl
  have r0 := Gr.refl vw4
  obtain ⟨d3_4, d4_3⟩ := HG.out.ne 2 3 rfl rfl (by decide)
  go_wp2
  refine hK.out _ _ ?_; clear hK K
  show Code.wp _ _ _ _ _
  clear r0 lx3 fx3 lx4 fx4 d3_4 d4_3
  refine fH (((((((((HG.out).put2 2 0 rfl).put2 2 2 rfl).put 2 4 _ rfl).put2 3 0 rfl).put2 3 2 rfl).put 3 4 _ rfl).er 1).er 0) fun Wx4 HF => ?_
  clear HG
  refine wp_seq ?_
  have hcc0 : 0 < c0 := by omega
  have lx3 := HF.out.c 0 rfl
  have lx4 := HF.out.c 1 rfl
  refine kS fun K hK => ?_
  refine sq 4 [(true, 0), (true, 1), (true, 2), (true, 3)] fun T hT => ?_
  iterate 2 refine tk ?_
  refine ck Tryz.call38 (fun w' hw => fcmp_any (b) (a) (c0) _ (HC0.out) om om) ?_
  refine tk ?_
  refine nlS hT HF fun vw5 HG => ?_
  clear hT T HF lx3 lx4
  go_wp2
  refine hK.out _ _ ?_; clear hK K
  show Code.wp _ _ _ _ _
  have HF := HG; clear HG
  clear hcc0
  refine wp_cond_true (by rfl) ?_
  have lx3 := HF.out.c 0 rfl
  have lx4 := HF.out.c 1 rfl
  refine kL fun K hK => ?_
  refine sq 2 [(true, 0), (true, 1)] fun T hT => ?_
  iterate 2 refine tk ?_
  refine nlS hT HF fun vw6 HG => ?_
  clear hT T HF lx3 lx4
  have lx3 := HG.out.c 0 rfl; have fx3 := HG.out.f 0 rfl
  have lx4 := HG.out.c 1 rfl; have fx4 := HG.out.f 1 rfl
  have r0 := Gr.refl vw6
  obtain ⟨d3_4, d4_3⟩ := HG.out.ne 0 1 rfl rfl (by decide)
  go_wp2
  refine hK.out _ _ ?_; clear hK K
  show Code.wp _ _ _ _ _
  clear r0 lx3 fx3 lx4 fx4 d3_4 d4_3
  refine fH (((((((HG.out).put2 0 0 rfl).put2 0 2 rfl).put 0 4 _ rfl).put2 1 0 rfl).put2 1 2 rfl).put 1 4 _ rfl) fun Wx6 HF => ?_
  clear HG
  have HZ5 : Hid (rlo (a) t = l) := Lib.hid (HL.out)
  have su5 : sz (l) ≤ 14 := by have e := HZ5.out; first | omega | (rw [← e]; exact Nat.le_trans (sz_rlo (by omega) om) (by omega))
  have lx3 := HF.out.c 0 rfl
  refine kS fun K hK => ?_
  refine sq 6 [(true, 0), (true, 1), (true, 2), (true, 3), (true, 4), (true, 5)] fun T hT => ?_
  iterate 2 refine tk ?_
  refine ck Tryz.call23 (fun w' hw => rBelow_ok (a) (l) t _ (Lib.hid (by first | exact ok | exact HA0.out | exact HB0.out)) (Lib.hid HZ5.out) (by omega) om) ?_
  iterate 3 refine tk ?_
  refine nlS hT HF fun vw7 HG => ?_
  clear hT T HF lx3
  go_wp2
  refine hK.out _ _ ?_; clear hK K
  show Code.wp _ _ _ _ _
  refine fH ((HG.out).al (b := vw7.heap.size) (by first | rfl | simp) (by decide)) fun Wx7 HF => ?_
  clear HG
  generalize vw7.heap.size = gx5 at *
  have HZ6 : Hid (rlo (a) r = l2) := Lib.hid (HL2.out)
  have su6 : sz (l2) ≤ 14 := by have e := HZ6.out; first | omega | (rw [← e]; exact Nat.le_trans (sz_rlo (by omega) om) (by omega))
  have lx3 := HF.out.c 0 rfl
  refine kS fun K hK => ?_
  refine sq 6 [(true, 0), (true, 1), (true, 2), (true, 3), (true, 4), (true, 5)] fun T hT => ?_
  iterate 2 refine tk ?_
  refine ck Tryz.call23 (fun w' hw => rBelow_ok (a) (l2) r _ (Lib.hid (by first | exact ok | exact HA0.out | exact HB0.out)) (Lib.hid HZ6.out) (by omega) om) ?_
  iterate 3 refine tk ?_
  refine nlS hT HF fun vw8 HG => ?_
  clear hT T HF lx3
  go_wp2
  refine hK.out _ _ ?_; clear hK K
  show Code.wp _ _ _ _ _
  refine fH ((HG.out).al (b := vw8.heap.size) (by first | rfl | simp) (by decide)) fun Wx8 HF => ?_
  clear HG
  generalize vw8.heap.size = gx6 at *
  have HZ7 : Hid (rhi (a) t = h) := Lib.hid (HH.out)
  have su7 : sz (h) ≤ 14 := by have e := HZ7.out; first | omega | (rw [← e]; exact Nat.le_trans (sz_rhi (by omega) om) (by omega))
  have lx3 := HF.out.c 0 rfl
  refine kS fun K hK => ?_
  refine sq 6 [(true, 0), (true, 1), (true, 2), (true, 3), (true, 4), (true, 5)] fun T hT => ?_
  iterate 2 refine tk ?_
  refine ck Tryz.call25 (fun w' hw => rAbove_ok (a) (h) t _ (Lib.hid (by first | exact ok | exact HA0.out | exact HB0.out)) (Lib.hid HZ7.out) (by omega) om) ?_
  iterate 3 refine tk ?_
  refine nlS hT HF fun vw9 HG => ?_
  clear hT T HF lx3
  go_wp2
  refine hK.out _ _ ?_; clear hK K
  show Code.wp _ _ _ _ _
  refine fH ((HG.out).al (b := vw9.heap.size) (by first | rfl | simp) (by decide)) fun Wx9 HF => ?_
  clear HG
  generalize vw9.heap.size = gx7 at *
  have HZ8 : Hid (rhi (a) r = h2) := Lib.hid (HH2.out)
  have su8 : sz (h2) ≤ 14 := by have e := HZ8.out; first | omega | (rw [← e]; exact Nat.le_trans (sz_rhi (by omega) om) (by omega))
  have lx3 := HF.out.c 0 rfl
  refine kS fun K hK => ?_
  refine sq 6 [(true, 0), (true, 1), (true, 2), (true, 3), (true, 4), (true, 5)] fun T hT => ?_
  iterate 2 refine tk ?_
  refine ck Tryz.call25 (fun w' hw => rAbove_ok (a) (h2) r _ (Lib.hid (by first | exact ok | exact HA0.out | exact HB0.out)) (Lib.hid HZ8.out) (by omega) om) ?_
  iterate 3 refine tk ?_
  refine nlS hT HF fun vw10 HG => ?_
  clear hT T HF lx3
  go_wp2
  refine hK.out _ _ ?_; clear hK K
  show Code.wp _ _ _ _ _
  refine fH ((HG.out).al (b := vw10.heap.size) (by first | rfl | simp) (by decide)) fun Wx10 HF => ?_
  clear HG
  generalize vw10.heap.size = gx8 at *
  have HZ9 : Hid (rlo (b) t = l3) := Lib.hid (HL3.out)
  have su9 : sz (l3) ≤ 14 := by have e := HZ9.out; first | omega | (rw [← e]; exact Nat.le_trans (sz_rlo (by omega) om) (by omega))
  have lx4 := HF.out.c 1 rfl
  refine kS fun K hK => ?_
  refine sq 6 [(true, 0), (true, 1), (true, 2), (true, 3), (true, 4), (true, 5)] fun T hT => ?_
  iterate 2 refine tk ?_
  refine ck Tryz.call23 (fun w' hw => rBelow_ok (b) (l3) t _ (Lib.hid (by first | exact ok | exact HA0.out | exact HB0.out)) (Lib.hid HZ9.out) (by omega) om) ?_
  iterate 3 refine tk ?_
  refine nlS hT HF fun vw11 HG => ?_
  clear hT T HF lx4
  go_wp2
  refine hK.out _ _ ?_; clear hK K
  show Code.wp _ _ _ _ _
  refine fH ((HG.out).al (b := vw11.heap.size) (by first | rfl | simp) (by decide)) fun Wx11 HF => ?_
  clear HG
  generalize vw11.heap.size = gx9 at *
  have HZ10 : Hid (rhi (b) t = h3) := Lib.hid (HH3.out)
  have su10 : sz (h3) ≤ 14 := by have e := HZ10.out; first | omega | (rw [← e]; exact Nat.le_trans (sz_rhi (by omega) om) (by omega))
  have lx4 := HF.out.c 1 rfl
  refine kS fun K hK => ?_
  refine sq 6 [(true, 0), (true, 1), (true, 2), (true, 3), (true, 4), (true, 5)] fun T hT => ?_
  iterate 2 refine tk ?_
  refine ck Tryz.call25 (fun w' hw => rAbove_ok (b) (h3) t _ (Lib.hid (by first | exact ok | exact HA0.out | exact HB0.out)) (Lib.hid HZ10.out) (by omega) om) ?_
  iterate 3 refine tk ?_
  refine nlS hT HF fun vw12 HG => ?_
  clear hT T HF lx4
  go_wp2
  refine hK.out _ _ ?_; clear hK K
  show Code.wp _ _ _ _ _
  refine fH (((HG.out).al (b := vw12.heap.size) (by first | rfl | simp) (by decide)).er 1) fun Wx12 HF => ?_
  clear HG
  generalize vw12.heap.size = gx10 at *
  refine wp_seq ?_
  have hcc1 : ¬ 0 < c1 := by omega
  have hcc2 : ¬ 0 < c2 := by omega
  have hcc3 : ¬ 0 < c3 := by omega
  have hcc4 : ¬ 0 < c4 := by omega
  have hcc5 : ¬ 0 < c5 := by omega
  have lx5 := HF.out.c 1 rfl
  have lx6 := HF.out.c 2 rfl
  have lx7 := HF.out.c 3 rfl
  have lx8 := HF.out.c 4 rfl
  have lx9 := HF.out.c 5 rfl
  have lx10 := HF.out.c 6 rfl
  refine kS fun K hK => ?_
  refine sq 28 [(true, 0), (true, 1), (true, 2), (true, 3), (true, 4), (true, 5), (true, 6), (true, 7), (true, 8), (true, 9), (true, 10), (true, 11), (true, 12), (true, 13), (true, 14), (true, 15), (true, 16), (true, 17), (true, 18), (true, 19), (true, 20), (true, 21), (true, 22), (true, 23), (true, 24), (true, 25), (true, 26), (true, 27)] fun T hT => ?_
  iterate 2 refine tk ?_
  refine ck Tryz.call38 (fun w' hw => fcmp_any (l) (l2) (c1) _ (by first | exact HC1.out | (simp only []; exact HC1.out)) om om) ?_
  iterate 4 refine tk ?_
  refine ck Tryz.call38 (fun w' hw => fcmp_any (h2) (h) (c2) _ (by first | exact HC2.out | (simp only []; exact HC2.out)) om om) ?_
  iterate 5 refine tk ?_
  refine ck Tryz.call38 (fun w' hw => fcmp_any (l) (l3) (c3) _ (by first | exact HC3.out | (simp only []; exact HC3.out)) om om) ?_
  iterate 5 refine tk ?_
  refine ck Tryz.call38 (fun w' hw => fcmp_any (h) (h3) (c4) _ (by first | exact HC4.out | (simp only []; exact HC4.out)) om om) ?_
  iterate 5 refine tk ?_
  refine ck Tryz.call38 (fun w' hw => fcmp_any (l2) (h2) (c5) _ (by first | exact HC5.out | (simp only []; exact HC5.out)) om om) ?_
  iterate 2 refine tk ?_
  refine nlS hT HF fun vw13 HG => ?_
  clear hT T HF lx5 lx6 lx7 lx8 lx9 lx10
  go_wp2
  refine hK.out _ _ ?_; clear hK K
  show Code.wp _ _ _ _ _
  refine fH (((((HG.out).er 6).er 5).er 3).er 1) fun Wx13 HF => ?_
  clear HG
  clear hcc1 hcc2 hcc3 hcc4 hcc5
  refine wp_cond_false (by rfl) ?_
  refine wp_skip ?_
  show Code.wp _ _ _ _ _
  refine wp_seq ?_
  rcases Nat.eq_zero_or_pos r with hq0 | hq0
  · have HQ0 := Lib.hid hq0
    clear hq0
    have hqz : ((r : Int) == 0) = true := by have h9 := HQ0.out; simp [h9]
    refine kS fun K hK => ?_
    refine sq 2 [(true, 0), (true, 1)] fun T hT => ?_
    iterate 2 refine tk ?_
    refine nlS hT HF fun vw14 HG => ?_
    clear hT T HF
    go_wp2
    refine hK.out _ _ ?_; clear hK K
    show Code.wp _ _ _ _ _
    have HF := HG; clear HG
    clear hqz
    refine wp_cond_true (by rfl) ?_
    have HB := HPb HF
    refine kS fun K hK => ?_
    refine sq 2 [(true, 0), (true, 1)] fun T hT => ?_
    refine ck Tryz.call22 (fun w' hw => works5_any _ (Lib.hid (HT.out.gr (Gr.trans HB.out hw)))) ?_
    refine tk ?_
    refine nlS hT HF fun vw15 HG => ?_
    clear hT T HF HB
    go_wp2
    refine hK.out _ _ ?_; clear hK K
    show Code.wp _ _ _ _ _
    have HF := HG; clear HG
    refine wp_ret ?_
    try simp only [Exit.then, Exit.inBlock]
    exact bodyPost_ret (v := .bool true) (by simp [results, Tryz.results7, go_sem]) rfl ⟨rfl, HF.out.1⟩
  · obtain ⟨j, hj⟩ : ∃ j, r = j + 1 := ⟨r - 1, by omega⟩
    have HQJ := Lib.hid hj
    have hjk : j ≤ 100 := by omega
    have HF1 : Hid ((2 : Rat) * l2 = rlo ((4 : Rat) * a) j) := Lib.hid (by rw [rlo_four, ← hj, HL2.out])
    have HF2 : Hid ((2 : Rat) * h2 = rhi ((4 : Rat) * a) j) := Lib.hid (by rw [rhi_four, ← hj, HH2.out])
    have HA4 : Hid (0 ≤ (4 : Rat) * a) := Lib.hid (Rat.mul_nonneg (by decide +kernel) HA0.out)
    clear hj hq0
    have hqz : ((r : Int) == 0) = false := by have h9 : ¬ ((r : Int) = 0) := (by have := HQJ.out; omega); simpa using h9
    refine kS fun K hK => ?_
    refine sq 2 [(true, 0), (true, 1)] fun T hT => ?_
    iterate 2 refine tk ?_
    refine nlS hT HF fun vw14 HG => ?_
    clear hT T HF
    go_wp2
    refine hK.out _ _ ?_; clear hK K
    show Code.wp _ _ _ _ _
    have HF := HG; clear HG
    clear hqz
    refine wp_cond_false (by rfl) ?_
    refine wp_skip ?_
    show Code.wp _ _ _ _ _
    have hwj : IntKind.i64.wrap ((r : Int) - 1) = (j : Int) := by have := HQJ.out; rw [IntKind.wrap_i64]; omega
    have HZ11 : Hid (((4 : Int) : Rat) = (4 : Rat)) := Lib.hid (by decide +kernel)
    have su11 : sz ((4 : Rat)) ≤ 2 := sz_of (wl_le.2 (by decide +kernel)) (wl_le.2 (by decide +kernel))
    obtain ⟨u12, HZ12⟩ : ∃ z, Hid ((4 : Rat) * (a) = z) := ⟨_, Lib.hid rfl⟩
    have su12 : sz (u12) ≤ 6 := by rw [← HZ12.out]; have := sz_mul (4 : Rat) (a); omega
    obtain ⟨u13, HZ13⟩ : ∃ z, Hid (rlo (u12) j = z) := ⟨_, Lib.hid rfl⟩
    have su13 : sz (u13) ≤ 16 := by rw [← HZ13.out]; exact Nat.le_trans (sz_rlo (by omega) om) (by omega)
    have lx3 := HF.out.c 0 rfl
    refine kS fun K hK => ?_
    refine wp_region_plan 10 [9] [8] (fun _ => 25) (fun _ => .cells #[.int .u64 0, .string ⟨#[]⟩, .bool false, .int .u64 0, .string ⟨#[]⟩] 36) [(true, 1), (true, 3), (true, 4), (true, 0), (true, 2), (true, 5), (true, 6), (true, 7), (true, 8)] (by kernel_rfl) (by kernel_rfl) (by intro i hi; simp only [List.mem_cons, List.not_mem_nil, or_false] at hi; rcases hi with rfl <;> exact ⟨_, rfl, rfl, rfl, by simp, fun ρ w => by kernel_rfl⟩) (by intro i hi; simp only [List.mem_cons, List.not_mem_nil, or_false] at hi; rcases hi with rfl <;> exact ⟨_, rfl, pure_extract⟩) (fun _ _ _ _ _ h => h) (fun T hT => ?_)
    iterate 3 refine tk ?_
    refine ck Tryz.call32 (fun w' hw => fint_any (4) (4 : Rat) _ HZ11.out om om) ?_
    refine ck Tryz.call39 (fun w' hw => fmul_any (4 : Rat) (a) (u12) _ HZ12.out om om) ?_
    refine ck Tryz.call23 (fun w' hw => rBelow_ok (u12) (u13) j _ (Lib.hid (by simp only [← HZ13.out, ← HZ12.out]; exact HA4.out)) (Lib.hid HZ13.out) (by omega) om) ?_
    iterate 3 refine tk ?_
    refine wpPlan_nil (hT.out _ _ ?_)
    intro G vw15 hg hf
    simp only [puts, Act.put, lA, lB, lC, lD, lE, ↓reduceIte, Nat.reduceEqDiff]
    have HG := Lib.hid (HF.out.fr hg hf (zs := [(#[.int .u64 0, .string ⟨#[]⟩, .bool false, .int .u64 0, .string ⟨#[]⟩], 36)]) rfl (by decide) (by decide))
    simp only [List.zip_cons_cons, List.zip_nil_right, List.map_cons, List.map_nil, lF, lG] at HG
    clear hT T HF hg hf lx3
    generalize G 9 = gx11 at *
    have lx11 := HG.out.c 3 rfl; have fx11 := HG.out.f 3 rfl
    have r0 := Gr.refl vw15
    go_wp2
    refine hK.out _ _ ?_; clear hK K
    show Code.wp _ _ _ _ _
    clear r0 lx11 fx11
    refine fH ((((HG.out).put2 3 0 rfl).put2 3 2 rfl).put 3 4 _ rfl) fun Wx17 HF => ?_
    clear HG
    clear hwj
    have hwj : IntKind.i64.wrap ((r : Int) - 1) = (j : Int) := by have := HQJ.out; rw [IntKind.wrap_i64]; omega
    have HZ14 : Hid (((4 : Int) : Rat) = (4 : Rat)) := Lib.hid (by decide +kernel)
    have su14 : sz ((4 : Rat)) ≤ 2 := sz_of (wl_le.2 (by decide +kernel)) (wl_le.2 (by decide +kernel))
    have HZ15 : Hid ((4 : Rat) * (a) = u12) := Lib.hid (by first | exact ok | exact HF1.out | exact HF2.out | exact HA0.out | exact HB0.out | (simp only [← HZ13.out, ← HZ12.out] <;> first | exact ok | exact HF1.out | exact HF2.out | exact HA0.out | exact HB0.out))
    have su15 : sz (u12) ≤ 6 := by have e := HZ15.out; first | omega | (rw [← e]; have := sz_mul (4 : Rat) (a); omega)
    obtain ⟨u16, HZ16⟩ : ∃ z, Hid (rhi (u12) j = z) := ⟨_, Lib.hid rfl⟩
    have su16 : sz (u16) ≤ 16 := by rw [← HZ16.out]; exact Nat.le_trans (sz_rhi (by omega) om) (by omega)
    have lx3 := HF.out.c 0 rfl
    refine kS fun K hK => ?_
    refine wp_region_plan 10 [9] [8] (fun _ => 27) (fun _ => .cells #[.int .u64 0, .string ⟨#[]⟩, .bool false, .int .u64 0, .string ⟨#[]⟩] 36) [(true, 1), (true, 3), (true, 4), (true, 0), (true, 2), (true, 5), (true, 6), (true, 7), (true, 8)] (by kernel_rfl) (by kernel_rfl) (by intro i hi; simp only [List.mem_cons, List.not_mem_nil, or_false] at hi; rcases hi with rfl <;> exact ⟨_, rfl, rfl, rfl, by simp, fun ρ w => by kernel_rfl⟩) (by intro i hi; simp only [List.mem_cons, List.not_mem_nil, or_false] at hi; rcases hi with rfl <;> exact ⟨_, rfl, pure_extract⟩) (fun _ _ _ _ _ h => h) (fun T hT => ?_)
    iterate 3 refine tk ?_
    refine ck Tryz.call32 (fun w' hw => fint_any (4) (4 : Rat) _ HZ14.out om om) ?_
    refine ck Tryz.call39 (fun w' hw => fmul_any (4 : Rat) (a) (u12) _ HZ15.out om om) ?_
    refine ck Tryz.call25 (fun w' hw => rAbove_ok (u12) (u16) j _ (Lib.hid (by simp only [← HZ16.out, ← HZ13.out, ← HZ12.out]; exact HA4.out)) (Lib.hid HZ16.out) (by omega) om) ?_
    iterate 3 refine tk ?_
    refine wpPlan_nil (hT.out _ _ ?_)
    intro G vw16 hg hf
    simp only [puts, Act.put, lA, lB, lC, lD, lE, ↓reduceIte, Nat.reduceEqDiff]
    have HG := Lib.hid (HF.out.fr hg hf (zs := [(#[.int .u64 0, .string ⟨#[]⟩, .bool false, .int .u64 0, .string ⟨#[]⟩], 36)]) rfl (by decide) (by decide))
    simp only [List.zip_cons_cons, List.zip_nil_right, List.map_cons, List.map_nil, lF, lG] at HG
    clear hT T HF hg hf lx3
    generalize G 9 = gx12 at *
    have lx12 := HG.out.c 4 rfl; have fx12 := HG.out.f 4 rfl
    have r0 := Gr.refl vw16
    go_wp2
    refine hK.out _ _ ?_; clear hK K
    show Code.wp _ _ _ _ _
    clear r0 lx12 fx12
    refine fH (((((HG.out).put2 4 0 rfl).put2 4 2 rfl).put 4 4 _ rfl).er 0) fun Wx18 HF => ?_
    clear HG
    clear hwj
    have HB := HPb HF
    have HZ17 : Hid (((2 : Int) : Rat) = (2 : Rat)) := Lib.hid (by decide +kernel)
    have su17 : sz ((2 : Rat)) ≤ 2 := sz_of (wl_le.2 (by decide +kernel)) (wl_le.2 (by decide +kernel))
    have HZ18 : Hid ((2 : Rat) * (l2) = u13) := Lib.hid (by first | exact ok | exact HF1.out | exact HF2.out | exact HA0.out | exact HB0.out | (simp only [← HZ16.out, ← HZ13.out, ← HZ12.out] <;> first | exact ok | exact HF1.out | exact HF2.out | exact HA0.out | exact HB0.out))
    have su18 : sz (u13) ≤ 16 := by have e := HZ18.out; first | omega | (rw [← e]; have := sz_mul (2 : Rat) (l2); omega)
    have HZ19 : Hid (((2 : Int) : Rat) = (2 : Rat)) := Lib.hid (by decide +kernel)
    have su19 : sz ((2 : Rat)) ≤ 2 := sz_of (wl_le.2 (by decide +kernel)) (wl_le.2 (by decide +kernel))
    have HZ20 : Hid ((2 : Rat) * (h2) = u16) := Lib.hid (by first | exact ok | exact HF1.out | exact HF2.out | exact HA0.out | exact HB0.out | (simp only [← HZ16.out, ← HZ13.out, ← HZ12.out] <;> first | exact ok | exact HF1.out | exact HF2.out | exact HA0.out | exact HB0.out))
    have su20 : sz (u16) ≤ 16 := by have e := HZ20.out; first | omega | (rw [← e]; have := sz_mul (2 : Rat) (h2); omega)
    have lx6 := HF.out.c 0 rfl
    have lx8 := HF.out.c 1 rfl
    have lx11 := HF.out.c 2 rfl
    have lx12 := HF.out.c 3 rfl
    refine kS fun K hK => ?_
    refine pd 23 [(true, 0), (true, 1), (true, 2), (true, 3), (true, 4), (true, 5), (true, 6), (true, 7), (true, 9), (true, 8), (true, 10), (true, 11), (true, 12), (true, 13), (true, 14), (true, 16), (true, 15), (true, 17), (true, 18), (true, 19), (true, 20), (true, 21), (true, 22)] fun T hT => ?_
    iterate 9 refine tk ?_
    refine ck Tryz.call32 (fun w' hw => fint_any (2) (2 : Rat) _ HZ17.out om om) ?_
    refine ck Tryz.call39 (fun w' hw => fmul_any (2 : Rat) (l2) (u13) _ HZ18.out om om) ?_
    iterate 5 refine tk ?_
    refine ck Tryz.call32 (fun w' hw => fint_any (2) (2 : Rat) _ HZ19.out om om) ?_
    refine ck Tryz.call39 (fun w' hw => fmul_any (2 : Rat) (h2) (u16) _ HZ20.out om om) ?_
    iterate 3 refine tk ?_
    refine ck Tryz.call22 (fun w' hw => works5_any _ (Lib.hid (HT.out.gr (Gr.trans HB.out hw)))) ?_
    refine tk ?_
    refine nlD hT HF fun vw17 HG => ?_
    clear hT T HF lx6 lx8 lx11 lx12 HB
    go_wp2
    refine hK.out _ _ ?_; clear hK K
    show Code.wp _ _ _ _ _
    refine fH (((((HG.out).er 3).er 2).er 1).er 0) fun Wx19 HF => ?_
    clear HG
    refine wp_ret ?_
    try simp only [Exit.then, Exit.inBlock]
    exact bodyPost_ret (v := .bool true) (by simp [results, Tryz.results7, go_sem]) rfl ⟨rfl, HF.out.1⟩

theorem rise_law (n1 d1 n2 d2 m n : Int) (w : World) (h1_1 : -9223372036854775808 ≤ n1) (h2_1 : n1 ≤ 9223372036854775807) (h3_1 : 0 ≤ d1) (h4_1 : d1 ≤ 4294967295) (h1_2 : -9223372036854775808 ≤ n2) (h2_2 : n2 ≤ 9223372036854775807) (h3_2 : 0 ≤ d2) (h4_2 : d2 ≤ 4294967295) (hm1 : 0 ≤ m) (hm2 : m ≤ 255) (hn1 : 0 ≤ n) (hn2 : n ≤ 255) (HT : Hid (Tab w)) :
    Calls Tryz.prog 7 #[.agg #[.int .i64 n1, .int .u32 d1], .agg #[.int .i64 n2, .int .u32 d2], .int .u8 m, .int .u8 n] w fun e w' => e = .returned (.bool true) ∧ Below w.heap.size w w' := by
  obtain ⟨r, hr, hr2⟩ := tmod_nat hm1
  obtain ⟨t, ht, ht2⟩ := tmod_nat hn1
  have hs1 : sz (qabs (qv n1 d1)) ≤ 4 := by rw [sz_qabs]; exact sz_qv n1 d1 h1_1 h2_1 h3_1 h4_1
  have hs2 : sz (qabs (qv n2 d2)) ≤ 4 := by rw [sz_qabs]; exact sz_qv n2 d2 h1_2 h2_2 h3_2 h4_2
  have hx := qabs_nn (qv n1 d1)
  have hy := qabs_nn (qv n2 d2)
  by_cases hc : 0 < sgQ (qabs (qv n1 d1) - qabs (qv n2 d2))
  · have hab := ge_sgQ hc
    by_cases hp : t < r
    · exact rise_11 n1 d1 n2 d2 m n _ _ _ _ _ _ _ _ _ _ r t _ _ _ _ _ _ w h1_1 h2_1 h3_1 h4_1 h1_2 h2_2 h3_2 h4_2 hm1 hm2 hn1 hn2 (Lib.hid hr) (Lib.hid ht) hp hr2 (Lib.hid rfl) (Lib.hid rfl) (Lib.hid rfl) (Lib.hid rfl) hs2 hs1 (Lib.hid hy) (Lib.hid hx) (Lib.hid rfl) hc (Lib.hid rfl) (Lib.hid rfl) (Lib.hid rfl) (Lib.hid rfl) (Lib.hid rfl) (Lib.hid rfl) (Lib.hid rfl) (sgQ_np (rlo_more hy (by omega))) (Lib.hid rfl) (sgQ_np (rhi_more hy (by omega))) (Lib.hid rfl) (sgQ_np (rlo_mono _ hy hab)) (Lib.hid rfl) (sgQ_np (rhi_mono _ hy hab)) (Lib.hid rfl) (sgQ_np (rlo_rhi _ _)) HT
    · exact rise_10 n1 d1 n2 d2 m n _ _ _ _ _ _ _ _ _ _ r t _ _ _ _ _ _ w h1_1 h2_1 h3_1 h4_1 h1_2 h2_2 h3_2 h4_2 hm1 hm2 hn1 hn2 (Lib.hid hr) (Lib.hid ht) (by omega) ht2 (Lib.hid rfl) (Lib.hid rfl) (Lib.hid rfl) (Lib.hid rfl) hs2 hs1 (Lib.hid hy) (Lib.hid hx) (Lib.hid rfl) hc (Lib.hid rfl) (Lib.hid rfl) (Lib.hid rfl) (Lib.hid rfl) (Lib.hid rfl) (Lib.hid rfl) (Lib.hid rfl) (sgQ_np (rlo_more hy (by omega))) (Lib.hid rfl) (sgQ_np (rhi_more hy (by omega))) (Lib.hid rfl) (sgQ_np (rlo_mono _ hy hab)) (Lib.hid rfl) (sgQ_np (rhi_mono _ hy hab)) (Lib.hid rfl) (sgQ_np (rlo_rhi _ _)) HT
  · have hab := le_sgQ hc
    by_cases hp : t < r
    · exact rise_01 n1 d1 n2 d2 m n _ _ _ _ _ _ _ _ _ _ r t _ _ _ _ _ _ w h1_1 h2_1 h3_1 h4_1 h1_2 h2_2 h3_2 h4_2 hm1 hm2 hn1 hn2 (Lib.hid hr) (Lib.hid ht) hp hr2 (Lib.hid rfl) (Lib.hid rfl) (Lib.hid rfl) (Lib.hid rfl) hs1 hs2 (Lib.hid hx) (Lib.hid hy) (Lib.hid rfl) hc (Lib.hid rfl) (Lib.hid rfl) (Lib.hid rfl) (Lib.hid rfl) (Lib.hid rfl) (Lib.hid rfl) (Lib.hid rfl) (sgQ_np (rlo_more hx (by omega))) (Lib.hid rfl) (sgQ_np (rhi_more hx (by omega))) (Lib.hid rfl) (sgQ_np (rlo_mono _ hx hab)) (Lib.hid rfl) (sgQ_np (rhi_mono _ hx hab)) (Lib.hid rfl) (sgQ_np (rlo_rhi _ _)) HT
    · exact rise_00 n1 d1 n2 d2 m n _ _ _ _ _ _ _ _ _ _ r t _ _ _ _ _ _ w h1_1 h2_1 h3_1 h4_1 h1_2 h2_2 h3_2 h4_2 hm1 hm2 hn1 hn2 (Lib.hid hr) (Lib.hid ht) (by omega) ht2 (Lib.hid rfl) (Lib.hid rfl) (Lib.hid rfl) (Lib.hid rfl) hs1 hs2 (Lib.hid hx) (Lib.hid hy) (Lib.hid rfl) hc (Lib.hid rfl) (Lib.hid rfl) (Lib.hid rfl) (Lib.hid rfl) (Lib.hid rfl) (Lib.hid rfl) (Lib.hid rfl) (sgQ_np (rlo_more hx (by omega))) (Lib.hid rfl) (sgQ_np (rhi_more hx (by omega))) (Lib.hid rfl) (sgQ_np (rlo_mono _ hx hab)) (Lib.hid rfl) (sgQ_np (rhi_mono _ hx hab)) (Lib.hid rfl) (sgQ_np (rlo_rhi _ _)) HT

end Go.Proofs.YtaflakcemiilaaaGreatDoor
