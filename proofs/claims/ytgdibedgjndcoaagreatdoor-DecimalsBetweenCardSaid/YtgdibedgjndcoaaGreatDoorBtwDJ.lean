
/- DecimalsBetween: whole multiples; long arguments; all ways. -/
import Derived.Test.YtgdibedgjndcoaaGreatDoorBtwD
import Derived.Test.YtgdibedgjndcoaaGreatDoorSgnP
namespace Go.Proofs.YtgdibedgjndcoaaGreatDoor
open Go.RowKit
set_option linter.unusedSimpArgs false
set_option linter.unusedVariables false
attribute [local go_sem ↓] Go.wp_at_zero Go.wp_at_succ
attribute [local go_sem ↓] eq_nat eq_nat_zero eq_int eq_frac eq_frac_zero
attribute [local go_sem] Instr.field asAgg
set_option maxRecDepth 100000 in
set_option maxHeartbeats 16000000 in
theorem btw_W (bbxn : Bool) (vxn : Value) (kxn : Nat) (fxn : Nat → Nat) (mxn : Nat) (ixn : Int) (vxd : Value) (kxd : Nat) (fxd : Nat → Nat) (mxd : Nat) (a : Rat) (n : Int) (k : Nat) (st s2 kl z0 : Rat) (w : World) (HWxn : Hid (Wa w vxn kxn fxn)) (HFxn : Hid (∀ i, i < kxn → fxn i < 4294967296)) (HVxn : Hid (vl fxn kxn = mxn)) (HAxn : Hid ((if bbxn then -((mxn : Nat) : Int) else ((mxn : Nat) : Int)) = ixn)) (HWxd : Hid (Wa w vxd kxd fxd)) (HFxd : Hid (∀ i, i < kxd → fxd i < 4294967296)) (HVxd : Hid (vl fxd kxd = mxd)) (HQx : Hid (mkRat ixn (mxd + 1) = a)) (hkxn : kxn ≤ 6) (hkxd : kxd ≤ 6) (hm1 : 0 ≤ n) (hm2 : n ≤ 255) (HMk : Hid (Int.tmod n 101 = (k : Int))) (hk : k ≤ 100) (HST : Hid (((1 / 10 : Rat)) ^ k = st)) (HS0 : Hid (st ≠ 0)) (HSP : Hid (0 < st)) (HS2 : Hid ((2 : Rat) * st = s2)) (HS20 : Hid (s2 ≠ 0)) (HA : Hid (∀ w : Int, rdd w a k = a)) (HKL : Hid (a / st = kl)) (HKD : Hid ((kl).den = 1)) (HZE : Hid ((0 : Rat) = z0)) (hz0 : sz z0 ≤ 1) (HNS : Hid (¬ z0 = st)) (HT : Hid (Tab w)) :
    Calls Tryz.prog 12 #[.agg #[.bool bbxn, vxn, vxd], .int .u8 (n)] w fun e w' => e = .returned (.bool true) ∧ Below w.heap.size w w' := by
  obtain ⟨ao_xn, c_xn, rfl⟩ := HWxn.out.slice
  obtain ⟨ao_xd, c_xd, rfl⟩ := HWxd.out.slice
  have hm_xn : wl mxn ≤ 6 := by rw [← HVxn.out]; have := wl_le.2 (vl_lt HFxn.out); omega
  have hm_xd : wl mxd ≤ 6 := by rw [← HVxd.out]; have := wl_le.2 (vl_lt HFxd.out); omega
  have hi_x : wl (Int.natAbs ixn) ≤ 6 := by rw [zsize HAxn.out]; exact hm_xn
  have hs_x : sz a ≤ 7 := by rw [← HQx.out]; exact sz_great hi_x hm_xd
  have hr_x : rz a ≤ 21 := by rw [← HQx.out]; exact rz_great hi_x hm_xd (by decide)
  have hwn : IntKind.i64.wrap n = n := by rw [IntKind.wrap_i64]; omega
  go_enter Tryz.func12, Tryz.ntmps12
  have HF := Lib.hid (hp0 w)
  refine kS fun K hK => ?_
  refine wp_region_lit ?_
  go_wp2
  refine hK.out _ _ ?_; clear hK K
  show Code.wp _ _ _ _ _
  refine fH ((HF.out).al (b := w.heap.size) (by first | rfl | simp) (by decide)) fun Wx0 HG => ?_
  clear HF; have HF := HG; clear HG
  refine wp_seq ?_
  have hd1 : ¬ (6 < ((kxn : Int))) := by first | exact ok | exact HA.out _ | exact HKL.out | exact HKD.out | exact Rat.sub_self | exact HNS.out
  have hd2 : ¬ (6 < ((kxd : Int))) := by first | exact ok | exact HA.out _ | exact HKL.out | exact HKD.out | exact Rat.sub_self | exact HNS.out
  have lx0 := HF.out.c 0 rfl
  refine kS fun K hK => ?_
  refine sq 11 [(true, 0), (true, 1), (true, 2), (true, 3), (true, 4), (true, 5), (true, 6), (true, 7), (true, 8), (true, 9), (true, 10)] fun T hT => ?_
  iterate 11 refine tk ?_
  refine nlS hT HF fun vw1 HG => ?_
  clear hT T HF lx0
  go_wp2
  refine hK.out _ _ ?_; clear hK K
  show Code.wp _ _ _ _ _
  have HF := HG; clear HG
  clear hd1 hd2
  refine wp_cond_false (by rfl) ?_
  refine wp_skip ?_
  show Code.wp _ _ _ _ _
  have hrmk_2 : Int.tmod n 101 = (k : Int) := HMk.out
  refine kS fun K hK => ?_
  refine sq 4 [(true, 0), (true, 1), (true, 2), (true, 3)] fun T hT => ?_
  iterate 4 refine tk ?_
  refine nlS hT HF fun vw2 HG => ?_
  clear hT T HF
  go_wp2
  refine hK.out _ _ ?_; clear hK K
  show Code.wp _ _ _ _ _
  have HF := HG; clear HG
  clear hrmk_2
  have HB := HPb HF
  have HZ1 : Hid (((1 / 10 : Rat)) ^ k = st) := Lib.hid (HST.out)
  have su1 : sz (st) ≤ 12 := by have e := HZ1.out; first | omega | (rw [← e]; exact sz_step (by omega))
  have lx0 := HF.out.c 0 rfl
  refine kS fun K hK => ?_
  refine sq 4 [(true, 0), (true, 1), (true, 2), (true, 3)] fun T hT => ?_
  refine tk ?_
  refine ck Tryz.call37 (fun w' hw => gof_any bbxn kxn fxn mxn ixn kxd fxd mxd a ao_xn c_xn ao_xd c_xd w' (Lib.hid (HWxn.out.gr (Gr.trans HB.out hw))) HFxn HVxn HAxn (Lib.hid (HWxd.out.gr (Gr.trans HB.out hw))) HFxd HVxd HQx om om om om) ?_
  refine tk ?_
  refine ck Tryz.call56 (fun w' hw => dpower_any k (st) _ (Lib.hid HZ1.out) (by omega)) ?_
  refine nlS hT HF fun vw3 HG => ?_
  clear hT T HF lx0 HB
  go_wp2
  refine hK.out _ _ ?_; clear hK K
  show Code.wp _ _ _ _ _
  refine fH ((((HG.out).al (b := vw3.heap.size) (by first | rfl | simp) (by decide)).al (b := vw3.heap.size + 1) (by first | rfl | simp) (by decide)).er 0) fun Wx4 HF => ?_
  clear HG
  generalize vw3.heap.size + 1 = gx3 at *
  generalize vw3.heap.size = gx2 at *
  have HZ2 : Hid (rdd 1 (a) k = a) := Lib.hid (by first | exact ok | exact HA.out _ | exact HKL.out | exact HKD.out | exact Rat.sub_self | exact HNS.out)
  have su2 : sz (a) ≤ 20 := by have e := HZ2.out; first | omega | (rw [← e]; exact sz_rdd (by omega) om)
  have HZ3 : Hid (rdd 2 (a) k = a) := Lib.hid (by first | exact ok | exact HA.out _ | exact HKL.out | exact HKD.out | exact Rat.sub_self | exact HNS.out)
  have su3 : sz (a) ≤ 20 := by have e := HZ3.out; first | omega | (rw [← e]; exact sz_rdd (by omega) om)
  have lx2 := HF.out.c 0 rfl
  refine kS fun K hK => ?_
  refine sq 7 [(true, 0), (true, 1), (true, 2), (true, 3), (true, 4), (true, 5), (true, 6)] fun T hT => ?_
  iterate 2 refine tk ?_
  refine ck Tryz.call51 (fun w' hw => dbtw_any (a) (a) (a) k _ (Lib.hid HZ2.out) (Lib.hid HZ3.out) (by omega) om) ?_
  iterate 4 refine tk ?_
  refine nlS hT HF fun vw4 HG => ?_
  clear hT T HF lx2
  go_wp2
  refine hK.out _ _ ?_; clear hK K
  show Code.wp _ _ _ _ _
  refine fH (((HG.out).al (b := vw4.heap.size) (by first | rfl | simp) (by decide)).al (b := vw4.heap.size + 1) (by first | rfl | simp) (by decide)) fun Wx5 HF => ?_
  clear HG
  generalize vw4.heap.size + 1 = gx5 at *
  generalize vw4.heap.size = gx4 at *
  have HZ4 : Hid (rdd (3) (a) k = a) := Lib.hid (by first | exact ok | exact HA.out _ | exact HKL.out | exact HKD.out | exact Rat.sub_self | exact HNS.out)
  have su4 : sz (a) ≤ 20 := by have e := HZ4.out; first | omega | (rw [← e]; exact sz_rdd (by omega) om)
  have lx2 := HF.out.c 0 rfl
  refine kS fun K hK => ?_
  refine sq 6 [(true, 0), (true, 1), (true, 2), (true, 3), (true, 4), (true, 5)] fun T hT => ?_
  iterate 2 refine tk ?_
  refine ck Tryz.call36 (fun w' hw => dround (3) (a) k (a) _ HZ4.out (by omega) (by omega) (by omega) om) ?_
  iterate 3 refine tk ?_
  refine nlS hT HF fun vw5 HG => ?_
  clear hT T HF lx2
  go_wp2
  refine hK.out _ _ ?_; clear hK K
  show Code.wp _ _ _ _ _
  refine fH ((HG.out).al (b := vw5.heap.size) (by first | rfl | simp) (by decide)) fun Wx6 HF => ?_
  clear HG
  generalize vw5.heap.size = gx6 at *
  have HZ5 : Hid ((a) / (st) = kl) := Lib.hid (HKL.out)
  have su5 : sz (kl) ≤ 30 := by have e := HZ5.out; first | omega | (rw [← e]; have := sz_div (a) (st); omega)
  have lx3 := HF.out.c 1 rfl
  have lx4 := HF.out.c 2 rfl
  refine kS fun K hK => ?_
  refine sq 6 [(true, 0), (true, 1), (true, 2), (true, 3), (true, 4), (true, 5)] fun T hT => ?_
  iterate 2 refine tk ?_
  refine ck Tryz.call57 (fun w' hw => fdiv_any (a) (st) (kl) _ HZ5.out (by exact HS0.out) om om) ?_
  iterate 3 refine tk ?_
  refine nlS hT HF fun vw6 HG => ?_
  clear hT T HF lx3 lx4
  go_wp2
  refine hK.out _ _ ?_; clear hK K
  show Code.wp _ _ _ _ _
  refine fH ((HG.out).al (b := vw6.heap.size) (by first | rfl | simp) (by decide)) fun Wx7 HF => ?_
  clear HG
  generalize vw6.heap.size = gx7 at *
  have HZ6 : Hid ((a) / (st) = kl) := Lib.hid (by first | exact ok | exact HA.out _ | exact HKL.out | exact HKD.out | exact Rat.sub_self | exact HNS.out)
  have su6 : sz (kl) ≤ 32 := by have e := HZ6.out; first | omega | (rw [← e]; have := sz_div (a) (st); omega)
  have lx3 := HF.out.c 1 rfl
  have lx5 := HF.out.c 3 rfl
  refine kS fun K hK => ?_
  refine sq 6 [(true, 0), (true, 1), (true, 2), (true, 3), (true, 4), (true, 5)] fun T hT => ?_
  iterate 2 refine tk ?_
  refine ck Tryz.call57 (fun w' hw => fdiv_any (a) (st) (kl) _ HZ6.out (by exact HS0.out) om om) ?_
  iterate 3 refine tk ?_
  refine nlS hT HF fun vw7 HG => ?_
  clear hT T HF lx3 lx5
  go_wp2
  refine hK.out _ _ ?_; clear hK K
  show Code.wp _ _ _ _ _
  refine fH ((HG.out).al (b := vw7.heap.size) (by first | rfl | simp) (by decide)) fun Wx8 HF => ?_
  clear HG
  generalize vw7.heap.size = gx8 at *
  have HZ7 : Hid ((a) / (st) = kl) := Lib.hid (by first | exact ok | exact HA.out _ | exact HKL.out | exact HKD.out | exact Rat.sub_self | exact HNS.out)
  have su7 : sz (kl) ≤ 19 := by have e := HZ7.out; first | omega | (rw [← e]; have := sz_div (a) (st); omega)
  have lx2 := HF.out.c 0 rfl
  have lx3 := HF.out.c 1 rfl
  refine kS fun K hK => ?_
  refine sq 6 [(true, 0), (true, 1), (true, 2), (true, 3), (true, 4), (true, 5)] fun T hT => ?_
  iterate 2 refine tk ?_
  refine ck Tryz.call57 (fun w' hw => fdiv_any (a) (st) (kl) _ HZ7.out (by exact HS0.out) om om) ?_
  iterate 3 refine tk ?_
  refine nlS hT HF fun vw8 HG => ?_
  clear hT T HF lx2 lx3
  go_wp2
  refine hK.out _ _ ?_; clear hK K
  show Code.wp _ _ _ _ _
  refine fH ((HG.out).al (b := vw8.heap.size) (by first | rfl | simp) (by decide)) fun Wx9 HF => ?_
  clear HG
  generalize vw8.heap.size = gx9 at *
  refine wp_seq ?_
  have lx2 := HF.out.c 0 rfl
  have lx3 := HF.out.c 1 rfl
  have lx4 := HF.out.c 2 rfl
  have lx5 := HF.out.c 3 rfl
  have lx6 := HF.out.c 4 rfl
  have lx7 := HF.out.c 5 rfl
  have lx8 := HF.out.c 6 rfl
  have lx9 := HF.out.c 7 rfl
  refine kS fun K hK => ?_
  refine pd 61 [(true, 0), (true, 1), (true, 2), (true, 3), (true, 4), (true, 5), (true, 6), (true, 7), (true, 8), (true, 9), (true, 10), (true, 11), (true, 12), (true, 13), (true, 14), (true, 15), (true, 16), (true, 17), (true, 18), (true, 19), (true, 20), (true, 21), (true, 22), (true, 23), (true, 24), (true, 25), (true, 26), (true, 27), (true, 28), (true, 29), (true, 30), (true, 31), (true, 32), (true, 33), (true, 34), (true, 35), (true, 36), (true, 37), (true, 38), (true, 39), (true, 40), (true, 41), (true, 42), (true, 43), (true, 44), (true, 45), (true, 46), (true, 48), (true, 47), (true, 49), (true, 50), (true, 51), (true, 52), (true, 53), (true, 54), (true, 55), (true, 56), (true, 57), (true, 58), (true, 59), (true, 60)] fun T hT => ?_
  iterate 12 refine tk ?_
  refine ck Tryz.call49 (fun w' hw => fiswhole_any (kl) true _ (decide_eq_true (by first | exact ok | exact HA.out _ | exact HKL.out | exact HKD.out | exact Rat.sub_self | exact HNS.out))) ?_
  iterate 4 refine tk ?_
  refine ck Tryz.call49 (fun w' hw => fiswhole_any (kl) true _ (decide_eq_true (by first | exact ok | exact HA.out _ | exact HKL.out | exact HKD.out | exact Rat.sub_self | exact HNS.out))) ?_
  iterate 5 refine tk ?_
  refine ck Tryz.call26 (fun w' hw => fcmp_any (a) (a) (0) _ (by have e9 : (a) - (a) = (0 : Rat) := (by first | exact ok | exact HA.out _ | exact HKL.out | exact HKD.out | exact Rat.sub_self | exact HNS.out); exact sgQ_zero' e9) om om) ?_
  iterate 5 refine tk ?_
  refine ck Tryz.call26 (fun w' hw => fcmp_any (a) (a) (0) _ (by have e9 : (a) - (a) = (0 : Rat) := (by first | exact ok | exact HA.out _ | exact HKL.out | exact HKD.out | exact Rat.sub_self | exact HNS.out); exact sgQ_zero' e9) om om) ?_
  iterate 7 refine tk ?_
  refine ck Tryz.call49 (fun w' hw => fiswhole_any (kl) true _ (decide_eq_true (by first | exact ok | exact HA.out _ | exact HKL.out | exact HKD.out | exact Rat.sub_self | exact HNS.out))) ?_
  iterate 7 refine tk ?_
  iterate 5 refine sk ?_
  iterate 7 refine tk ?_
  iterate 3 refine sk ?_
  refine tk ?_
  refine nlD hT HF fun vw9 HG => ?_
  clear hT T HF lx2 lx3 lx4 lx5 lx6 lx7 lx8 lx9
  go_wp2
  refine hK.out _ _ ?_; clear hK K
  show Code.wp _ _ _ _ _
  refine fH ((((((HG.out).er 7).er 6).er 5).er 3).er 2) fun Wx10 HF => ?_
  clear HG
  refine wp_cond_false (by rfl) ?_
  refine wp_skip ?_
  show Code.wp _ _ _ _ _
  have HZ8 : Hid (((2 : Int) : Rat) = (2 : Rat)) := Lib.hid (by decide +kernel)
  have su8 : sz ((2 : Rat)) ≤ 2 := sz_of (wl_le.2 (by decide +kernel)) (wl_le.2 (by decide +kernel))
  have HZ9 : Hid ((a) - (a) = (0 : Rat)) := Lib.hid (by first | exact ok | exact HA.out _ | exact HKL.out | exact HKD.out | exact Rat.sub_self | exact HNS.out)
  have su9 : sz ((0 : Rat)) ≤ 28 := by have e := HZ9.out; first | omega | (rw [← e]; have := sz_sub (a) (a); omega)
  have HZ10 : Hid (qabs (0 : Rat) = (0 : Rat)) := Lib.hid (by first | exact ok | exact HA.out _ | exact HKL.out | exact HKD.out | exact Rat.sub_self | exact HNS.out)
  have su10 : sz ((0 : Rat)) ≤ 28 := by have e := HZ10.out; first | omega | (rw [← e]; rw [sz_qabs]; omega)
  have HZ11 : Hid ((2 : Rat) * (0 : Rat) = z0) := Lib.hid (by rw [Rat.mul_zero]; exact HZE.out)
  have su11 : sz (z0) ≤ 30 := by have e := HZ11.out; first | omega | (rw [← e]; have := sz_mul (2 : Rat) (0 : Rat); omega)
  have lx2 := HF.out.c 0 rfl
  have lx6 := HF.out.c 2 rfl
  refine kS fun K hK => ?_
  refine wp_region_plan 7 [6] [] (fun _ => 19) (fun _ => .cells #[.int .u64 0, .string ⟨#[]⟩, .bool false, .int .u64 0, .string ⟨#[]⟩] 36) [(true, 1), (true, 2), (true, 0), (true, 3), (true, 4), (true, 5)] (by kernel_rfl) (by kernel_rfl) (by intro i hi; simp only [List.mem_cons, List.not_mem_nil, or_false] at hi; rcases hi with rfl <;> exact ⟨_, rfl, rfl, rfl, by simp, fun ρ w => by kernel_rfl⟩) (fun i hi => by cases hi) (fun _ _ _ _ _ h => h) (fun T hT => ?_)
  iterate 2 refine tk ?_
  refine ck Tryz.call54 (fun w' hw => fint_any (2) (2 : Rat) _ HZ8.out om om) ?_
  refine ck Tryz.call58 (fun w' hw => fsub_any (a) (a) (0 : Rat) _ HZ9.out om om) ?_
  refine ck Tryz.call60 (fun w' hw => fabs_any (0 : Rat) (0 : Rat) _ HZ10.out) ?_
  refine ck Tryz.call59 (fun w' hw => fmul_any (2 : Rat) (0 : Rat) (z0) _ HZ11.out om om) ?_
  refine wpPlan_nil (hT.out _ _ ?_)
  intro G vw10 hg hf
  simp only [puts, Act.put, lA, lB, lC, lD, lE, ↓reduceIte, Nat.reduceEqDiff]
  have HG := Lib.hid (HF.out.fr hg hf (zs := [(#[.int .u64 0, .string ⟨#[]⟩, .bool false, .int .u64 0, .string ⟨#[]⟩], 36)]) rfl (by decide) (by decide))
  simp only [List.zip_cons_cons, List.zip_nil_right, List.map_cons, List.map_nil, lF, lG] at HG
  clear hT T HF hg hf lx2 lx6
  generalize G 6 = gx10 at *
  have lx10 := HG.out.c 3 rfl; have fx10 := HG.out.f 3 rfl
  have r0 := Gr.refl vw10
  go_wp2
  refine hK.out _ _ ?_; clear hK K
  show Code.wp _ _ _ _ _
  clear r0 lx10 fx10
  refine fH ((((HG.out).put2 3 0 rfl).put2 3 2 rfl).put 3 4 _ rfl) fun Wx12 HF => ?_
  clear HG
  have HZ12 : Hid (((2 : Int) : Rat) = (2 : Rat)) := Lib.hid (by decide +kernel)
  have su12 : sz ((2 : Rat)) ≤ 2 := sz_of (wl_le.2 (by decide +kernel)) (wl_le.2 (by decide +kernel))
  have HZ13 : Hid ((2 : Rat) * (st) = s2) := Lib.hid (HS2.out)
  have su13 : sz (s2) ≤ 14 := by have e := HZ13.out; first | omega | (rw [← e]; have := sz_mul (2 : Rat) (st); omega)
  obtain ⟨u14, HZ14⟩ : ∃ z, Hid ((a) / (s2) = z) := ⟨_, Lib.hid rfl⟩
  have su14 : sz (u14) ≤ 34 := by rw [← HZ14.out]; have := sz_div (a) (s2); omega
  have lx3 := HF.out.c 1 rfl
  have lx6 := HF.out.c 2 rfl
  refine kS fun K hK => ?_
  refine wp_region_plan 9 [8] [7] (fun _ => 20) (fun _ => .cells #[.int .u64 0, .string ⟨#[]⟩, .bool false, .int .u64 0, .string ⟨#[]⟩] 36) [(true, 0), (true, 2), (true, 1), (true, 3), (true, 4), (true, 5), (true, 6), (true, 7)] (by kernel_rfl) (by kernel_rfl) (by intro i hi; simp only [List.mem_cons, List.not_mem_nil, or_false] at hi; rcases hi with rfl <;> exact ⟨_, rfl, rfl, rfl, by simp, fun ρ w => by kernel_rfl⟩) (by intro i hi; simp only [List.mem_cons, List.not_mem_nil, or_false] at hi; rcases hi with rfl <;> exact ⟨_, rfl, pure_extract⟩) (fun _ _ _ _ _ h => h) (fun T hT => ?_)
  iterate 2 refine tk ?_
  refine ck Tryz.call54 (fun w' hw => fint_any (2) (2 : Rat) _ HZ12.out om om) ?_
  refine ck Tryz.call59 (fun w' hw => fmul_any (2 : Rat) (st) (s2) _ HZ13.out om om) ?_
  refine ck Tryz.call57 (fun w' hw => fdiv_any (a) (s2) (u14) _ HZ14.out (by exact HS20.out) om om) ?_
  iterate 3 refine tk ?_
  refine wpPlan_nil (hT.out _ _ ?_)
  intro G vw11 hg hf
  simp only [puts, Act.put, lA, lB, lC, lD, lE, ↓reduceIte, Nat.reduceEqDiff]
  have HG := Lib.hid (HF.out.fr hg hf (zs := [(#[.int .u64 0, .string ⟨#[]⟩, .bool false, .int .u64 0, .string ⟨#[]⟩], 36)]) rfl (by decide) (by decide))
  simp only [List.zip_cons_cons, List.zip_nil_right, List.map_cons, List.map_nil, lF, lG] at HG
  clear hT T HF hg hf lx3 lx6
  generalize G 8 = gx11 at *
  have lx11 := HG.out.c 4 rfl; have fx11 := HG.out.f 4 rfl
  have r0 := Gr.refl vw11
  go_wp2
  refine hK.out _ _ ?_; clear hK K
  show Code.wp _ _ _ _ _
  clear r0 lx11 fx11
  refine fH (((((HG.out).put2 4 0 rfl).put2 4 2 rfl).put 4 4 _ rfl).er 2) fun Wx13 HF => ?_
  clear HG
  refine wp_seq ?_
  have hd3 : decide (z0 = st) = false := decide_eq_false (by first | exact ok | exact HA.out _ | exact HKL.out | exact HKD.out | exact Rat.sub_self | exact HNS.out | (simp only [← HZ14.out] <;> first | exact ok | exact HA.out _ | exact HKL.out | exact HKD.out | exact Rat.sub_self | exact HNS.out))
  have lx3 := HF.out.c 1 rfl
  have lx10 := HF.out.c 2 rfl
  have lx11 := HF.out.c 3 rfl
  refine kS fun K hK => ?_
  refine sq 14 [(true, 0), (true, 1), (true, 2), (true, 3), (true, 4), (true, 5), (true, 6), (true, 7), (true, 8), (true, 9), (true, 10), (true, 11), (true, 12), (true, 13)] fun T hT => ?_
  iterate 2 refine tk ?_
  refine ck Tryz.call26 (fun w' hw => fcmp_any (z0) (st) (-1) _ (by have e9 : (z0) - (st) < (0 : Rat) := (by rw [← HZE.out, Rat.sub_eq_add_neg, Rat.zero_add]; have e9 := HSP.out; rw [Rat.neg_lt_iff, Rat.neg_zero]; exact e9); exact sgQ_neg e9) om om) ?_
  iterate 6 refine tk ?_
  iterate 3 refine sk ?_
  iterate 2 refine tk ?_
  refine nlS hT HF fun vw12 HG => ?_
  clear hT T HF lx3 lx10 lx11
  go_wp2
  refine hK.out _ _ ?_; clear hK K
  show Code.wp _ _ _ _ _
  refine fH ((((HG.out).er 3).er 2).er 1) fun Wx14 HF => ?_
  clear HG
  clear hd3
  refine wp_cond_false (by rfl) ?_
  refine wp_skip ?_
  show Code.wp _ _ _ _ _
  refine wp_seq ?_
  refine kS fun K hK => ?_
  refine wp_region_lit ?_
  go_wp2
  refine hK.out _ _ ?_; clear hK K
  show Code.wp _ _ _ _ _
  refine fH (HF.out) fun Wx16 HG => ?_
  clear HF; have HF := HG; clear HG
  refine wp_block ?_
  go_loopg [22] 3 (fun k iv wr => ∃ j : Nat, iv = .int .i64 (j : Int) ∧ j + k = 4 ∧ 1 ≤ j ∧ Hid (HP w wr [Sum.inl (gx2, 36, #[.int .u64 ((lo (Int.natAbs ((a).num)) : Nat) : Int), .string (bg (Int.natAbs ((a).num))), .bool (decide (((a).num) < 0)), .int .u64 ((lo ((a).den - 1) : Nat) : Int), .string (bg ((a).den - 1))])]))
  case atStart => exact ⟨1, rfl, rfl, Nat.le_refl _, HF⟩
  case round =>
    rename_i J_ K_ h1_ h0_
    clear HF
    obtain ⟨j, rfl, hjk, hj1, HF⟩ := hrel
    rcases gk with _ | k9
    · refine wp_seq ?_
      have hle9 : ¬ (j : Int) ≤ 3 := by omega
      refine kS fun K hK => ?_
      refine sq 2 [(true, 0), (true, 1)] fun T hT => ?_
      iterate 2 refine tk ?_
      refine nlS hT HF fun vw13 HG => ?_
      clear hT T HF
      go_wp2
      refine hK.out _ _ ?_; clear hK K
      show Code.wp _ _ _ _ _
      have HF := HG; clear HG
      clear hle9
      refine wp_cond_false (by rfl) ?_
      refine wp_exit ?_
      show Code.wp _ _ _ _ _
      have HB := HPb HF
      refine kS fun K hK => ?_
      refine sq 2 [(true, 0), (true, 1)] fun T hT => ?_
      refine ck Tryz.call35 (fun w' hw => worksd_any _ (Lib.hid (HT.out.gr (Gr.trans HB.out hw)))) ?_
      refine tk ?_
      refine nlS hT HF fun vw14 HG => ?_
      clear hT T HF HB
      go_wp2
      refine hK.out _ _ ?_; clear hK K
      show Code.wp _ _ _ _ _
      refine fH ((HG.out).er 0) fun Wx23 HF => ?_
      clear HG
      refine wp_ret ?_
      try simp only [Exit.then, Exit.inBlock]
      exact bodyPost_ret (v := .bool true) (by simp [results, Tryz.results12, go_sem]) rfl ⟨rfl, HF.out.1⟩
    · skip
      refine wp_seq ?_
      have hle9 : (j : Int) ≤ 3 := by omega
      refine kS fun K hK => ?_
      refine sq 2 [(true, 0), (true, 1)] fun T hT => ?_
      iterate 2 refine tk ?_
      refine nlS hT HF fun vw13 HG => ?_
      clear hT T HF
      go_wp2
      refine hK.out _ _ ?_; clear hK K
      show Code.wp _ _ _ _ _
      have HF := HG; clear HG
      clear hle9
      refine wp_cond_true (by rfl) ?_
      refine wp_skip ?_
      show Code.wp _ _ _ _ _
      refine wp_seq ?_
      refine wp_block ?_
      have HZ15 : Hid (rdd ((j : Int)) (a) k = a) := Lib.hid (by first | exact ok | exact HA.out _ | exact HKL.out | exact HKD.out | exact Rat.sub_self | exact HNS.out | (simp only [← HZ14.out] <;> first | exact ok | exact HA.out _ | exact HKL.out | exact HKD.out | exact Rat.sub_self | exact HNS.out))
      have su15 : sz (a) ≤ 20 := by have e := HZ15.out; first | omega | (rw [← e]; exact sz_rdd (by omega) om)
      have lx2 := HF.out.c 0 rfl
      refine kS fun K hK => ?_
      refine sq 7 [(true, 0), (true, 1), (true, 2), (true, 3), (true, 4), (true, 5), (true, 6)] fun T hT => ?_
      iterate 3 refine tk ?_
      refine ck Tryz.call36 (fun w' hw => dround ((j : Int)) (a) k (a) _ HZ15.out (by omega) (by omega) (by omega) om) ?_
      iterate 3 refine tk ?_
      refine nlS hT HF fun vw14 HG => ?_
      clear hT T HF lx2
      go_wp2
      refine hK.out _ _ ?_; clear hK K
      show Code.wp _ _ _ _ _
      refine fH ((HG.out).al (b := vw14.heap.size) (by first | rfl | simp) (by decide)) fun Wx19 HF => ?_
      clear HG
      generalize vw14.heap.size = gx12 at *
      have HZ16 : Hid (rdd ((j : Int)) (a) k = a) := Lib.hid (by first | exact ok | exact HA.out _ | exact HKL.out | exact HKD.out | exact Rat.sub_self | exact HNS.out | (simp only [← HZ14.out] <;> first | exact ok | exact HA.out _ | exact HKL.out | exact HKD.out | exact Rat.sub_self | exact HNS.out))
      have su16 : sz (a) ≤ 33 := by have e := HZ16.out; first | omega | (rw [← e]; exact sz_rdd (by omega) om)
      have lx12 := HF.out.c 1 rfl
      refine kS fun K hK => ?_
      refine sq 7 [(true, 0), (true, 1), (true, 2), (true, 3), (true, 4), (true, 5), (true, 6)] fun T hT => ?_
      iterate 3 refine tk ?_
      refine ck Tryz.call36 (fun w' hw => dround ((j : Int)) (a) k (a) _ HZ16.out (by omega) (by omega) (by omega) om) ?_
      iterate 3 refine tk ?_
      refine nlS hT HF fun vw15 HG => ?_
      clear hT T HF lx12
      go_wp2
      refine hK.out _ _ ?_; clear hK K
      show Code.wp _ _ _ _ _
      refine fH ((HG.out).al (b := vw15.heap.size) (by first | rfl | simp) (by decide)) fun Wx20 HF => ?_
      clear HG
      generalize vw15.heap.size = gx13 at *
      have lx12 := HF.out.c 1 rfl
      have lx13 := HF.out.c 2 rfl
      refine kS fun K hK => ?_
      refine sq 7 [(true, 0), (true, 1), (true, 2), (true, 3), (true, 4), (true, 5), (true, 6)] fun T hT => ?_
      iterate 7 refine tk ?_
      refine nlS hT HF fun vw16 HG => ?_
      clear hT T HF lx12 lx13
      go_wp2
      refine hK.out _ _ ?_; clear hK K
      show Code.wp _ _ _ _ _
      have HF := HG; clear HG
      refine wp_cond_false (by rfl) ?_
      refine wp_skip ?_
      show Code.wp _ _ _ _ _
      have hwi : IntKind.i64.wrap ((j : Int) + 1) = (j : Int) + 1 := by rw [IntKind.wrap_i64]; omega
      refine kL fun K hK => ?_
      refine sq 3 [(true, 0), (true, 1), (true, 2)] fun T hT => ?_
      iterate 3 refine tk ?_
      refine nlS hT HF fun vw17 HG => ?_
      clear hT T HF
      go_wp2
      refine hK.out _ _ ?_; clear hK K
      try simp only [Exit.then, Exit.inBlock]
      have HF := Lib.hid (HG.out); clear HG
      clear hwi
      refine h0_ _ _ ?_
      go_roundg k9
      case measure => omega
      case rel => exact ⟨j + 1, rfl, by omega, by omega, Lib.hid (((HF.out).er 2).er 1)⟩

set_option maxRecDepth 100000 in
set_option maxHeartbeats 8000000 in
theorem btwn_big1 (bbxn : Bool) (vxn : Value) (kxn : Nat) (fxn : Nat → Nat) (mxn : Nat) (ixn : Int) (vxd : Value) (kxd : Nat) (fxd : Nat → Nat) (mxd : Nat) (a : Rat) (n : Int) (w : World) (HWxn : Hid (Wa w vxn kxn fxn)) (HFxn : Hid (∀ i, i < kxn → fxn i < 4294967296)) (HVxn : Hid (vl fxn kxn = mxn)) (HAxn : Hid ((if bbxn then -((mxn : Nat) : Int) else ((mxn : Nat) : Int)) = ixn)) (HWxd : Hid (Wa w vxd kxd fxd)) (HFxd : Hid (∀ i, i < kxd → fxd i < 4294967296)) (HVxd : Hid (vl fxd kxd = mxd)) (HQx : Hid (mkRat ixn (mxd + 1) = a))  (hkxn : 6 < kxn) (HT : Hid (Tab w)) :
    Calls Tryz.prog 12 #[.agg #[.bool bbxn, vxn, vxd], .int .u8 (n)] w fun e w' => e = .returned (.bool true) ∧ Below w.heap.size w w' := by
  obtain ⟨ao_xn, c_xn, rfl⟩ := HWxn.out.slice
  obtain ⟨ao_xd, c_xd, rfl⟩ := HWxd.out.slice
  go_enter Tryz.func12, Tryz.ntmps12
  have HF := Lib.hid (hp0 w)
  refine kS fun K hK => ?_
  refine wp_region_lit ?_
  go_wp2
  refine hK.out _ _ ?_; clear hK K
  show Code.wp _ _ _ _ _
  refine fH ((HF.out).al (b := w.heap.size) (by first | rfl | simp) (by decide)) fun Wx0 HG => ?_
  clear HF; have HF := HG; clear HG
  refine wp_seq ?_
  have hd1 : 6 < ((kxn : Int)) := ok
  have lx0 := HF.out.c 0 rfl
  refine kS fun K hK => ?_
  refine sq 11 [(true, 0), (true, 1), (true, 2), (true, 3), (true, 4), (true, 5), (true, 6), (true, 7), (true, 8), (true, 9), (true, 10)] fun T hT => ?_
  iterate 6 refine tk ?_
  iterate 4 refine sk ?_
  refine tk ?_
  refine nlS hT HF fun vw1 HG => ?_
  clear hT T HF lx0
  go_wp2
  refine hK.out _ _ ?_; clear hK K
  show Code.wp _ _ _ _ _
  have HF := HG; clear HG
  clear hd1
  refine wp_cond_true (by rfl) ?_
  have HB := HPb HF
  refine kS fun K hK => ?_
  refine sq 2 [(true, 0), (true, 1)] fun T hT => ?_
  refine ck Tryz.call35 (fun w' hw => worksd_any _ (Lib.hid (HT.out.gr (Gr.trans HB.out hw)))) ?_
  refine tk ?_
  refine nlS hT HF fun vw2 HG => ?_
  clear hT T HF HB
  go_wp2
  refine hK.out _ _ ?_; clear hK K
  show Code.wp _ _ _ _ _
  have HF := HG; clear HG
  refine wp_ret ?_
  try simp only [Exit.then, Exit.inBlock]
  exact bodyPost_ret (v := .bool true) (by simp [results, Tryz.results12, go_sem]) rfl ⟨rfl, HF.out.1⟩

set_option maxRecDepth 100000 in
set_option maxHeartbeats 8000000 in
theorem btwn_big2 (bbxn : Bool) (vxn : Value) (kxn : Nat) (fxn : Nat → Nat) (mxn : Nat) (ixn : Int) (vxd : Value) (kxd : Nat) (fxd : Nat → Nat) (mxd : Nat) (a : Rat) (n : Int) (w : World) (HWxn : Hid (Wa w vxn kxn fxn)) (HFxn : Hid (∀ i, i < kxn → fxn i < 4294967296)) (HVxn : Hid (vl fxn kxn = mxn)) (HAxn : Hid ((if bbxn then -((mxn : Nat) : Int) else ((mxn : Nat) : Int)) = ixn)) (HWxd : Hid (Wa w vxd kxd fxd)) (HFxd : Hid (∀ i, i < kxd → fxd i < 4294967296)) (HVxd : Hid (vl fxd kxd = mxd)) (HQx : Hid (mkRat ixn (mxd + 1) = a)) (hkxn : kxn ≤ 6) (hkxd : 6 < kxd) (HT : Hid (Tab w)) :
    Calls Tryz.prog 12 #[.agg #[.bool bbxn, vxn, vxd], .int .u8 (n)] w fun e w' => e = .returned (.bool true) ∧ Below w.heap.size w w' := by
  obtain ⟨ao_xn, c_xn, rfl⟩ := HWxn.out.slice
  obtain ⟨ao_xd, c_xd, rfl⟩ := HWxd.out.slice
  go_enter Tryz.func12, Tryz.ntmps12
  have HF := Lib.hid (hp0 w)
  refine kS fun K hK => ?_
  refine wp_region_lit ?_
  go_wp2
  refine hK.out _ _ ?_; clear hK K
  show Code.wp _ _ _ _ _
  refine fH ((HF.out).al (b := w.heap.size) (by first | rfl | simp) (by decide)) fun Wx0 HG => ?_
  clear HF; have HF := HG; clear HG
  refine wp_seq ?_
  have hd1 : ¬ (6 < ((kxn : Int))) := ok
  have hd2 : 6 < ((kxd : Int)) := ok
  have lx0 := HF.out.c 0 rfl
  refine kS fun K hK => ?_
  refine sq 11 [(true, 0), (true, 1), (true, 2), (true, 3), (true, 4), (true, 5), (true, 6), (true, 7), (true, 8), (true, 9), (true, 10)] fun T hT => ?_
  iterate 11 refine tk ?_
  refine nlS hT HF fun vw1 HG => ?_
  clear hT T HF lx0
  go_wp2
  refine hK.out _ _ ?_; clear hK K
  show Code.wp _ _ _ _ _
  have HF := HG; clear HG
  clear hd1 hd2
  refine wp_cond_true (by rfl) ?_
  have HB := HPb HF
  refine kS fun K hK => ?_
  refine sq 2 [(true, 0), (true, 1)] fun T hT => ?_
  refine ck Tryz.call35 (fun w' hw => worksd_any _ (Lib.hid (HT.out.gr (Gr.trans HB.out hw)))) ?_
  refine tk ?_
  refine nlS hT HF fun vw2 HG => ?_
  clear hT T HF HB
  go_wp2
  refine hK.out _ _ ?_; clear hK K
  show Code.wp _ _ _ _ _
  have HF := HG; clear HG
  refine wp_ret ?_
  try simp only [Exit.then, Exit.inBlock]
  exact bodyPost_ret (v := .bool true) (by simp [results, Tryz.results12, go_sem]) rfl ⟨rfl, HF.out.1⟩

theorem btwd_law (bbxn : Bool) (vxn : Value) (kxn : Nat) (fxn : Nat → Nat) (vxd : Value) (kxd : Nat) (fxd : Nat → Nat) (n : Int) (w : World) (HWxn : Hid (Wa w vxn kxn fxn)) (HFxn : Hid (∀ i, i < kxn → fxn i < 4294967296)) (HWxd : Hid (Wa w vxd kxd fxd)) (HFxd : Hid (∀ i, i < kxd → fxd i < 4294967296)) (hm1 : 0 ≤ n) (hm2 : n ≤ 255) (HT : Hid (Tab w)) :
    Calls Tryz.prog 12 #[.agg #[.bool bbxn, vxn, vxd], .int .u8 n] w fun e w' => e = .returned (.bool true) ∧ Below w.heap.size w w' := by
  obtain ⟨ixn, HAxn⟩ : ∃ z, Hid ((if bbxn then -((vl fxn kxn : Nat) : Int) else ((vl fxn kxn : Nat) : Int)) = z) := ⟨_, Lib.hid rfl⟩
  obtain ⟨a, HQx⟩ : ∃ z, Hid (mkRat ixn (vl fxd kxd + 1) = z) := ⟨_, Lib.hid rfl⟩
  by_cases hkxn : kxn ≤ 6
  · skip
    by_cases hkxd : kxd ≤ 6
    · skip
      have hs : sz a ≤ 7 := by
        rw [← HQx.out]
        have hm1 : wl (vl fxn kxn) ≤ 6 := by have := wl_le.2 (vl_lt HFxn.out); omega
        exact sz_great (by rw [zsize HAxn.out]; exact hm1) (by have := wl_le.2 (vl_lt HFxd.out); omega)
      obtain ⟨k, hk, hk2⟩ := tmod_nat hm1
      by_cases hd : (a * (((10 ^ k : Nat) : Int) : Rat)).den = 1
      · exact btw_W bbxn vxn kxn fxn _ ixn vxd kxd fxd _ a n k _ _ _ _ w HWxn HFxn (Lib.hid rfl) HAxn HWxd HFxd (Lib.hid rfl) HQx hkxn hkxd hm1 hm2 (Lib.hid hk) hk2 (Lib.hid rfl) (Lib.hid (step_ne k)) (Lib.hid (step_pos k)) (Lib.hid rfl) (Lib.hid (two_step k)) (Lib.hid (fun w => rdd_whole hd w)) (Lib.hid rfl) (Lib.hid (by rw [div_tstep]; exact hd)) (Lib.hid rfl) (sz_of (wl_le.2 (by decide +kernel)) (wl_le.2 (by decide +kernel))) (Lib.hid (fun e => step_ne k e.symm)) HT
      · obtain ⟨p1, p2, p3⟩ := rdd_part hd
        refine btw_P bbxn vxn kxn fxn _ ixn vxd kxd fxd _ a n k _ _ _ _ _ _ _ w HWxn HFxn (Lib.hid rfl) HAxn HWxd HFxd (Lib.hid rfl) HQx hkxn hkxd hm1 hm2 (Lib.hid hk) hk2 (Lib.hid rfl) (Lib.hid (step_ne k)) (Lib.hid (step_pos k)) (Lib.hid rfl) (Lib.hid (two_step k)) (Lib.hid rfl) (Lib.hid rfl) (Lib.hid (fun w => rdd_rdd w w a k)) (sz_rdd (by omega) (Nat.le_trans hs (by decide))) (sz_rdd (by omega) (Nat.le_trans hs (by decide))) (Lib.hid p1) (Lib.hid p2) (Lib.hid (fun e => by rw [e] at p1; exact absurd p1 (by grind))) (Lib.hid p3) (Lib.hid rfl) (Lib.hid rfl) (Lib.hid (by rw [div_tstep]; exact rdd_den 1 a k)) (Lib.hid (by rw [div_tstep]; exact rdd_den 2 a k)) (Lib.hid rfl) (Lib.hid (by rw [div_tstep]; exact hd)) (Lib.hid (fun e => by rw [← e] at p1; exact absurd p1 (by grind))) (Lib.hid ?_) HT
        rcases rdd_or 3 a k with hn | hn
        · left
          refine ⟨hn, ?_⟩
          rcases near_lo hn hd with hl | ⟨hl, ht⟩
          · exact .inl (by rw [qabs_lo p1]; exact hl)
          · exact .inr ⟨by rw [qabs_lo p1]; exact hl, by rw [div_tstep2]; exact ht⟩
        · right
          refine ⟨hn, ?_⟩
          rcases near_hi hn hd with hl | ⟨hl, ht⟩
          · exact .inl (by rw [qabs_hi p2]; exact hl)
          · exact .inr ⟨by rw [qabs_hi p2]; exact hl, by rw [div_tstep2]; exact ht⟩
    · exact btwn_big2 bbxn vxn kxn fxn _ ixn vxd kxd fxd _ a n w HWxn HFxn (Lib.hid rfl) HAxn HWxd HFxd (Lib.hid rfl) HQx  hkxn (by omega) HT
  · exact btwn_big1 bbxn vxn kxn fxn _ ixn vxd kxd fxd _ a n w HWxn HFxn (Lib.hid rfl) HAxn HWxd HFxd (Lib.hid rfl) HQx   (by omega) HT

end Go.Proofs.YtgdibedgjndcoaaGreatDoor
