
/- DecimalsBetween: the law's walk. -/
import Derived.Test.YtgdibedgjndcoaaGreatDoorBtwD0
import Derived.Test.YtgdibedgjndcoaaGreatDoorPlanQ
namespace Go.Proofs.YtgdibedgjndcoaaGreatDoor
open Go.RowKit
set_option linter.unusedSimpArgs false
set_option linter.unusedVariables false
attribute [local go_sem ↓] Go.wp_at_zero Go.wp_at_succ
attribute [local go_sem ↓] eq_nat eq_nat_zero eq_int eq_frac eq_frac_zero
attribute [local go_sem] Instr.field asAgg
set_option maxRecDepth 100000 in
set_option maxHeartbeats 32000000 in
theorem btw_P (bbxn : Bool) (vxn : Value) (kxn : Nat) (fxn : Nat → Nat) (mxn : Nat) (ixn : Int) (vxd : Value) (kxd : Nat) (fxd : Nat → Nat) (mxd : Nat) (a : Rat) (n : Int) (k : Nat) (st s2 yl yh kl km aw : Rat) (w : World) (HWxn : Hid (Wa w vxn kxn fxn)) (HFxn : Hid (∀ i, i < kxn → fxn i < 4294967296)) (HVxn : Hid (vl fxn kxn = mxn)) (HAxn : Hid ((if bbxn then -((mxn : Nat) : Int) else ((mxn : Nat) : Int)) = ixn)) (HWxd : Hid (Wa w vxd kxd fxd)) (HFxd : Hid (∀ i, i < kxd → fxd i < 4294967296)) (HVxd : Hid (vl fxd kxd = mxd)) (HQx : Hid (mkRat ixn (mxd + 1) = a)) (hkxn : kxn ≤ 6) (hkxd : kxd ≤ 6) (hm1 : 0 ≤ n) (hm2 : n ≤ 255) (HMk : Hid (Int.tmod n 101 = (k : Int))) (hk : k ≤ 100) (HST : Hid (((1 / 10 : Rat)) ^ k = st)) (HS0 : Hid (st ≠ 0)) (HSP : Hid (0 < st)) (HS2 : Hid ((2 : Rat) * st = s2)) (HS20 : Hid (s2 ≠ 0)) (HYL : Hid (rdd 1 a k = yl)) (HYH : Hid (rdd 2 a k = yh)) (HRR : Hid (∀ w : Int, rdd w (rdd w a k) k = rdd w a k)) (hsl : sz yl ≤ 20) (hsh : sz yh ≤ 20) (HL : Hid (yl < a)) (HH : Hid (a < yh)) (HNE : Hid (¬ yl = yh)) (HSUB : Hid (yh - yl = st)) (HKL : Hid (yl / st = kl)) (HKM : Hid (yh / st = km)) (HKD : Hid ((kl).den = 1)) (HMD : Hid ((km).den = 1)) (HAW : Hid (a / st = aw)) (HAD : Hid (¬ (aw).den = 1)) (HNEH : Hid (¬ yh = yl)) (HNR : Hid ((rdd 3 a k = yl ∧ ((2 : Rat) * qabs (yl - a) < st ∨ ((2 : Rat) * qabs (yl - a) = st ∧ (yl / s2).den = 1))) ∨ (rdd 3 a k = yh ∧ ((2 : Rat) * qabs (yh - a) < st ∨ ((2 : Rat) * qabs (yh - a) = st ∧ (yh / s2).den = 1))))) (HT : Hid (Tab w)) :
    Calls Tryz.prog 12 #[.agg #[.bool bbxn, vxn, vxd], .int .u8 (n)] w fun e w' => e = .returned (.bool true) ∧ Below w.heap.size w w' := by
  obtain ⟨ao_xn, c_xn, rfl⟩ := HWxn.out.slice
  obtain ⟨ao_xd, c_xd, rfl⟩ := HWxd.out.slice
  have hm_xn : wl mxn ≤ 6 := by rw [← HVxn.out]; have := wl_le.2 (vl_lt HFxn.out); omega
  have hm_xd : wl mxd ≤ 6 := by rw [← HVxd.out]; have := wl_le.2 (vl_lt HFxd.out); omega
  have hi_x : wl (Int.natAbs ixn) ≤ 6 := by rw [zsize HAxn.out]; exact hm_xn
  have hs_x : sz a ≤ 7 := by rw [← HQx.out]; exact sz_great hi_x hm_xd
  have hr_x : rz a ≤ 21 := by rw [← HQx.out]; exact rz_great hi_x hm_xd (by decide)
  have hwn : IntKind.i64.wrap n = n := by rw [IntKind.wrap_i64]; omega
  go_enter Tryz.func12, Tryz.ntmps12
  have HF := Lib.hid (hp0 w)
  refine kS fun K hK => ?_
  refine wp_region_lit ?_
  go_wp2
  refine hK.out _ _ ?_; clear hK K
  show Code.wp _ _ _ _ _
  refine fH ((HF.out).al (b := w.heap.size) (by first | rfl | simp) (by decide)) fun Wx0 HG => ?_
  clear HF; have HF := HG; clear HG
  refine wp_seq ?_
  have hd1 : ¬ (6 < ((kxn : Int))) := by first | exact ok | exact HYL.out | exact HYH.out | exact HN.out | exact HNE.out | exact HNEH.out | exact HSUB.out | exact HKD.out | exact HMD.out | exact HAD.out | exact Rat.sub_self | exact qabs_hi HH.out
  have hd2 : ¬ (6 < ((kxd : Int))) := by first | exact ok | exact HYL.out | exact HYH.out | exact HN.out | exact HNE.out | exact HNEH.out | exact HSUB.out | exact HKD.out | exact HMD.out | exact HAD.out | exact Rat.sub_self | exact qabs_hi HH.out
  have lx0 := HF.out.c 0 rfl
  refine kS fun K hK => ?_
  refine sq 11 [(true, 0), (true, 1), (true, 2), (true, 3), (true, 4), (true, 5), (true, 6), (true, 7), (true, 8), (true, 9), (true, 10)] fun T hT => ?_
  iterate 11 refine tk ?_
  refine nlS hT HF fun vw1 HG => ?_
  clear hT T HF lx0
  go_wp2
  refine hK.out _ _ ?_; clear hK K
  show Code.wp _ _ _ _ _
  have HF := HG; clear HG
  clear hd1 hd2
  refine wp_cond_false (by rfl) ?_
  refine wp_skip ?_
  show Code.wp _ _ _ _ _
  have hrmk_2 : Int.tmod n 101 = (k : Int) := HMk.out
  refine kS fun K hK => ?_
  refine sq 4 [(true, 0), (true, 1), (true, 2), (true, 3)] fun T hT => ?_
  iterate 4 refine tk ?_
  refine nlS hT HF fun vw2 HG => ?_
  clear hT T HF
  go_wp2
  refine hK.out _ _ ?_; clear hK K
  show Code.wp _ _ _ _ _
  have HF := HG; clear HG
  clear hrmk_2
  have HB := HPb HF
  have HZ1 : Hid (((1 / 10 : Rat)) ^ k = st) := Lib.hid (HST.out)
  have su1 : sz (st) ≤ 12 := by have e := HZ1.out; first | omega | (rw [← e]; exact sz_step (by omega))
  have lx0 := HF.out.c 0 rfl
  refine kS fun K hK => ?_
  refine sq 4 [(true, 0), (true, 1), (true, 2), (true, 3)] fun T hT => ?_
  refine tk ?_
  refine ck Tryz.call37 (fun w' hw => gof_any bbxn kxn fxn mxn ixn kxd fxd mxd a ao_xn c_xn ao_xd c_xd w' (Lib.hid (HWxn.out.gr (Gr.trans HB.out hw))) HFxn HVxn HAxn (Lib.hid (HWxd.out.gr (Gr.trans HB.out hw))) HFxd HVxd HQx om om om om) ?_
  refine tk ?_
  refine ck Tryz.call56 (fun w' hw => dpower_any k (st) _ (Lib.hid HZ1.out) (by omega)) ?_
  refine nlS hT HF fun vw3 HG => ?_
  clear hT T HF lx0 HB
  go_wp2
  refine hK.out _ _ ?_; clear hK K
  show Code.wp _ _ _ _ _
  refine fH ((((HG.out).al (b := vw3.heap.size) (by first | rfl | simp) (by decide)).al (b := vw3.heap.size + 1) (by first | rfl | simp) (by decide)).er 0) fun Wx4 HF => ?_
  clear HG
  generalize vw3.heap.size + 1 = gx3 at *
  generalize vw3.heap.size = gx2 at *
  have HZ2 : Hid (rdd 1 (a) k = yl) := Lib.hid (by first | exact ok | exact HYL.out | exact HYH.out | exact HN.out | exact HNE.out | exact HNEH.out | exact HSUB.out | exact HKD.out | exact HMD.out | exact HAD.out | exact Rat.sub_self | exact qabs_hi HH.out)
  have su2 : sz (yl) ≤ 20 := by have e := HZ2.out; first | omega | (rw [← e]; exact sz_rdd (by omega) om)
  have HZ3 : Hid (rdd 2 (a) k = yh) := Lib.hid (by first | exact ok | exact HYL.out | exact HYH.out | exact HN.out | exact HNE.out | exact HNEH.out | exact HSUB.out | exact HKD.out | exact HMD.out | exact HAD.out | exact Rat.sub_self | exact qabs_hi HH.out)
  have su3 : sz (yh) ≤ 20 := by have e := HZ3.out; first | omega | (rw [← e]; exact sz_rdd (by omega) om)
  have lx2 := HF.out.c 0 rfl
  refine kS fun K hK => ?_
  refine sq 7 [(true, 0), (true, 1), (true, 2), (true, 3), (true, 4), (true, 5), (true, 6)] fun T hT => ?_
  iterate 2 refine tk ?_
  refine ck Tryz.call51 (fun w' hw => dbtw_any (a) (yl) (yh) k _ (Lib.hid HZ2.out) (Lib.hid HZ3.out) (by omega) om) ?_
  iterate 4 refine tk ?_
  refine nlS hT HF fun vw4 HG => ?_
  clear hT T HF lx2
  go_wp2
  refine hK.out _ _ ?_; clear hK K
  show Code.wp _ _ _ _ _
  refine fH (((HG.out).al (b := vw4.heap.size) (by first | rfl | simp) (by decide)).al (b := vw4.heap.size + 1) (by first | rfl | simp) (by decide)) fun Wx5 HF => ?_
  clear HG
  generalize vw4.heap.size + 1 = gx5 at *
  generalize vw4.heap.size = gx4 at *
  rcases HNR.out with ⟨hn, hq⟩ | ⟨hn, hq⟩
  · have HN := Lib.hid hn
    have HQ := Lib.hid hq
    clear hn hq
    have HZ4 : Hid (rdd (3) (a) k = yl) := Lib.hid (HN.out)
    have su4 : sz (yl) ≤ 20 := by have e := HZ4.out; first | omega | (rw [← e]; exact sz_rdd (by omega) om)
    have lx2 := HF.out.c 0 rfl
    refine kS fun K hK => ?_
    refine sq 6 [(true, 0), (true, 1), (true, 2), (true, 3), (true, 4), (true, 5)] fun T hT => ?_
    iterate 2 refine tk ?_
    refine ck Tryz.call36 (fun w' hw => dround (3) (a) k (yl) _ HZ4.out (by omega) (by omega) (by omega) om) ?_
    iterate 3 refine tk ?_
    refine nlS hT HF fun vw5 HG => ?_
    clear hT T HF lx2
    go_wp2
    refine hK.out _ _ ?_; clear hK K
    show Code.wp _ _ _ _ _
    refine fH ((HG.out).al (b := vw5.heap.size) (by first | rfl | simp) (by decide)) fun Wx6 HF => ?_
    clear HG
    generalize vw5.heap.size = gx6 at *
    have HZ5 : Hid ((yl) / (st) = kl) := Lib.hid (HKL.out)
    have su5 : sz (kl) ≤ 40 := by have e := HZ5.out; first | omega | (rw [← e]; have := sz_div (yl) (st); omega)
    have lx3 := HF.out.c 1 rfl
    have lx4 := HF.out.c 2 rfl
    refine kS fun K hK => ?_
    refine sq 6 [(true, 0), (true, 1), (true, 2), (true, 3), (true, 4), (true, 5)] fun T hT => ?_
    iterate 2 refine tk ?_
    refine ck Tryz.call57 (fun w' hw => fdiv_any (yl) (st) (kl) _ HZ5.out (by exact HS0.out) om om) ?_
    iterate 3 refine tk ?_
    refine nlS hT HF fun vw6 HG => ?_
    clear hT T HF lx3 lx4
    go_wp2
    refine hK.out _ _ ?_; clear hK K
    show Code.wp _ _ _ _ _
    refine fH ((HG.out).al (b := vw6.heap.size) (by first | rfl | simp) (by decide)) fun Wx7 HF => ?_
    clear HG
    generalize vw6.heap.size = gx7 at *
    have HZ6 : Hid ((yh) / (st) = km) := Lib.hid (HKM.out)
    have su6 : sz (km) ≤ 40 := by have e := HZ6.out; first | omega | (rw [← e]; have := sz_div (yh) (st); omega)
    have lx3 := HF.out.c 1 rfl
    have lx5 := HF.out.c 3 rfl
    refine kS fun K hK => ?_
    refine sq 6 [(true, 0), (true, 1), (true, 2), (true, 3), (true, 4), (true, 5)] fun T hT => ?_
    iterate 2 refine tk ?_
    refine ck Tryz.call57 (fun w' hw => fdiv_any (yh) (st) (km) _ HZ6.out (by exact HS0.out) om om) ?_
    iterate 3 refine tk ?_
    refine nlS hT HF fun vw7 HG => ?_
    clear hT T HF lx3 lx5
    go_wp2
    refine hK.out _ _ ?_; clear hK K
    show Code.wp _ _ _ _ _
    refine fH ((HG.out).al (b := vw7.heap.size) (by first | rfl | simp) (by decide)) fun Wx8 HF => ?_
    clear HG
    generalize vw7.heap.size = gx8 at *
    have HZ7 : Hid ((a) / (st) = aw) := Lib.hid (HAW.out)
    have su7 : sz (aw) ≤ 40 := by have e := HZ7.out; first | omega | (rw [← e]; have := sz_div (a) (st); omega)
    have lx2 := HF.out.c 0 rfl
    have lx3 := HF.out.c 1 rfl
    refine kS fun K hK => ?_
    refine sq 6 [(true, 0), (true, 1), (true, 2), (true, 3), (true, 4), (true, 5)] fun T hT => ?_
    iterate 2 refine tk ?_
    refine ck Tryz.call57 (fun w' hw => fdiv_any (a) (st) (aw) _ HZ7.out (by exact HS0.out) om om) ?_
    iterate 3 refine tk ?_
    refine nlS hT HF fun vw8 HG => ?_
    clear hT T HF lx2 lx3
    go_wp2
    refine hK.out _ _ ?_; clear hK K
    show Code.wp _ _ _ _ _
    refine fH ((HG.out).al (b := vw8.heap.size) (by first | rfl | simp) (by decide)) fun Wx9 HF => ?_
    clear HG
    generalize vw8.heap.size = gx9 at *
    refine wp_seq ?_
    have hd3 : decide (yl = yh) = false := decide_eq_false (by first | exact ok | exact HYL.out | exact HYH.out | exact HN.out | exact HNE.out | exact HNEH.out | exact HSUB.out | exact HKD.out | exact HMD.out | exact HAD.out | exact Rat.sub_self | exact qabs_hi HH.out)
    have hd4 : decide (yl = yh) = false := decide_eq_false (by first | exact ok | exact HYL.out | exact HYH.out | exact HN.out | exact HNE.out | exact HNEH.out | exact HSUB.out | exact HKD.out | exact HMD.out | exact HAD.out | exact Rat.sub_self | exact qabs_hi HH.out)
    have HZ8 : Hid ((yh) - (yl) = st) := Lib.hid (by first | exact ok | exact HYL.out | exact HYH.out | exact HN.out | exact HNE.out | exact HNEH.out | exact HSUB.out | exact HKD.out | exact HMD.out | exact HAD.out | exact Rat.sub_self | exact qabs_hi HH.out)
    have su8 : sz (st) ≤ 41 := by have e := HZ8.out; first | omega | (rw [← e]; have := sz_sub (yh) (yl); omega)
    have lx2 := HF.out.c 0 rfl
    have lx3 := HF.out.c 1 rfl
    have lx4 := HF.out.c 2 rfl
    have lx5 := HF.out.c 3 rfl
    have lx6 := HF.out.c 4 rfl
    have lx7 := HF.out.c 5 rfl
    have lx8 := HF.out.c 6 rfl
    have lx9 := HF.out.c 7 rfl
    refine kS fun K hK => ?_
    refine pd 61 [(true, 0), (true, 1), (true, 2), (true, 3), (true, 4), (true, 5), (true, 6), (true, 7), (true, 8), (true, 9), (true, 10), (true, 11), (true, 12), (true, 13), (true, 14), (true, 15), (true, 16), (true, 17), (true, 18), (true, 19), (true, 20), (true, 21), (true, 22), (true, 23), (true, 24), (true, 25), (true, 26), (true, 27), (true, 28), (true, 29), (true, 30), (true, 31), (true, 32), (true, 33), (true, 34), (true, 35), (true, 36), (true, 37), (true, 38), (true, 39), (true, 40), (true, 41), (true, 42), (true, 43), (true, 44), (true, 45), (true, 46), (true, 48), (true, 47), (true, 49), (true, 50), (true, 51), (true, 52), (true, 53), (true, 54), (true, 55), (true, 56), (true, 57), (true, 58), (true, 59), (true, 60)] fun T hT => ?_
    iterate 12 refine tk ?_
    refine ck Tryz.call49 (fun w' hw => fiswhole_any (kl) true _ (decide_eq_true (by first | exact ok | exact HYL.out | exact HYH.out | exact HN.out | exact HNE.out | exact HNEH.out | exact HSUB.out | exact HKD.out | exact HMD.out | exact HAD.out | exact Rat.sub_self | exact qabs_hi HH.out))) ?_
    iterate 4 refine tk ?_
    refine ck Tryz.call49 (fun w' hw => fiswhole_any (km) true _ (decide_eq_true (by first | exact ok | exact HYL.out | exact HYH.out | exact HN.out | exact HNE.out | exact HNEH.out | exact HSUB.out | exact HKD.out | exact HMD.out | exact HAD.out | exact Rat.sub_self | exact qabs_hi HH.out))) ?_
    iterate 5 refine tk ?_
    refine ck Tryz.call26 (fun w' hw => fcmp_any (yl) (a) (-1) _ (by have e9 : (yl) - (a) < (0 : Rat) := (by exact rsub_neg HL.out); exact sgQ_neg e9) om om) ?_
    iterate 5 refine tk ?_
    refine ck Tryz.call26 (fun w' hw => fcmp_any (yh) (a) (1) _ (by have e9 : (0 : Rat) < (yh) - (a) := (by exact rsub_pos HH.out); exact sgQ_pos e9) om om) ?_
    iterate 7 refine tk ?_
    refine ck Tryz.call49 (fun w' hw => fiswhole_any (aw) false _ (decide_eq_false (by first | exact ok | exact HYL.out | exact HYH.out | exact HN.out | exact HNE.out | exact HNEH.out | exact HSUB.out | exact HKD.out | exact HMD.out | exact HAD.out | exact Rat.sub_self | exact qabs_hi HH.out))) ?_
    iterate 10 refine tk ?_
    refine ck Tryz.call58 (fun w' hw => fsub_any (yh) (yl) (st) _ HZ8.out om om) ?_
    iterate 8 refine tk ?_
    iterate 3 refine sk ?_
    refine tk ?_
    refine nlD hT HF fun vw9 HG => ?_
    clear hT T HF lx2 lx3 lx4 lx5 lx6 lx7 lx8 lx9
    go_wp2
    refine hK.out _ _ ?_; clear hK K
    show Code.wp _ _ _ _ _
    refine fH ((((((HG.out).er 7).er 6).er 5).er 3).er 2) fun Wx10 HF => ?_
    clear HG
    clear hd3 hd4
    refine wp_cond_false (by rfl) ?_
    refine wp_skip ?_
    show Code.wp _ _ _ _ _
    rcases HQ.out with hl | ⟨he, ht⟩
    · obtain ⟨w2, HW2⟩ : ∃ z, Hid ((2 : Rat) * qabs (yl - a) = z) := ⟨_, Lib.hid rfl⟩
      have HAL : Hid (w2 < st) := Lib.hid (HW2.out ▸ hl)
      have HANE : Hid (¬ w2 = st) := Lib.hid (fun e => by have e9 := HAL.out; rw [e] at e9; exact Rat.lt_irrefl e9)
      clear hl
      have HZ9 : Hid (((2 : Int) : Rat) = (2 : Rat)) := Lib.hid (by decide +kernel)
      have su9 : sz ((2 : Rat)) ≤ 2 := sz_of (wl_le.2 (by decide +kernel)) (wl_le.2 (by decide +kernel))
      obtain ⟨u10, HZ10⟩ : ∃ z, Hid ((yl) - (a) = z) := ⟨_, Lib.hid rfl⟩
      have su10 : sz (u10) ≤ 28 := by rw [← HZ10.out]; have := sz_sub (yl) (a); omega
      obtain ⟨u11, HZ11⟩ : ∃ z, Hid (qabs (u10) = z) := ⟨_, Lib.hid rfl⟩
      have su11 : sz (u11) ≤ 28 := by rw [← HZ11.out]; rw [sz_qabs]; omega
      have HZ12 : Hid ((2 : Rat) * (u11) = w2) := Lib.hid (by simp only [← HZ11.out, ← HZ10.out]; first | exact HW2.out | (rw [← qabs_hi HH.out]; exact HW2.out))
      have su12 : sz (w2) ≤ 30 := by have e := HZ12.out; first | omega | (rw [← e]; have := sz_mul (2 : Rat) (u11); omega)
      have lx2 := HF.out.c 0 rfl
      have lx6 := HF.out.c 2 rfl
      refine kS fun K hK => ?_
      refine wp_region_plan 7 [6] [] (fun _ => 19) (fun _ => .cells #[.int .u64 0, .string ⟨#[]⟩, .bool false, .int .u64 0, .string ⟨#[]⟩] 36) [(true, 1), (true, 2), (true, 0), (true, 3), (true, 4), (true, 5)] (by kernel_rfl) (by kernel_rfl) (by intro i hi; simp only [List.mem_cons, List.not_mem_nil, or_false] at hi; rcases hi with rfl <;> exact ⟨_, rfl, rfl, rfl, by simp, fun ρ w => by kernel_rfl⟩) (fun i hi => by cases hi) (fun _ _ _ _ _ h => h) (fun T hT => ?_)
      iterate 2 refine tk ?_
      refine ck Tryz.call54 (fun w' hw => fint_any (2) (2 : Rat) _ HZ9.out om om) ?_
      refine ck Tryz.call58 (fun w' hw => fsub_any (yl) (a) (u10) _ HZ10.out om om) ?_
      refine ck Tryz.call60 (fun w' hw => fabs_any (u10) (u11) _ HZ11.out) ?_
      refine ck Tryz.call59 (fun w' hw => fmul_any (2 : Rat) (u11) (w2) _ HZ12.out om om) ?_
      refine wpPlan_nil (hT.out _ _ ?_)
      intro G vw10 hg hf
      simp only [puts, Act.put, lA, lB, lC, lD, lE, ↓reduceIte, Nat.reduceEqDiff]
      have HG := Lib.hid (HF.out.fr hg hf (zs := [(#[.int .u64 0, .string ⟨#[]⟩, .bool false, .int .u64 0, .string ⟨#[]⟩], 36)]) rfl (by decide) (by decide))
      simp only [List.zip_cons_cons, List.zip_nil_right, List.map_cons, List.map_nil, lF, lG] at HG
      clear hT T HF hg hf lx2 lx6
      generalize G 6 = gx10 at *
      have lx10 := HG.out.c 3 rfl; have fx10 := HG.out.f 3 rfl
      have r0 := Gr.refl vw10
      go_wp2
      refine hK.out _ _ ?_; clear hK K
      show Code.wp _ _ _ _ _
      clear r0 lx10 fx10
      refine fH ((((HG.out).put2 3 0 rfl).put2 3 2 rfl).put 3 4 _ rfl) fun Wx12 HF => ?_
      clear HG
      have HZ13 : Hid (((2 : Int) : Rat) = (2 : Rat)) := Lib.hid (by decide +kernel)
      have su13 : sz ((2 : Rat)) ≤ 2 := sz_of (wl_le.2 (by decide +kernel)) (wl_le.2 (by decide +kernel))
      have HZ14 : Hid ((2 : Rat) * (st) = s2) := Lib.hid (HS2.out)
      have su14 : sz (s2) ≤ 14 := by have e := HZ14.out; first | omega | (rw [← e]; have := sz_mul (2 : Rat) (st); omega)
      obtain ⟨u15, HZ15⟩ : ∃ z, Hid ((yl) / (s2) = z) := ⟨_, Lib.hid rfl⟩
      have su15 : sz (u15) ≤ 34 := by rw [← HZ15.out]; have := sz_div (yl) (s2); omega
      have lx3 := HF.out.c 1 rfl
      have lx6 := HF.out.c 2 rfl
      refine kS fun K hK => ?_
      refine wp_region_plan 9 [8] [7] (fun _ => 20) (fun _ => .cells #[.int .u64 0, .string ⟨#[]⟩, .bool false, .int .u64 0, .string ⟨#[]⟩] 36) [(true, 0), (true, 2), (true, 1), (true, 3), (true, 4), (true, 5), (true, 6), (true, 7)] (by kernel_rfl) (by kernel_rfl) (by intro i hi; simp only [List.mem_cons, List.not_mem_nil, or_false] at hi; rcases hi with rfl <;> exact ⟨_, rfl, rfl, rfl, by simp, fun ρ w => by kernel_rfl⟩) (by intro i hi; simp only [List.mem_cons, List.not_mem_nil, or_false] at hi; rcases hi with rfl <;> exact ⟨_, rfl, pure_extract⟩) (fun _ _ _ _ _ h => h) (fun T hT => ?_)
      iterate 2 refine tk ?_
      refine ck Tryz.call54 (fun w' hw => fint_any (2) (2 : Rat) _ HZ13.out om om) ?_
      refine ck Tryz.call59 (fun w' hw => fmul_any (2 : Rat) (st) (s2) _ HZ14.out om om) ?_
      refine ck Tryz.call57 (fun w' hw => fdiv_any (yl) (s2) (u15) _ HZ15.out (by exact HS20.out) om om) ?_
      iterate 3 refine tk ?_
      refine wpPlan_nil (hT.out _ _ ?_)
      intro G vw11 hg hf
      simp only [puts, Act.put, lA, lB, lC, lD, lE, ↓reduceIte, Nat.reduceEqDiff]
      have HG := Lib.hid (HF.out.fr hg hf (zs := [(#[.int .u64 0, .string ⟨#[]⟩, .bool false, .int .u64 0, .string ⟨#[]⟩], 36)]) rfl (by decide) (by decide))
      simp only [List.zip_cons_cons, List.zip_nil_right, List.map_cons, List.map_nil, lF, lG] at HG
      clear hT T HF hg hf lx3 lx6
      generalize G 8 = gx11 at *
      have lx11 := HG.out.c 4 rfl; have fx11 := HG.out.f 4 rfl
      have r0 := Gr.refl vw11
      go_wp2
      refine hK.out _ _ ?_; clear hK K
      show Code.wp _ _ _ _ _
      clear r0 lx11 fx11
      refine fH (((((HG.out).put2 4 0 rfl).put2 4 2 rfl).put 4 4 _ rfl).er 2) fun Wx13 HF => ?_
      clear HG
      refine wp_seq ?_
      have hd5 : decide (w2 = st) = false := decide_eq_false (by first | exact ok | exact HANE.out | exact HYL.out | exact HYH.out | exact HN.out | exact HNE.out | exact HNEH.out | exact HSUB.out | exact HKD.out | exact HMD.out | exact HAD.out | exact Rat.sub_self | exact qabs_hi HH.out | (simp only [← HZ15.out, ← HZ11.out, ← HZ10.out] <;> first | exact ok | exact HANE.out | exact HYL.out | exact HYH.out | exact HN.out | exact HNE.out | exact HNEH.out | exact HSUB.out | exact HKD.out | exact HMD.out | exact HAD.out | exact Rat.sub_self | exact qabs_hi HH.out))
      have lx3 := HF.out.c 1 rfl
      have lx10 := HF.out.c 2 rfl
      have lx11 := HF.out.c 3 rfl
      refine kS fun K hK => ?_
      refine sq 14 [(true, 0), (true, 1), (true, 2), (true, 3), (true, 4), (true, 5), (true, 6), (true, 7), (true, 8), (true, 9), (true, 10), (true, 11), (true, 12), (true, 13)] fun T hT => ?_
      iterate 2 refine tk ?_
      refine ck Tryz.call26 (fun w' hw => fcmp_any (w2) (st) (-1) _ (by have e9 : (w2) - (st) < (0 : Rat) := (by exact rsub_neg HAL.out); exact sgQ_neg e9) om om) ?_
      iterate 6 refine tk ?_
      iterate 3 refine sk ?_
      iterate 2 refine tk ?_
      refine nlS hT HF fun vw12 HG => ?_
      clear hT T HF lx3 lx10 lx11
      go_wp2
      refine hK.out _ _ ?_; clear hK K
      show Code.wp _ _ _ _ _
      refine fH ((((HG.out).er 3).er 2).er 1) fun Wx14 HF => ?_
      clear HG
      clear hd5
      refine wp_cond_false (by rfl) ?_
      refine wp_skip ?_
      show Code.wp _ _ _ _ _
      refine wp_seq ?_
      refine kS fun K hK => ?_
      refine wp_region_lit ?_
      go_wp2
      refine hK.out _ _ ?_; clear hK K
      show Code.wp _ _ _ _ _
      refine fH (HF.out) fun Wx16 HG => ?_
      clear HF; have HF := HG; clear HG
      refine wp_block ?_
      go_loopg [22] 3 (fun k iv wr => ∃ j : Nat, iv = .int .i64 (j : Int) ∧ j + k = 4 ∧ 1 ≤ j ∧ Hid (HP w wr [Sum.inl (gx2, 36, #[.int .u64 ((lo (Int.natAbs ((a).num)) : Nat) : Int), .string (bg (Int.natAbs ((a).num))), .bool (decide (((a).num) < 0)), .int .u64 ((lo ((a).den - 1) : Nat) : Int), .string (bg ((a).den - 1))])]))
      case atStart => exact ⟨1, rfl, rfl, Nat.le_refl _, HF⟩
      case round =>
        rename_i J_ K_ h1_ h0_
        clear HF
        obtain ⟨j, rfl, hjk, hj1, HF⟩ := hrel
        rcases gk with _ | k9
        · refine wp_seq ?_
          have hle9 : ¬ (j : Int) ≤ 3 := by omega
          refine kS fun K hK => ?_
          refine sq 2 [(true, 0), (true, 1)] fun T hT => ?_
          iterate 2 refine tk ?_
          refine nlS hT HF fun vw13 HG => ?_
          clear hT T HF
          go_wp2
          refine hK.out _ _ ?_; clear hK K
          show Code.wp _ _ _ _ _
          have HF := HG; clear HG
          clear hle9
          refine wp_cond_false (by rfl) ?_
          refine wp_exit ?_
          show Code.wp _ _ _ _ _
          have HB := HPb HF
          refine kS fun K hK => ?_
          refine sq 2 [(true, 0), (true, 1)] fun T hT => ?_
          refine ck Tryz.call35 (fun w' hw => worksd_any _ (Lib.hid (HT.out.gr (Gr.trans HB.out hw)))) ?_
          refine tk ?_
          refine nlS hT HF fun vw14 HG => ?_
          clear hT T HF HB
          go_wp2
          refine hK.out _ _ ?_; clear hK K
          show Code.wp _ _ _ _ _
          refine fH ((HG.out).er 0) fun Wx23 HF => ?_
          clear HG
          refine wp_ret ?_
          try simp only [Exit.then, Exit.inBlock]
          exact bodyPost_ret (v := .bool true) (by simp [results, Tryz.results12, go_sem]) rfl ⟨rfl, HF.out.1⟩
        · obtain ⟨o, HO⟩ : ∃ z, Hid (rdd (j : Int) a k = z) := ⟨_, Lib.hid rfl⟩
          have HO2 : Hid (rdd (j : Int) o k = o) := Lib.hid (by rw [← HO.out]; exact HRR.out _)
          have hso : sz o ≤ 20 := by rw [← HO.out]; exact sz_rdd (by omega) (by omega)
          refine wp_seq ?_
          have hle9 : (j : Int) ≤ 3 := by omega
          refine kS fun K hK => ?_
          refine sq 2 [(true, 0), (true, 1)] fun T hT => ?_
          iterate 2 refine tk ?_
          refine nlS hT HF fun vw13 HG => ?_
          clear hT T HF
          go_wp2
          refine hK.out _ _ ?_; clear hK K
          show Code.wp _ _ _ _ _
          have HF := HG; clear HG
          clear hle9
          refine wp_cond_true (by rfl) ?_
          refine wp_skip ?_
          show Code.wp _ _ _ _ _
          refine wp_seq ?_
          refine wp_block ?_
          have HZ16 : Hid (rdd ((j : Int)) (a) k = o) := Lib.hid (HO.out)
          have su16 : sz (o) ≤ 20 := by have e := HZ16.out; first | omega | (rw [← e]; exact sz_rdd (by omega) om)
          have lx2 := HF.out.c 0 rfl
          refine kS fun K hK => ?_
          refine sq 7 [(true, 0), (true, 1), (true, 2), (true, 3), (true, 4), (true, 5), (true, 6)] fun T hT => ?_
          iterate 3 refine tk ?_
          refine ck Tryz.call36 (fun w' hw => dround ((j : Int)) (a) k (o) _ HZ16.out (by omega) (by omega) (by omega) om) ?_
          iterate 3 refine tk ?_
          refine nlS hT HF fun vw14 HG => ?_
          clear hT T HF lx2
          go_wp2
          refine hK.out _ _ ?_; clear hK K
          show Code.wp _ _ _ _ _
          refine fH ((HG.out).al (b := vw14.heap.size) (by first | rfl | simp) (by decide)) fun Wx19 HF => ?_
          clear HG
          generalize vw14.heap.size = gx12 at *
          have HZ17 : Hid (rdd ((j : Int)) (o) k = o) := Lib.hid (HO2.out)
          have su17 : sz (o) ≤ 20 := by have e := HZ17.out; first | omega | (rw [← e]; exact sz_rdd (by omega) om)
          have lx12 := HF.out.c 1 rfl
          refine kS fun K hK => ?_
          refine sq 7 [(true, 0), (true, 1), (true, 2), (true, 3), (true, 4), (true, 5), (true, 6)] fun T hT => ?_
          iterate 3 refine tk ?_
          refine ck Tryz.call36 (fun w' hw => dround ((j : Int)) (o) k (o) _ HZ17.out (by omega) (by omega) (by omega) om) ?_
          iterate 3 refine tk ?_
          refine nlS hT HF fun vw15 HG => ?_
          clear hT T HF lx12
          go_wp2
          refine hK.out _ _ ?_; clear hK K
          show Code.wp _ _ _ _ _
          refine fH ((HG.out).al (b := vw15.heap.size) (by first | rfl | simp) (by decide)) fun Wx20 HF => ?_
          clear HG
          generalize vw15.heap.size = gx13 at *
          have lx12 := HF.out.c 1 rfl
          have lx13 := HF.out.c 2 rfl
          refine kS fun K hK => ?_
          refine sq 7 [(true, 0), (true, 1), (true, 2), (true, 3), (true, 4), (true, 5), (true, 6)] fun T hT => ?_
          iterate 7 refine tk ?_
          refine nlS hT HF fun vw16 HG => ?_
          clear hT T HF lx12 lx13
          go_wp2
          refine hK.out _ _ ?_; clear hK K
          show Code.wp _ _ _ _ _
          have HF := HG; clear HG
          refine wp_cond_false (by rfl) ?_
          refine wp_skip ?_
          show Code.wp _ _ _ _ _
          have hwi : IntKind.i64.wrap ((j : Int) + 1) = (j : Int) + 1 := by rw [IntKind.wrap_i64]; omega
          refine kL fun K hK => ?_
          refine sq 3 [(true, 0), (true, 1), (true, 2)] fun T hT => ?_
          iterate 3 refine tk ?_
          refine nlS hT HF fun vw17 HG => ?_
          clear hT T HF
          go_wp2
          refine hK.out _ _ ?_; clear hK K
          try simp only [Exit.then, Exit.inBlock]
          have HF := Lib.hid (HG.out); clear HG
          clear hwi
          refine h0_ _ _ ?_
          go_roundg k9
          case measure => omega
          case rel => exact ⟨j + 1, rfl, by omega, by omega, Lib.hid (((HF.out).er 2).er 1)⟩
    · have HW2 := Lib.hid he
      obtain ⟨tt, HTT⟩ : ∃ z, Hid (yl / s2 = z) := ⟨_, Lib.hid rfl⟩
      have HTD : Hid ((tt).den = 1) := Lib.hid (HTT.out ▸ ht)
      clear he ht
      have HZ9 : Hid (((2 : Int) : Rat) = (2 : Rat)) := Lib.hid (by decide +kernel)
      have su9 : sz ((2 : Rat)) ≤ 2 := sz_of (wl_le.2 (by decide +kernel)) (wl_le.2 (by decide +kernel))
      obtain ⟨u10, HZ10⟩ : ∃ z, Hid ((yl) - (a) = z) := ⟨_, Lib.hid rfl⟩
      have su10 : sz (u10) ≤ 28 := by rw [← HZ10.out]; have := sz_sub (yl) (a); omega
      obtain ⟨u11, HZ11⟩ : ∃ z, Hid (qabs (u10) = z) := ⟨_, Lib.hid rfl⟩
      have su11 : sz (u11) ≤ 28 := by rw [← HZ11.out]; rw [sz_qabs]; omega
      have HZ12 : Hid ((2 : Rat) * (u11) = st) := Lib.hid (by simp only [← HZ11.out, ← HZ10.out]; first | exact HW2.out | (rw [← qabs_hi HH.out]; exact HW2.out))
      have su12 : sz (st) ≤ 30 := by have e := HZ12.out; first | omega | (rw [← e]; have := sz_mul (2 : Rat) (u11); omega)
      have lx2 := HF.out.c 0 rfl
      have lx6 := HF.out.c 2 rfl
      refine kS fun K hK => ?_
      refine wp_region_plan 7 [6] [] (fun _ => 19) (fun _ => .cells #[.int .u64 0, .string ⟨#[]⟩, .bool false, .int .u64 0, .string ⟨#[]⟩] 36) [(true, 1), (true, 2), (true, 0), (true, 3), (true, 4), (true, 5)] (by kernel_rfl) (by kernel_rfl) (by intro i hi; simp only [List.mem_cons, List.not_mem_nil, or_false] at hi; rcases hi with rfl <;> exact ⟨_, rfl, rfl, rfl, by simp, fun ρ w => by kernel_rfl⟩) (fun i hi => by cases hi) (fun _ _ _ _ _ h => h) (fun T hT => ?_)
      iterate 2 refine tk ?_
      refine ck Tryz.call54 (fun w' hw => fint_any (2) (2 : Rat) _ HZ9.out om om) ?_
      refine ck Tryz.call58 (fun w' hw => fsub_any (yl) (a) (u10) _ HZ10.out om om) ?_
      refine ck Tryz.call60 (fun w' hw => fabs_any (u10) (u11) _ HZ11.out) ?_
      refine ck Tryz.call59 (fun w' hw => fmul_any (2 : Rat) (u11) (st) _ HZ12.out om om) ?_
      refine wpPlan_nil (hT.out _ _ ?_)
      intro G vw10 hg hf
      simp only [puts, Act.put, lA, lB, lC, lD, lE, ↓reduceIte, Nat.reduceEqDiff]
      have HG := Lib.hid (HF.out.fr hg hf (zs := [(#[.int .u64 0, .string ⟨#[]⟩, .bool false, .int .u64 0, .string ⟨#[]⟩], 36)]) rfl (by decide) (by decide))
      simp only [List.zip_cons_cons, List.zip_nil_right, List.map_cons, List.map_nil, lF, lG] at HG
      clear hT T HF hg hf lx2 lx6
      generalize G 6 = gx10 at *
      have lx10 := HG.out.c 3 rfl; have fx10 := HG.out.f 3 rfl
      have r0 := Gr.refl vw10
      go_wp2
      refine hK.out _ _ ?_; clear hK K
      show Code.wp _ _ _ _ _
      clear r0 lx10 fx10
      refine fH ((((HG.out).put2 3 0 rfl).put2 3 2 rfl).put 3 4 _ rfl) fun Wx12 HF => ?_
      clear HG
      have HZ13 : Hid (((2 : Int) : Rat) = (2 : Rat)) := Lib.hid (by decide +kernel)
      have su13 : sz ((2 : Rat)) ≤ 2 := sz_of (wl_le.2 (by decide +kernel)) (wl_le.2 (by decide +kernel))
      have HZ14 : Hid ((2 : Rat) * (st) = s2) := Lib.hid (HS2.out)
      have su14 : sz (s2) ≤ 14 := by have e := HZ14.out; first | omega | (rw [← e]; have := sz_mul (2 : Rat) (st); omega)
      have HZ15 : Hid ((yl) / (s2) = tt) := Lib.hid (HTT.out)
      have su15 : sz (tt) ≤ 60 := by have e := HZ15.out; first | omega | (rw [← e]; have := sz_div (yl) (s2); omega)
      have lx3 := HF.out.c 1 rfl
      have lx6 := HF.out.c 2 rfl
      refine kS fun K hK => ?_
      refine wp_region_plan 9 [8] [7] (fun _ => 20) (fun _ => .cells #[.int .u64 0, .string ⟨#[]⟩, .bool false, .int .u64 0, .string ⟨#[]⟩] 36) [(true, 0), (true, 2), (true, 1), (true, 3), (true, 4), (true, 5), (true, 6), (true, 7)] (by kernel_rfl) (by kernel_rfl) (by intro i hi; simp only [List.mem_cons, List.not_mem_nil, or_false] at hi; rcases hi with rfl <;> exact ⟨_, rfl, rfl, rfl, by simp, fun ρ w => by kernel_rfl⟩) (by intro i hi; simp only [List.mem_cons, List.not_mem_nil, or_false] at hi; rcases hi with rfl <;> exact ⟨_, rfl, pure_extract⟩) (fun _ _ _ _ _ h => h) (fun T hT => ?_)
      iterate 2 refine tk ?_
      refine ck Tryz.call54 (fun w' hw => fint_any (2) (2 : Rat) _ HZ13.out om om) ?_
      refine ck Tryz.call59 (fun w' hw => fmul_any (2 : Rat) (st) (s2) _ HZ14.out om om) ?_
      refine ck Tryz.call57 (fun w' hw => fdiv_any (yl) (s2) (tt) _ HZ15.out (by exact HS20.out) om om) ?_
      iterate 3 refine tk ?_
      refine wpPlan_nil (hT.out _ _ ?_)
      intro G vw11 hg hf
      simp only [puts, Act.put, lA, lB, lC, lD, lE, ↓reduceIte, Nat.reduceEqDiff]
      have HG := Lib.hid (HF.out.fr hg hf (zs := [(#[.int .u64 0, .string ⟨#[]⟩, .bool false, .int .u64 0, .string ⟨#[]⟩], 36)]) rfl (by decide) (by decide))
      simp only [List.zip_cons_cons, List.zip_nil_right, List.map_cons, List.map_nil, lF, lG] at HG
      clear hT T HF hg hf lx3 lx6
      generalize G 8 = gx11 at *
      have lx11 := HG.out.c 4 rfl; have fx11 := HG.out.f 4 rfl
      have r0 := Gr.refl vw11
      go_wp2
      refine hK.out _ _ ?_; clear hK K
      show Code.wp _ _ _ _ _
      clear r0 lx11 fx11
      refine fH (((((HG.out).put2 4 0 rfl).put2 4 2 rfl).put 4 4 _ rfl).er 2) fun Wx13 HF => ?_
      clear HG
      refine wp_seq ?_
      have lx3 := HF.out.c 1 rfl
      have lx10 := HF.out.c 2 rfl
      have lx11 := HF.out.c 3 rfl
      refine kS fun K hK => ?_
      refine sq 14 [(true, 0), (true, 1), (true, 2), (true, 3), (true, 4), (true, 5), (true, 6), (true, 7), (true, 8), (true, 9), (true, 10), (true, 11), (true, 12), (true, 13)] fun T hT => ?_
      iterate 2 refine tk ?_
      refine ck Tryz.call26 (fun w' hw => fcmp_any (st) (st) (0) _ (by have e9 : (st) - (st) = (0 : Rat) := (by first | exact ok | exact HTD.out | exact HYL.out | exact HYH.out | exact HN.out | exact HNE.out | exact HNEH.out | exact HSUB.out | exact HKD.out | exact HMD.out | exact HAD.out | exact Rat.sub_self | exact qabs_hi HH.out | (simp only [← HZ11.out, ← HZ10.out] <;> first | exact ok | exact HTD.out | exact HYL.out | exact HYH.out | exact HN.out | exact HNE.out | exact HNEH.out | exact HSUB.out | exact HKD.out | exact HMD.out | exact HAD.out | exact Rat.sub_self | exact qabs_hi HH.out)); exact sgQ_zero' e9) om om) ?_
      iterate 7 refine tk ?_
      refine ck Tryz.call49 (fun w' hw => fiswhole_any (tt) true _ (decide_eq_true (by first | exact ok | exact HTD.out | exact HYL.out | exact HYH.out | exact HN.out | exact HNE.out | exact HNEH.out | exact HSUB.out | exact HKD.out | exact HMD.out | exact HAD.out | exact Rat.sub_self | exact qabs_hi HH.out | (simp only [← HZ11.out, ← HZ10.out] <;> first | exact ok | exact HTD.out | exact HYL.out | exact HYH.out | exact HN.out | exact HNE.out | exact HNEH.out | exact HSUB.out | exact HKD.out | exact HMD.out | exact HAD.out | exact Rat.sub_self | exact qabs_hi HH.out)))) ?_
      iterate 3 refine tk ?_
      refine nlS hT HF fun vw12 HG => ?_
      clear hT T HF lx3 lx10 lx11
      go_wp2
      refine hK.out _ _ ?_; clear hK K
      show Code.wp _ _ _ _ _
      refine fH ((((HG.out).er 3).er 2).er 1) fun Wx14 HF => ?_
      clear HG
      refine wp_cond_false (by rfl) ?_
      refine wp_skip ?_
      show Code.wp _ _ _ _ _
      refine wp_seq ?_
      refine kS fun K hK => ?_
      refine wp_region_lit ?_
      go_wp2
      refine hK.out _ _ ?_; clear hK K
      show Code.wp _ _ _ _ _
      refine fH (HF.out) fun Wx16 HG => ?_
      clear HF; have HF := HG; clear HG
      refine wp_block ?_
      go_loopg [22] 3 (fun k iv wr => ∃ j : Nat, iv = .int .i64 (j : Int) ∧ j + k = 4 ∧ 1 ≤ j ∧ Hid (HP w wr [Sum.inl (gx2, 36, #[.int .u64 ((lo (Int.natAbs ((a).num)) : Nat) : Int), .string (bg (Int.natAbs ((a).num))), .bool (decide (((a).num) < 0)), .int .u64 ((lo ((a).den - 1) : Nat) : Int), .string (bg ((a).den - 1))])]))
      case atStart => exact ⟨1, rfl, rfl, Nat.le_refl _, HF⟩
      case round =>
        rename_i J_ K_ h1_ h0_
        clear HF
        obtain ⟨j, rfl, hjk, hj1, HF⟩ := hrel
        rcases gk with _ | k9
        · refine wp_seq ?_
          have hle9 : ¬ (j : Int) ≤ 3 := by omega
          refine kS fun K hK => ?_
          refine sq 2 [(true, 0), (true, 1)] fun T hT => ?_
          iterate 2 refine tk ?_
          refine nlS hT HF fun vw13 HG => ?_
          clear hT T HF
          go_wp2
          refine hK.out _ _ ?_; clear hK K
          show Code.wp _ _ _ _ _
          have HF := HG; clear HG
          clear hle9
          refine wp_cond_false (by rfl) ?_
          refine wp_exit ?_
          show Code.wp _ _ _ _ _
          have HB := HPb HF
          refine kS fun K hK => ?_
          refine sq 2 [(true, 0), (true, 1)] fun T hT => ?_
          refine ck Tryz.call35 (fun w' hw => worksd_any _ (Lib.hid (HT.out.gr (Gr.trans HB.out hw)))) ?_
          refine tk ?_
          refine nlS hT HF fun vw14 HG => ?_
          clear hT T HF HB
          go_wp2
          refine hK.out _ _ ?_; clear hK K
          show Code.wp _ _ _ _ _
          refine fH ((HG.out).er 0) fun Wx23 HF => ?_
          clear HG
          refine wp_ret ?_
          try simp only [Exit.then, Exit.inBlock]
          exact bodyPost_ret (v := .bool true) (by simp [results, Tryz.results12, go_sem]) rfl ⟨rfl, HF.out.1⟩
        · obtain ⟨o, HO⟩ : ∃ z, Hid (rdd (j : Int) a k = z) := ⟨_, Lib.hid rfl⟩
          have HO2 : Hid (rdd (j : Int) o k = o) := Lib.hid (by rw [← HO.out]; exact HRR.out _)
          have hso : sz o ≤ 20 := by rw [← HO.out]; exact sz_rdd (by omega) (by omega)
          refine wp_seq ?_
          have hle9 : (j : Int) ≤ 3 := by omega
          refine kS fun K hK => ?_
          refine sq 2 [(true, 0), (true, 1)] fun T hT => ?_
          iterate 2 refine tk ?_
          refine nlS hT HF fun vw13 HG => ?_
          clear hT T HF
          go_wp2
          refine hK.out _ _ ?_; clear hK K
          show Code.wp _ _ _ _ _
          have HF := HG; clear HG
          clear hle9
          refine wp_cond_true (by rfl) ?_
          refine wp_skip ?_
          show Code.wp _ _ _ _ _
          refine wp_seq ?_
          refine wp_block ?_
          have HZ16 : Hid (rdd ((j : Int)) (a) k = o) := Lib.hid (HO.out)
          have su16 : sz (o) ≤ 20 := by have e := HZ16.out; first | omega | (rw [← e]; exact sz_rdd (by omega) om)
          have lx2 := HF.out.c 0 rfl
          refine kS fun K hK => ?_
          refine sq 7 [(true, 0), (true, 1), (true, 2), (true, 3), (true, 4), (true, 5), (true, 6)] fun T hT => ?_
          iterate 3 refine tk ?_
          refine ck Tryz.call36 (fun w' hw => dround ((j : Int)) (a) k (o) _ HZ16.out (by omega) (by omega) (by omega) om) ?_
          iterate 3 refine tk ?_
          refine nlS hT HF fun vw14 HG => ?_
          clear hT T HF lx2
          go_wp2
          refine hK.out _ _ ?_; clear hK K
          show Code.wp _ _ _ _ _
          refine fH ((HG.out).al (b := vw14.heap.size) (by first | rfl | simp) (by decide)) fun Wx19 HF => ?_
          clear HG
          generalize vw14.heap.size = gx12 at *
          have HZ17 : Hid (rdd ((j : Int)) (o) k = o) := Lib.hid (HO2.out)
          have su17 : sz (o) ≤ 20 := by have e := HZ17.out; first | omega | (rw [← e]; exact sz_rdd (by omega) om)
          have lx12 := HF.out.c 1 rfl
          refine kS fun K hK => ?_
          refine sq 7 [(true, 0), (true, 1), (true, 2), (true, 3), (true, 4), (true, 5), (true, 6)] fun T hT => ?_
          iterate 3 refine tk ?_
          refine ck Tryz.call36 (fun w' hw => dround ((j : Int)) (o) k (o) _ HZ17.out (by omega) (by omega) (by omega) om) ?_
          iterate 3 refine tk ?_
          refine nlS hT HF fun vw15 HG => ?_
          clear hT T HF lx12
          go_wp2
          refine hK.out _ _ ?_; clear hK K
          show Code.wp _ _ _ _ _
          refine fH ((HG.out).al (b := vw15.heap.size) (by first | rfl | simp) (by decide)) fun Wx20 HF => ?_
          clear HG
          generalize vw15.heap.size = gx13 at *
          have lx12 := HF.out.c 1 rfl
          have lx13 := HF.out.c 2 rfl
          refine kS fun K hK => ?_
          refine sq 7 [(true, 0), (true, 1), (true, 2), (true, 3), (true, 4), (true, 5), (true, 6)] fun T hT => ?_
          iterate 7 refine tk ?_
          refine nlS hT HF fun vw16 HG => ?_
          clear hT T HF lx12 lx13
          go_wp2
          refine hK.out _ _ ?_; clear hK K
          show Code.wp _ _ _ _ _
          have HF := HG; clear HG
          refine wp_cond_false (by rfl) ?_
          refine wp_skip ?_
          show Code.wp _ _ _ _ _
          have hwi : IntKind.i64.wrap ((j : Int) + 1) = (j : Int) + 1 := by rw [IntKind.wrap_i64]; omega
          refine kL fun K hK => ?_
          refine sq 3 [(true, 0), (true, 1), (true, 2)] fun T hT => ?_
          iterate 3 refine tk ?_
          refine nlS hT HF fun vw17 HG => ?_
          clear hT T HF
          go_wp2
          refine hK.out _ _ ?_; clear hK K
          try simp only [Exit.then, Exit.inBlock]
          have HF := Lib.hid (HG.out); clear HG
          clear hwi
          refine h0_ _ _ ?_
          go_roundg k9
          case measure => omega
          case rel => exact ⟨j + 1, rfl, by omega, by omega, Lib.hid (((HF.out).er 2).er 1)⟩
  · have HN := Lib.hid hn
    have HQ := Lib.hid hq
    clear hn hq
    have HZ4 : Hid (rdd (3) (a) k = yh) := Lib.hid (HN.out)
    have su4 : sz (yh) ≤ 20 := by have e := HZ4.out; first | omega | (rw [← e]; exact sz_rdd (by omega) om)
    have lx2 := HF.out.c 0 rfl
    refine kS fun K hK => ?_
    refine sq 6 [(true, 0), (true, 1), (true, 2), (true, 3), (true, 4), (true, 5)] fun T hT => ?_
    iterate 2 refine tk ?_
    refine ck Tryz.call36 (fun w' hw => dround (3) (a) k (yh) _ HZ4.out (by omega) (by omega) (by omega) om) ?_
    iterate 3 refine tk ?_
    refine nlS hT HF fun vw5 HG => ?_
    clear hT T HF lx2
    go_wp2
    refine hK.out _ _ ?_; clear hK K
    show Code.wp _ _ _ _ _
    refine fH ((HG.out).al (b := vw5.heap.size) (by first | rfl | simp) (by decide)) fun Wx6 HF => ?_
    clear HG
    generalize vw5.heap.size = gx6 at *
    have HZ5 : Hid ((yl) / (st) = kl) := Lib.hid (HKL.out)
    have su5 : sz (kl) ≤ 40 := by have e := HZ5.out; first | omega | (rw [← e]; have := sz_div (yl) (st); omega)
    have lx3 := HF.out.c 1 rfl
    have lx4 := HF.out.c 2 rfl
    refine kS fun K hK => ?_
    refine sq 6 [(true, 0), (true, 1), (true, 2), (true, 3), (true, 4), (true, 5)] fun T hT => ?_
    iterate 2 refine tk ?_
    refine ck Tryz.call57 (fun w' hw => fdiv_any (yl) (st) (kl) _ HZ5.out (by exact HS0.out) om om) ?_
    iterate 3 refine tk ?_
    refine nlS hT HF fun vw6 HG => ?_
    clear hT T HF lx3 lx4
    go_wp2
    refine hK.out _ _ ?_; clear hK K
    show Code.wp _ _ _ _ _
    refine fH ((HG.out).al (b := vw6.heap.size) (by first | rfl | simp) (by decide)) fun Wx7 HF => ?_
    clear HG
    generalize vw6.heap.size = gx7 at *
    have HZ6 : Hid ((yh) / (st) = km) := Lib.hid (HKM.out)
    have su6 : sz (km) ≤ 40 := by have e := HZ6.out; first | omega | (rw [← e]; have := sz_div (yh) (st); omega)
    have lx3 := HF.out.c 1 rfl
    have lx5 := HF.out.c 3 rfl
    refine kS fun K hK => ?_
    refine sq 6 [(true, 0), (true, 1), (true, 2), (true, 3), (true, 4), (true, 5)] fun T hT => ?_
    iterate 2 refine tk ?_
    refine ck Tryz.call57 (fun w' hw => fdiv_any (yh) (st) (km) _ HZ6.out (by exact HS0.out) om om) ?_
    iterate 3 refine tk ?_
    refine nlS hT HF fun vw7 HG => ?_
    clear hT T HF lx3 lx5
    go_wp2
    refine hK.out _ _ ?_; clear hK K
    show Code.wp _ _ _ _ _
    refine fH ((HG.out).al (b := vw7.heap.size) (by first | rfl | simp) (by decide)) fun Wx8 HF => ?_
    clear HG
    generalize vw7.heap.size = gx8 at *
    have HZ7 : Hid ((a) / (st) = aw) := Lib.hid (HAW.out)
    have su7 : sz (aw) ≤ 40 := by have e := HZ7.out; first | omega | (rw [← e]; have := sz_div (a) (st); omega)
    have lx2 := HF.out.c 0 rfl
    have lx3 := HF.out.c 1 rfl
    refine kS fun K hK => ?_
    refine sq 6 [(true, 0), (true, 1), (true, 2), (true, 3), (true, 4), (true, 5)] fun T hT => ?_
    iterate 2 refine tk ?_
    refine ck Tryz.call57 (fun w' hw => fdiv_any (a) (st) (aw) _ HZ7.out (by exact HS0.out) om om) ?_
    iterate 3 refine tk ?_
    refine nlS hT HF fun vw8 HG => ?_
    clear hT T HF lx2 lx3
    go_wp2
    refine hK.out _ _ ?_; clear hK K
    show Code.wp _ _ _ _ _
    refine fH ((HG.out).al (b := vw8.heap.size) (by first | rfl | simp) (by decide)) fun Wx9 HF => ?_
    clear HG
    generalize vw8.heap.size = gx9 at *
    refine wp_seq ?_
    have hd3 : decide (yl = yh) = false := decide_eq_false (by first | exact ok | exact HYL.out | exact HYH.out | exact HN.out | exact HNE.out | exact HNEH.out | exact HSUB.out | exact HKD.out | exact HMD.out | exact HAD.out | exact Rat.sub_self | exact qabs_hi HH.out)
    have hd4 : decide (yl = yh) = false := decide_eq_false (by first | exact ok | exact HYL.out | exact HYH.out | exact HN.out | exact HNE.out | exact HNEH.out | exact HSUB.out | exact HKD.out | exact HMD.out | exact HAD.out | exact Rat.sub_self | exact qabs_hi HH.out)
    have HZ8 : Hid ((yh) - (yl) = st) := Lib.hid (by first | exact ok | exact HYL.out | exact HYH.out | exact HN.out | exact HNE.out | exact HNEH.out | exact HSUB.out | exact HKD.out | exact HMD.out | exact HAD.out | exact Rat.sub_self | exact qabs_hi HH.out)
    have su8 : sz (st) ≤ 41 := by have e := HZ8.out; first | omega | (rw [← e]; have := sz_sub (yh) (yl); omega)
    have hd5 : decide (yh = yl) = false := decide_eq_false (by first | exact ok | exact HYL.out | exact HYH.out | exact HN.out | exact HNE.out | exact HNEH.out | exact HSUB.out | exact HKD.out | exact HMD.out | exact HAD.out | exact Rat.sub_self | exact qabs_hi HH.out)
    have lx2 := HF.out.c 0 rfl
    have lx3 := HF.out.c 1 rfl
    have lx4 := HF.out.c 2 rfl
    have lx5 := HF.out.c 3 rfl
    have lx6 := HF.out.c 4 rfl
    have lx7 := HF.out.c 5 rfl
    have lx8 := HF.out.c 6 rfl
    have lx9 := HF.out.c 7 rfl
    refine kS fun K hK => ?_
    refine pd 61 [(true, 0), (true, 1), (true, 2), (true, 3), (true, 4), (true, 5), (true, 6), (true, 7), (true, 8), (true, 9), (true, 10), (true, 11), (true, 12), (true, 13), (true, 14), (true, 15), (true, 16), (true, 17), (true, 18), (true, 19), (true, 20), (true, 21), (true, 22), (true, 23), (true, 24), (true, 25), (true, 26), (true, 27), (true, 28), (true, 29), (true, 30), (true, 31), (true, 32), (true, 33), (true, 34), (true, 35), (true, 36), (true, 37), (true, 38), (true, 39), (true, 40), (true, 41), (true, 42), (true, 43), (true, 44), (true, 45), (true, 46), (true, 48), (true, 47), (true, 49), (true, 50), (true, 51), (true, 52), (true, 53), (true, 54), (true, 55), (true, 56), (true, 57), (true, 58), (true, 59), (true, 60)] fun T hT => ?_
    iterate 12 refine tk ?_
    refine ck Tryz.call49 (fun w' hw => fiswhole_any (kl) true _ (decide_eq_true (by first | exact ok | exact HYL.out | exact HYH.out | exact HN.out | exact HNE.out | exact HNEH.out | exact HSUB.out | exact HKD.out | exact HMD.out | exact HAD.out | exact Rat.sub_self | exact qabs_hi HH.out))) ?_
    iterate 4 refine tk ?_
    refine ck Tryz.call49 (fun w' hw => fiswhole_any (km) true _ (decide_eq_true (by first | exact ok | exact HYL.out | exact HYH.out | exact HN.out | exact HNE.out | exact HNEH.out | exact HSUB.out | exact HKD.out | exact HMD.out | exact HAD.out | exact Rat.sub_self | exact qabs_hi HH.out))) ?_
    iterate 5 refine tk ?_
    refine ck Tryz.call26 (fun w' hw => fcmp_any (yl) (a) (-1) _ (by have e9 : (yl) - (a) < (0 : Rat) := (by exact rsub_neg HL.out); exact sgQ_neg e9) om om) ?_
    iterate 5 refine tk ?_
    refine ck Tryz.call26 (fun w' hw => fcmp_any (yh) (a) (1) _ (by have e9 : (0 : Rat) < (yh) - (a) := (by exact rsub_pos HH.out); exact sgQ_pos e9) om om) ?_
    iterate 7 refine tk ?_
    refine ck Tryz.call49 (fun w' hw => fiswhole_any (aw) false _ (decide_eq_false (by first | exact ok | exact HYL.out | exact HYH.out | exact HN.out | exact HNE.out | exact HNEH.out | exact HSUB.out | exact HKD.out | exact HMD.out | exact HAD.out | exact Rat.sub_self | exact qabs_hi HH.out))) ?_
    iterate 10 refine tk ?_
    refine ck Tryz.call58 (fun w' hw => fsub_any (yh) (yl) (st) _ HZ8.out om om) ?_
    iterate 12 refine tk ?_
    refine nlD hT HF fun vw9 HG => ?_
    clear hT T HF lx2 lx3 lx4 lx5 lx6 lx7 lx8 lx9
    go_wp2
    refine hK.out _ _ ?_; clear hK K
    show Code.wp _ _ _ _ _
    refine fH ((((((HG.out).er 7).er 6).er 5).er 3).er 2) fun Wx10 HF => ?_
    clear HG
    clear hd3 hd4 hd5
    refine wp_cond_false (by rfl) ?_
    refine wp_skip ?_
    show Code.wp _ _ _ _ _
    rcases HQ.out with hl | ⟨he, ht⟩
    · obtain ⟨w2, HW2⟩ : ∃ z, Hid ((2 : Rat) * qabs (yh - a) = z) := ⟨_, Lib.hid rfl⟩
      have HAL : Hid (w2 < st) := Lib.hid (HW2.out ▸ hl)
      have HANE : Hid (¬ w2 = st) := Lib.hid (fun e => by have e9 := HAL.out; rw [e] at e9; exact Rat.lt_irrefl e9)
      clear hl
      have HZ9 : Hid (((2 : Int) : Rat) = (2 : Rat)) := Lib.hid (by decide +kernel)
      have su9 : sz ((2 : Rat)) ≤ 2 := sz_of (wl_le.2 (by decide +kernel)) (wl_le.2 (by decide +kernel))
      obtain ⟨u10, HZ10⟩ : ∃ z, Hid ((yh) - (a) = z) := ⟨_, Lib.hid rfl⟩
      have su10 : sz (u10) ≤ 28 := by rw [← HZ10.out]; have := sz_sub (yh) (a); omega
      have HZ11 : Hid (qabs (u10) = u10) := Lib.hid (by first | exact ok | exact HANE.out | exact HYL.out | exact HYH.out | exact HN.out | exact HNE.out | exact HNEH.out | exact HSUB.out | exact HKD.out | exact HMD.out | exact HAD.out | exact Rat.sub_self | exact qabs_hi HH.out | (simp only [← HZ10.out] <;> first | exact ok | exact HANE.out | exact HYL.out | exact HYH.out | exact HN.out | exact HNE.out | exact HNEH.out | exact HSUB.out | exact HKD.out | exact HMD.out | exact HAD.out | exact Rat.sub_self | exact qabs_hi HH.out))
      have su11 : sz (u10) ≤ 28 := by have e := HZ11.out; first | omega | (rw [← e]; rw [sz_qabs]; omega)
      have HZ12 : Hid ((2 : Rat) * (u10) = w2) := Lib.hid (by simp only [← HZ10.out]; first | exact HW2.out | (rw [← qabs_hi HH.out]; exact HW2.out))
      have su12 : sz (w2) ≤ 30 := by have e := HZ12.out; first | omega | (rw [← e]; have := sz_mul (2 : Rat) (u10); omega)
      have lx2 := HF.out.c 0 rfl
      have lx6 := HF.out.c 2 rfl
      refine kS fun K hK => ?_
      refine wp_region_plan 7 [6] [] (fun _ => 19) (fun _ => .cells #[.int .u64 0, .string ⟨#[]⟩, .bool false, .int .u64 0, .string ⟨#[]⟩] 36) [(true, 1), (true, 2), (true, 0), (true, 3), (true, 4), (true, 5)] (by kernel_rfl) (by kernel_rfl) (by intro i hi; simp only [List.mem_cons, List.not_mem_nil, or_false] at hi; rcases hi with rfl <;> exact ⟨_, rfl, rfl, rfl, by simp, fun ρ w => by kernel_rfl⟩) (fun i hi => by cases hi) (fun _ _ _ _ _ h => h) (fun T hT => ?_)
      iterate 2 refine tk ?_
      refine ck Tryz.call54 (fun w' hw => fint_any (2) (2 : Rat) _ HZ9.out om om) ?_
      refine ck Tryz.call58 (fun w' hw => fsub_any (yh) (a) (u10) _ HZ10.out om om) ?_
      refine ck Tryz.call60 (fun w' hw => fabs_any (u10) (u10) _ HZ11.out) ?_
      refine ck Tryz.call59 (fun w' hw => fmul_any (2 : Rat) (u10) (w2) _ HZ12.out om om) ?_
      refine wpPlan_nil (hT.out _ _ ?_)
      intro G vw10 hg hf
      simp only [puts, Act.put, lA, lB, lC, lD, lE, ↓reduceIte, Nat.reduceEqDiff]
      have HG := Lib.hid (HF.out.fr hg hf (zs := [(#[.int .u64 0, .string ⟨#[]⟩, .bool false, .int .u64 0, .string ⟨#[]⟩], 36)]) rfl (by decide) (by decide))
      simp only [List.zip_cons_cons, List.zip_nil_right, List.map_cons, List.map_nil, lF, lG] at HG
      clear hT T HF hg hf lx2 lx6
      generalize G 6 = gx10 at *
      have lx10 := HG.out.c 3 rfl; have fx10 := HG.out.f 3 rfl
      have r0 := Gr.refl vw10
      go_wp2
      refine hK.out _ _ ?_; clear hK K
      show Code.wp _ _ _ _ _
      clear r0 lx10 fx10
      refine fH ((((HG.out).put2 3 0 rfl).put2 3 2 rfl).put 3 4 _ rfl) fun Wx12 HF => ?_
      clear HG
      have HZ13 : Hid (((2 : Int) : Rat) = (2 : Rat)) := Lib.hid (by decide +kernel)
      have su13 : sz ((2 : Rat)) ≤ 2 := sz_of (wl_le.2 (by decide +kernel)) (wl_le.2 (by decide +kernel))
      have HZ14 : Hid ((2 : Rat) * (st) = s2) := Lib.hid (HS2.out)
      have su14 : sz (s2) ≤ 14 := by have e := HZ14.out; first | omega | (rw [← e]; have := sz_mul (2 : Rat) (st); omega)
      obtain ⟨u15, HZ15⟩ : ∃ z, Hid ((yh) / (s2) = z) := ⟨_, Lib.hid rfl⟩
      have su15 : sz (u15) ≤ 34 := by rw [← HZ15.out]; have := sz_div (yh) (s2); omega
      have lx3 := HF.out.c 1 rfl
      have lx6 := HF.out.c 2 rfl
      refine kS fun K hK => ?_
      refine wp_region_plan 9 [8] [7] (fun _ => 20) (fun _ => .cells #[.int .u64 0, .string ⟨#[]⟩, .bool false, .int .u64 0, .string ⟨#[]⟩] 36) [(true, 0), (true, 2), (true, 1), (true, 3), (true, 4), (true, 5), (true, 6), (true, 7)] (by kernel_rfl) (by kernel_rfl) (by intro i hi; simp only [List.mem_cons, List.not_mem_nil, or_false] at hi; rcases hi with rfl <;> exact ⟨_, rfl, rfl, rfl, by simp, fun ρ w => by kernel_rfl⟩) (by intro i hi; simp only [List.mem_cons, List.not_mem_nil, or_false] at hi; rcases hi with rfl <;> exact ⟨_, rfl, pure_extract⟩) (fun _ _ _ _ _ h => h) (fun T hT => ?_)
      iterate 2 refine tk ?_
      refine ck Tryz.call54 (fun w' hw => fint_any (2) (2 : Rat) _ HZ13.out om om) ?_
      refine ck Tryz.call59 (fun w' hw => fmul_any (2 : Rat) (st) (s2) _ HZ14.out om om) ?_
      refine ck Tryz.call57 (fun w' hw => fdiv_any (yh) (s2) (u15) _ HZ15.out (by exact HS20.out) om om) ?_
      iterate 3 refine tk ?_
      refine wpPlan_nil (hT.out _ _ ?_)
      intro G vw11 hg hf
      simp only [puts, Act.put, lA, lB, lC, lD, lE, ↓reduceIte, Nat.reduceEqDiff]
      have HG := Lib.hid (HF.out.fr hg hf (zs := [(#[.int .u64 0, .string ⟨#[]⟩, .bool false, .int .u64 0, .string ⟨#[]⟩], 36)]) rfl (by decide) (by decide))
      simp only [List.zip_cons_cons, List.zip_nil_right, List.map_cons, List.map_nil, lF, lG] at HG
      clear hT T HF hg hf lx3 lx6
      generalize G 8 = gx11 at *
      have lx11 := HG.out.c 4 rfl; have fx11 := HG.out.f 4 rfl
      have r0 := Gr.refl vw11
      go_wp2
      refine hK.out _ _ ?_; clear hK K
      show Code.wp _ _ _ _ _
      clear r0 lx11 fx11
      refine fH (((((HG.out).put2 4 0 rfl).put2 4 2 rfl).put 4 4 _ rfl).er 2) fun Wx13 HF => ?_
      clear HG
      refine wp_seq ?_
      have hd6 : decide (w2 = st) = false := decide_eq_false (by first | exact ok | exact HANE.out | exact HYL.out | exact HYH.out | exact HN.out | exact HNE.out | exact HNEH.out | exact HSUB.out | exact HKD.out | exact HMD.out | exact HAD.out | exact Rat.sub_self | exact qabs_hi HH.out | (simp only [← HZ15.out, ← HZ10.out] <;> first | exact ok | exact HANE.out | exact HYL.out | exact HYH.out | exact HN.out | exact HNE.out | exact HNEH.out | exact HSUB.out | exact HKD.out | exact HMD.out | exact HAD.out | exact Rat.sub_self | exact qabs_hi HH.out))
      have lx3 := HF.out.c 1 rfl
      have lx10 := HF.out.c 2 rfl
      have lx11 := HF.out.c 3 rfl
      refine kS fun K hK => ?_
      refine sq 14 [(true, 0), (true, 1), (true, 2), (true, 3), (true, 4), (true, 5), (true, 6), (true, 7), (true, 8), (true, 9), (true, 10), (true, 11), (true, 12), (true, 13)] fun T hT => ?_
      iterate 2 refine tk ?_
      refine ck Tryz.call26 (fun w' hw => fcmp_any (w2) (st) (-1) _ (by have e9 : (w2) - (st) < (0 : Rat) := (by exact rsub_neg HAL.out); exact sgQ_neg e9) om om) ?_
      iterate 6 refine tk ?_
      iterate 3 refine sk ?_
      iterate 2 refine tk ?_
      refine nlS hT HF fun vw12 HG => ?_
      clear hT T HF lx3 lx10 lx11
      go_wp2
      refine hK.out _ _ ?_; clear hK K
      show Code.wp _ _ _ _ _
      refine fH ((((HG.out).er 3).er 2).er 1) fun Wx14 HF => ?_
      clear HG
      clear hd6
      refine wp_cond_false (by rfl) ?_
      refine wp_skip ?_
      show Code.wp _ _ _ _ _
      refine wp_seq ?_
      refine kS fun K hK => ?_
      refine wp_region_lit ?_
      go_wp2
      refine hK.out _ _ ?_; clear hK K
      show Code.wp _ _ _ _ _
      refine fH (HF.out) fun Wx16 HG => ?_
      clear HF; have HF := HG; clear HG
      refine wp_block ?_
      go_loopg [22] 3 (fun k iv wr => ∃ j : Nat, iv = .int .i64 (j : Int) ∧ j + k = 4 ∧ 1 ≤ j ∧ Hid (HP w wr [Sum.inl (gx2, 36, #[.int .u64 ((lo (Int.natAbs ((a).num)) : Nat) : Int), .string (bg (Int.natAbs ((a).num))), .bool (decide (((a).num) < 0)), .int .u64 ((lo ((a).den - 1) : Nat) : Int), .string (bg ((a).den - 1))])]))
      case atStart => exact ⟨1, rfl, rfl, Nat.le_refl _, HF⟩
      case round =>
        rename_i J_ K_ h1_ h0_
        clear HF
        obtain ⟨j, rfl, hjk, hj1, HF⟩ := hrel
        rcases gk with _ | k9
        · refine wp_seq ?_
          have hle9 : ¬ (j : Int) ≤ 3 := by omega
          refine kS fun K hK => ?_
          refine sq 2 [(true, 0), (true, 1)] fun T hT => ?_
          iterate 2 refine tk ?_
          refine nlS hT HF fun vw13 HG => ?_
          clear hT T HF
          go_wp2
          refine hK.out _ _ ?_; clear hK K
          show Code.wp _ _ _ _ _
          have HF := HG; clear HG
          clear hle9
          refine wp_cond_false (by rfl) ?_
          refine wp_exit ?_
          show Code.wp _ _ _ _ _
          have HB := HPb HF
          refine kS fun K hK => ?_
          refine sq 2 [(true, 0), (true, 1)] fun T hT => ?_
          refine ck Tryz.call35 (fun w' hw => worksd_any _ (Lib.hid (HT.out.gr (Gr.trans HB.out hw)))) ?_
          refine tk ?_
          refine nlS hT HF fun vw14 HG => ?_
          clear hT T HF HB
          go_wp2
          refine hK.out _ _ ?_; clear hK K
          show Code.wp _ _ _ _ _
          refine fH ((HG.out).er 0) fun Wx23 HF => ?_
          clear HG
          refine wp_ret ?_
          try simp only [Exit.then, Exit.inBlock]
          exact bodyPost_ret (v := .bool true) (by simp [results, Tryz.results12, go_sem]) rfl ⟨rfl, HF.out.1⟩
        · obtain ⟨o, HO⟩ : ∃ z, Hid (rdd (j : Int) a k = z) := ⟨_, Lib.hid rfl⟩
          have HO2 : Hid (rdd (j : Int) o k = o) := Lib.hid (by rw [← HO.out]; exact HRR.out _)
          have hso : sz o ≤ 20 := by rw [← HO.out]; exact sz_rdd (by omega) (by omega)
          refine wp_seq ?_
          have hle9 : (j : Int) ≤ 3 := by omega
          refine kS fun K hK => ?_
          refine sq 2 [(true, 0), (true, 1)] fun T hT => ?_
          iterate 2 refine tk ?_
          refine nlS hT HF fun vw13 HG => ?_
          clear hT T HF
          go_wp2
          refine hK.out _ _ ?_; clear hK K
          show Code.wp _ _ _ _ _
          have HF := HG; clear HG
          clear hle9
          refine wp_cond_true (by rfl) ?_
          refine wp_skip ?_
          show Code.wp _ _ _ _ _
          refine wp_seq ?_
          refine wp_block ?_
          have HZ16 : Hid (rdd ((j : Int)) (a) k = o) := Lib.hid (HO.out)
          have su16 : sz (o) ≤ 20 := by have e := HZ16.out; first | omega | (rw [← e]; exact sz_rdd (by omega) om)
          have lx2 := HF.out.c 0 rfl
          refine kS fun K hK => ?_
          refine sq 7 [(true, 0), (true, 1), (true, 2), (true, 3), (true, 4), (true, 5), (true, 6)] fun T hT => ?_
          iterate 3 refine tk ?_
          refine ck Tryz.call36 (fun w' hw => dround ((j : Int)) (a) k (o) _ HZ16.out (by omega) (by omega) (by omega) om) ?_
          iterate 3 refine tk ?_
          refine nlS hT HF fun vw14 HG => ?_
          clear hT T HF lx2
          go_wp2
          refine hK.out _ _ ?_; clear hK K
          show Code.wp _ _ _ _ _
          refine fH ((HG.out).al (b := vw14.heap.size) (by first | rfl | simp) (by decide)) fun Wx19 HF => ?_
          clear HG
          generalize vw14.heap.size = gx12 at *
          have HZ17 : Hid (rdd ((j : Int)) (o) k = o) := Lib.hid (HO2.out)
          have su17 : sz (o) ≤ 20 := by have e := HZ17.out; first | omega | (rw [← e]; exact sz_rdd (by omega) om)
          have lx12 := HF.out.c 1 rfl
          refine kS fun K hK => ?_
          refine sq 7 [(true, 0), (true, 1), (true, 2), (true, 3), (true, 4), (true, 5), (true, 6)] fun T hT => ?_
          iterate 3 refine tk ?_
          refine ck Tryz.call36 (fun w' hw => dround ((j : Int)) (o) k (o) _ HZ17.out (by omega) (by omega) (by omega) om) ?_
          iterate 3 refine tk ?_
          refine nlS hT HF fun vw15 HG => ?_
          clear hT T HF lx12
          go_wp2
          refine hK.out _ _ ?_; clear hK K
          show Code.wp _ _ _ _ _
          refine fH ((HG.out).al (b := vw15.heap.size) (by first | rfl | simp) (by decide)) fun Wx20 HF => ?_
          clear HG
          generalize vw15.heap.size = gx13 at *
          have lx12 := HF.out.c 1 rfl
          have lx13 := HF.out.c 2 rfl
          refine kS fun K hK => ?_
          refine sq 7 [(true, 0), (true, 1), (true, 2), (true, 3), (true, 4), (true, 5), (true, 6)] fun T hT => ?_
          iterate 7 refine tk ?_
          refine nlS hT HF fun vw16 HG => ?_
          clear hT T HF lx12 lx13
          go_wp2
          refine hK.out _ _ ?_; clear hK K
          show Code.wp _ _ _ _ _
          have HF := HG; clear HG
          refine wp_cond_false (by rfl) ?_
          refine wp_skip ?_
          show Code.wp _ _ _ _ _
          have hwi : IntKind.i64.wrap ((j : Int) + 1) = (j : Int) + 1 := by rw [IntKind.wrap_i64]; omega
          refine kL fun K hK => ?_
          refine sq 3 [(true, 0), (true, 1), (true, 2)] fun T hT => ?_
          iterate 3 refine tk ?_
          refine nlS hT HF fun vw17 HG => ?_
          clear hT T HF
          go_wp2
          refine hK.out _ _ ?_; clear hK K
          try simp only [Exit.then, Exit.inBlock]
          have HF := Lib.hid (HG.out); clear HG
          clear hwi
          refine h0_ _ _ ?_
          go_roundg k9
          case measure => omega
          case rel => exact ⟨j + 1, rfl, by omega, by omega, Lib.hid (((HF.out).er 2).er 1)⟩
    · have HW2 := Lib.hid he
      obtain ⟨tt, HTT⟩ : ∃ z, Hid (yh / s2 = z) := ⟨_, Lib.hid rfl⟩
      have HTD : Hid ((tt).den = 1) := Lib.hid (HTT.out ▸ ht)
      clear he ht
      have HZ9 : Hid (((2 : Int) : Rat) = (2 : Rat)) := Lib.hid (by decide +kernel)
      have su9 : sz ((2 : Rat)) ≤ 2 := sz_of (wl_le.2 (by decide +kernel)) (wl_le.2 (by decide +kernel))
      obtain ⟨u10, HZ10⟩ : ∃ z, Hid ((yh) - (a) = z) := ⟨_, Lib.hid rfl⟩
      have su10 : sz (u10) ≤ 28 := by rw [← HZ10.out]; have := sz_sub (yh) (a); omega
      have HZ11 : Hid (qabs (u10) = u10) := Lib.hid (by first | exact ok | exact HTD.out | exact HYL.out | exact HYH.out | exact HN.out | exact HNE.out | exact HNEH.out | exact HSUB.out | exact HKD.out | exact HMD.out | exact HAD.out | exact Rat.sub_self | exact qabs_hi HH.out | (simp only [← HZ10.out] <;> first | exact ok | exact HTD.out | exact HYL.out | exact HYH.out | exact HN.out | exact HNE.out | exact HNEH.out | exact HSUB.out | exact HKD.out | exact HMD.out | exact HAD.out | exact Rat.sub_self | exact qabs_hi HH.out))
      have su11 : sz (u10) ≤ 28 := by have e := HZ11.out; first | omega | (rw [← e]; rw [sz_qabs]; omega)
      have HZ12 : Hid ((2 : Rat) * (u10) = st) := Lib.hid (by simp only [← HZ10.out]; first | exact HW2.out | (rw [← qabs_hi HH.out]; exact HW2.out))
      have su12 : sz (st) ≤ 30 := by have e := HZ12.out; first | omega | (rw [← e]; have := sz_mul (2 : Rat) (u10); omega)
      have lx2 := HF.out.c 0 rfl
      have lx6 := HF.out.c 2 rfl
      refine kS fun K hK => ?_
      refine wp_region_plan 7 [6] [] (fun _ => 19) (fun _ => .cells #[.int .u64 0, .string ⟨#[]⟩, .bool false, .int .u64 0, .string ⟨#[]⟩] 36) [(true, 1), (true, 2), (true, 0), (true, 3), (true, 4), (true, 5)] (by kernel_rfl) (by kernel_rfl) (by intro i hi; simp only [List.mem_cons, List.not_mem_nil, or_false] at hi; rcases hi with rfl <;> exact ⟨_, rfl, rfl, rfl, by simp, fun ρ w => by kernel_rfl⟩) (fun i hi => by cases hi) (fun _ _ _ _ _ h => h) (fun T hT => ?_)
      iterate 2 refine tk ?_
      refine ck Tryz.call54 (fun w' hw => fint_any (2) (2 : Rat) _ HZ9.out om om) ?_
      refine ck Tryz.call58 (fun w' hw => fsub_any (yh) (a) (u10) _ HZ10.out om om) ?_
      refine ck Tryz.call60 (fun w' hw => fabs_any (u10) (u10) _ HZ11.out) ?_
      refine ck Tryz.call59 (fun w' hw => fmul_any (2 : Rat) (u10) (st) _ HZ12.out om om) ?_
      refine wpPlan_nil (hT.out _ _ ?_)
      intro G vw10 hg hf
      simp only [puts, Act.put, lA, lB, lC, lD, lE, ↓reduceIte, Nat.reduceEqDiff]
      have HG := Lib.hid (HF.out.fr hg hf (zs := [(#[.int .u64 0, .string ⟨#[]⟩, .bool false, .int .u64 0, .string ⟨#[]⟩], 36)]) rfl (by decide) (by decide))
      simp only [List.zip_cons_cons, List.zip_nil_right, List.map_cons, List.map_nil, lF, lG] at HG
      clear hT T HF hg hf lx2 lx6
      generalize G 6 = gx10 at *
      have lx10 := HG.out.c 3 rfl; have fx10 := HG.out.f 3 rfl
      have r0 := Gr.refl vw10
      go_wp2
      refine hK.out _ _ ?_; clear hK K
      show Code.wp _ _ _ _ _
      clear r0 lx10 fx10
      refine fH ((((HG.out).put2 3 0 rfl).put2 3 2 rfl).put 3 4 _ rfl) fun Wx12 HF => ?_
      clear HG
      have HZ13 : Hid (((2 : Int) : Rat) = (2 : Rat)) := Lib.hid (by decide +kernel)
      have su13 : sz ((2 : Rat)) ≤ 2 := sz_of (wl_le.2 (by decide +kernel)) (wl_le.2 (by decide +kernel))
      have HZ14 : Hid ((2 : Rat) * (st) = s2) := Lib.hid (HS2.out)
      have su14 : sz (s2) ≤ 14 := by have e := HZ14.out; first | omega | (rw [← e]; have := sz_mul (2 : Rat) (st); omega)
      have HZ15 : Hid ((yh) / (s2) = tt) := Lib.hid (HTT.out)
      have su15 : sz (tt) ≤ 60 := by have e := HZ15.out; first | omega | (rw [← e]; have := sz_div (yh) (s2); omega)
      have lx3 := HF.out.c 1 rfl
      have lx6 := HF.out.c 2 rfl
      refine kS fun K hK => ?_
      refine wp_region_plan 9 [8] [7] (fun _ => 20) (fun _ => .cells #[.int .u64 0, .string ⟨#[]⟩, .bool false, .int .u64 0, .string ⟨#[]⟩] 36) [(true, 0), (true, 2), (true, 1), (true, 3), (true, 4), (true, 5), (true, 6), (true, 7)] (by kernel_rfl) (by kernel_rfl) (by intro i hi; simp only [List.mem_cons, List.not_mem_nil, or_false] at hi; rcases hi with rfl <;> exact ⟨_, rfl, rfl, rfl, by simp, fun ρ w => by kernel_rfl⟩) (by intro i hi; simp only [List.mem_cons, List.not_mem_nil, or_false] at hi; rcases hi with rfl <;> exact ⟨_, rfl, pure_extract⟩) (fun _ _ _ _ _ h => h) (fun T hT => ?_)
      iterate 2 refine tk ?_
      refine ck Tryz.call54 (fun w' hw => fint_any (2) (2 : Rat) _ HZ13.out om om) ?_
      refine ck Tryz.call59 (fun w' hw => fmul_any (2 : Rat) (st) (s2) _ HZ14.out om om) ?_
      refine ck Tryz.call57 (fun w' hw => fdiv_any (yh) (s2) (tt) _ HZ15.out (by exact HS20.out) om om) ?_
      iterate 3 refine tk ?_
      refine wpPlan_nil (hT.out _ _ ?_)
      intro G vw11 hg hf
      simp only [puts, Act.put, lA, lB, lC, lD, lE, ↓reduceIte, Nat.reduceEqDiff]
      have HG := Lib.hid (HF.out.fr hg hf (zs := [(#[.int .u64 0, .string ⟨#[]⟩, .bool false, .int .u64 0, .string ⟨#[]⟩], 36)]) rfl (by decide) (by decide))
      simp only [List.zip_cons_cons, List.zip_nil_right, List.map_cons, List.map_nil, lF, lG] at HG
      clear hT T HF hg hf lx3 lx6
      generalize G 8 = gx11 at *
      have lx11 := HG.out.c 4 rfl; have fx11 := HG.out.f 4 rfl
      have r0 := Gr.refl vw11
      go_wp2
      refine hK.out _ _ ?_; clear hK K
      show Code.wp _ _ _ _ _
      clear r0 lx11 fx11
      refine fH (((((HG.out).put2 4 0 rfl).put2 4 2 rfl).put 4 4 _ rfl).er 2) fun Wx13 HF => ?_
      clear HG
      refine wp_seq ?_
      have lx3 := HF.out.c 1 rfl
      have lx10 := HF.out.c 2 rfl
      have lx11 := HF.out.c 3 rfl
      refine kS fun K hK => ?_
      refine sq 14 [(true, 0), (true, 1), (true, 2), (true, 3), (true, 4), (true, 5), (true, 6), (true, 7), (true, 8), (true, 9), (true, 10), (true, 11), (true, 12), (true, 13)] fun T hT => ?_
      iterate 2 refine tk ?_
      refine ck Tryz.call26 (fun w' hw => fcmp_any (st) (st) (0) _ (by have e9 : (st) - (st) = (0 : Rat) := (by first | exact ok | exact HTD.out | exact HYL.out | exact HYH.out | exact HN.out | exact HNE.out | exact HNEH.out | exact HSUB.out | exact HKD.out | exact HMD.out | exact HAD.out | exact Rat.sub_self | exact qabs_hi HH.out | (simp only [← HZ10.out] <;> first | exact ok | exact HTD.out | exact HYL.out | exact HYH.out | exact HN.out | exact HNE.out | exact HNEH.out | exact HSUB.out | exact HKD.out | exact HMD.out | exact HAD.out | exact Rat.sub_self | exact qabs_hi HH.out)); exact sgQ_zero' e9) om om) ?_
      iterate 7 refine tk ?_
      refine ck Tryz.call49 (fun w' hw => fiswhole_any (tt) true _ (decide_eq_true (by first | exact ok | exact HTD.out | exact HYL.out | exact HYH.out | exact HN.out | exact HNE.out | exact HNEH.out | exact HSUB.out | exact HKD.out | exact HMD.out | exact HAD.out | exact Rat.sub_self | exact qabs_hi HH.out | (simp only [← HZ10.out] <;> first | exact ok | exact HTD.out | exact HYL.out | exact HYH.out | exact HN.out | exact HNE.out | exact HNEH.out | exact HSUB.out | exact HKD.out | exact HMD.out | exact HAD.out | exact Rat.sub_self | exact qabs_hi HH.out)))) ?_
      iterate 3 refine tk ?_
      refine nlS hT HF fun vw12 HG => ?_
      clear hT T HF lx3 lx10 lx11
      go_wp2
      refine hK.out _ _ ?_; clear hK K
      show Code.wp _ _ _ _ _
      refine fH ((((HG.out).er 3).er 2).er 1) fun Wx14 HF => ?_
      clear HG
      refine wp_cond_false (by rfl) ?_
      refine wp_skip ?_
      show Code.wp _ _ _ _ _
      refine wp_seq ?_
      refine kS fun K hK => ?_
      refine wp_region_lit ?_
      go_wp2
      refine hK.out _ _ ?_; clear hK K
      show Code.wp _ _ _ _ _
      refine fH (HF.out) fun Wx16 HG => ?_
      clear HF; have HF := HG; clear HG
      refine wp_block ?_
      go_loopg [22] 3 (fun k iv wr => ∃ j : Nat, iv = .int .i64 (j : Int) ∧ j + k = 4 ∧ 1 ≤ j ∧ Hid (HP w wr [Sum.inl (gx2, 36, #[.int .u64 ((lo (Int.natAbs ((a).num)) : Nat) : Int), .string (bg (Int.natAbs ((a).num))), .bool (decide (((a).num) < 0)), .int .u64 ((lo ((a).den - 1) : Nat) : Int), .string (bg ((a).den - 1))])]))
      case atStart => exact ⟨1, rfl, rfl, Nat.le_refl _, HF⟩
      case round =>
        rename_i J_ K_ h1_ h0_
        clear HF
        obtain ⟨j, rfl, hjk, hj1, HF⟩ := hrel
        rcases gk with _ | k9
        · refine wp_seq ?_
          have hle9 : ¬ (j : Int) ≤ 3 := by omega
          refine kS fun K hK => ?_
          refine sq 2 [(true, 0), (true, 1)] fun T hT => ?_
          iterate 2 refine tk ?_
          refine nlS hT HF fun vw13 HG => ?_
          clear hT T HF
          go_wp2
          refine hK.out _ _ ?_; clear hK K
          show Code.wp _ _ _ _ _
          have HF := HG; clear HG
          clear hle9
          refine wp_cond_false (by rfl) ?_
          refine wp_exit ?_
          show Code.wp _ _ _ _ _
          have HB := HPb HF
          refine kS fun K hK => ?_
          refine sq 2 [(true, 0), (true, 1)] fun T hT => ?_
          refine ck Tryz.call35 (fun w' hw => worksd_any _ (Lib.hid (HT.out.gr (Gr.trans HB.out hw)))) ?_
          refine tk ?_
          refine nlS hT HF fun vw14 HG => ?_
          clear hT T HF HB
          go_wp2
          refine hK.out _ _ ?_; clear hK K
          show Code.wp _ _ _ _ _
          refine fH ((HG.out).er 0) fun Wx23 HF => ?_
          clear HG
          refine wp_ret ?_
          try simp only [Exit.then, Exit.inBlock]
          exact bodyPost_ret (v := .bool true) (by simp [results, Tryz.results12, go_sem]) rfl ⟨rfl, HF.out.1⟩
        · obtain ⟨o, HO⟩ : ∃ z, Hid (rdd (j : Int) a k = z) := ⟨_, Lib.hid rfl⟩
          have HO2 : Hid (rdd (j : Int) o k = o) := Lib.hid (by rw [← HO.out]; exact HRR.out _)
          have hso : sz o ≤ 20 := by rw [← HO.out]; exact sz_rdd (by omega) (by omega)
          refine wp_seq ?_
          have hle9 : (j : Int) ≤ 3 := by omega
          refine kS fun K hK => ?_
          refine sq 2 [(true, 0), (true, 1)] fun T hT => ?_
          iterate 2 refine tk ?_
          refine nlS hT HF fun vw13 HG => ?_
          clear hT T HF
          go_wp2
          refine hK.out _ _ ?_; clear hK K
          show Code.wp _ _ _ _ _
          have HF := HG; clear HG
          clear hle9
          refine wp_cond_true (by rfl) ?_
          refine wp_skip ?_
          show Code.wp _ _ _ _ _
          refine wp_seq ?_
          refine wp_block ?_
          have HZ16 : Hid (rdd ((j : Int)) (a) k = o) := Lib.hid (HO.out)
          have su16 : sz (o) ≤ 20 := by have e := HZ16.out; first | omega | (rw [← e]; exact sz_rdd (by omega) om)
          have lx2 := HF.out.c 0 rfl
          refine kS fun K hK => ?_
          refine sq 7 [(true, 0), (true, 1), (true, 2), (true, 3), (true, 4), (true, 5), (true, 6)] fun T hT => ?_
          iterate 3 refine tk ?_
          refine ck Tryz.call36 (fun w' hw => dround ((j : Int)) (a) k (o) _ HZ16.out (by omega) (by omega) (by omega) om) ?_
          iterate 3 refine tk ?_
          refine nlS hT HF fun vw14 HG => ?_
          clear hT T HF lx2
          go_wp2
          refine hK.out _ _ ?_; clear hK K
          show Code.wp _ _ _ _ _
          refine fH ((HG.out).al (b := vw14.heap.size) (by first | rfl | simp) (by decide)) fun Wx19 HF => ?_
          clear HG
          generalize vw14.heap.size = gx12 at *
          have HZ17 : Hid (rdd ((j : Int)) (o) k = o) := Lib.hid (HO2.out)
          have su17 : sz (o) ≤ 20 := by have e := HZ17.out; first | omega | (rw [← e]; exact sz_rdd (by omega) om)
          have lx12 := HF.out.c 1 rfl
          refine kS fun K hK => ?_
          refine sq 7 [(true, 0), (true, 1), (true, 2), (true, 3), (true, 4), (true, 5), (true, 6)] fun T hT => ?_
          iterate 3 refine tk ?_
          refine ck Tryz.call36 (fun w' hw => dround ((j : Int)) (o) k (o) _ HZ17.out (by omega) (by omega) (by omega) om) ?_
          iterate 3 refine tk ?_
          refine nlS hT HF fun vw15 HG => ?_
          clear hT T HF lx12
          go_wp2
          refine hK.out _ _ ?_; clear hK K
          show Code.wp _ _ _ _ _
          refine fH ((HG.out).al (b := vw15.heap.size) (by first | rfl | simp) (by decide)) fun Wx20 HF => ?_
          clear HG
          generalize vw15.heap.size = gx13 at *
          have lx12 := HF.out.c 1 rfl
          have lx13 := HF.out.c 2 rfl
          refine kS fun K hK => ?_
          refine sq 7 [(true, 0), (true, 1), (true, 2), (true, 3), (true, 4), (true, 5), (true, 6)] fun T hT => ?_
          iterate 7 refine tk ?_
          refine nlS hT HF fun vw16 HG => ?_
          clear hT T HF lx12 lx13
          go_wp2
          refine hK.out _ _ ?_; clear hK K
          show Code.wp _ _ _ _ _
          have HF := HG; clear HG
          refine wp_cond_false (by rfl) ?_
          refine wp_skip ?_
          show Code.wp _ _ _ _ _
          have hwi : IntKind.i64.wrap ((j : Int) + 1) = (j : Int) + 1 := by rw [IntKind.wrap_i64]; omega
          refine kL fun K hK => ?_
          refine sq 3 [(true, 0), (true, 1), (true, 2)] fun T hT => ?_
          iterate 3 refine tk ?_
          refine nlS hT HF fun vw17 HG => ?_
          clear hT T HF
          go_wp2
          refine hK.out _ _ ?_; clear hK K
          try simp only [Exit.then, Exit.inBlock]
          have HF := Lib.hid (HG.out); clear HG
          clear hwi
          refine h0_ _ _ ?_
          go_roundg k9
          case measure => omega
          case rel => exact ⟨j + 1, rfl, by omega, by omega, Lib.hid (((HF.out).er 2).er 1)⟩

end Go.Proofs.YtgdibedgjndcoaaGreatDoor
