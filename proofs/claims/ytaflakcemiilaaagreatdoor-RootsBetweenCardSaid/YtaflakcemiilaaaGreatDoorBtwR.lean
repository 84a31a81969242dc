
/- RootsBetween: the law's walk. -/
import Derived.Test.YtaflakcemiilaaaGreatDoorRot6
import Derived.Test.YtaflakcemiilaaaGreatDoorFieldP
import Derived.Test.YtaflakcemiilaaaGreatDoorSgnR
namespace Go.Proofs.YtaflakcemiilaaaGreatDoor
open Go.RowKit
set_option linter.unusedSimpArgs false
set_option linter.unusedVariables false
attribute [local go_sem ↓] Go.wp_at_zero Go.wp_at_succ
attribute [local go_sem ↓] eq_nat eq_nat_zero eq_int eq_frac eq_frac_zero
attribute [local go_sem] Instr.field asAgg
theorem hq_eq (k : Nat) : (1 / 2 : Rat) ^ k = hq k := rfl
theorem rlo_zero (k : Nat) : rlo 0 k = 0 := by
  have h := rlo_le (Rat.le_refl (a := 0)) k
  have h2 := rlo_nn 0 k
  rcases (show rlo 0 k = 0 ∨ 0 < rlo 0 k by grind) with c | c
  · exact c
  · have := Rat.mul_pos c c; grind
theorem rhi_zero (k : Nat) : rhi 0 k = 0 := by rw [rhi_ex (by rw [rlo_zero]; decide +kernel), rlo_zero]
theorem rlo_pos_sq {a : Rat} (h : 0 ≤ a) (hne : ¬ a = 0) {k : Nat} (he : rlo a k * rlo a k = a) : 0 < rlo a k := by
  have := rlo_nn a k
  rcases (show rlo a k = 0 ∨ 0 < rlo a k by grind) with c | c
  · rw [c] at he; exfalso; apply hne; rw [← he]; decide +kernel
  · exact c
theorem sz_qdiv {a b : Rat} (h : sz a ≤ 20) (h2 : sz b ≤ 4) : sz (a / b) ≤ 40 := by have := sz_div a b; omega

theorem sz_pow5 {a : Rat} {k : Nat} (h1 : k * nb a.num.natAbs ≤ 262144) (h2 : k * nb a.den ≤ 262144) : sz (a ^ k) ≤ 8192 :=
  sz_of (by rw [Rat.num_pow, Int.natAbs_pow]; exact wl_pow _ _ h1) (by rw [Rat.den_pow]; exact wl_pow _ _ h2)
theorem sz_half5 {k : Nat} (h : k ≤ 100) : sz ((1 / 2 : Rat) ^ k) ≤ 4 := by
  have e1 : ((1 / 2 : Rat) ^ k).num = 1 := by rw [Rat.num_pow, show (1 / 2 : Rat).num = 1 from by decide +kernel, Int.one_pow]
  have e2 : ((1 / 2 : Rat) ^ k).den = 2 ^ k := by rw [Rat.den_pow, show (1 / 2 : Rat).den = 2 from by decide +kernel]
  refine sz_of ?_ ?_
  · rw [e1]; exact Nat.le_trans (wl_small (by decide)) (by decide)
  · rw [e2]; exact wl_two h

set_option maxRecDepth 20000 in
set_option maxHeartbeats 4000000 in
theorem power5_any (k : Nat) (z : Rat) (w : World) (HZ : Hid (((1 / 2 : Rat)) ^ k = z)) (hk : k ≤ 100) :
    Calls Tryz.prog 41 #[.int .i64 (((k : Nat) : Int))] w fun e w' => e = .returned (.agg #[.int .u64 ((lo (Int.natAbs ((z).num)) : Nat) : Int), .string (bg (Int.natAbs ((z).num))), .bool (decide (((z).num) < 0)), .int .u64 ((lo ((z).den - 1) : Nat) : Int), .string (bg ((z).den - 1))]) ∧ Below w.heap.size w w' := by
  go_enter Tryz.func41, Tryz.ntmps41
  have HF := Lib.hid (hp0 w)
  refine kS fun K hK => ?_
  refine wp_region_lit ?_
  go_wp2
  refine hK.out _ _ ?_; clear hK K
  show Code.wp _ _ _ _ _
  refine fH ((HF.out).al (b := w.heap.size) (by first | rfl | simp) (by decide)) fun Wx0 HG => ?_
  clear HF; have HF := HG; clear HG
  have HZ1 : Hid (((1 : Int) : Rat) / ((2 : Int) : Rat) = (1/2 : Rat)) := Lib.hid (by decide +kernel)
  have su1 : sz ((1/2 : Rat)) ≤ 4 := sz_of (wl_le.2 (by decide +kernel)) (wl_le.2 (by decide +kernel))
  have HZ2 : Hid ((1/2 : Rat) ^ k = z) := Lib.hid (HZ.out)
  have su2 : sz (z) ≤ 8192 := by have e := HZ2.out; first | omega | (rw [← e]; exact sz_pow5 (by rw [show nb ((1 / 2 : Rat)).num.natAbs = 1 from by decide +kernel]; omega) (by rw [show nb ((1 / 2 : Rat)).den = 2 from by decide +kernel]; omega))
  refine kS fun K hK => ?_
  refine sq 6 [(true, 0), (true, 1), (true, 2), (true, 3), (true, 4), (true, 5)] fun T hT => ?_
  refine ck Tryz.call88 (fun w' hw => of5_any (1) (2) (1/2 : Rat) _ (Lib.hid HZ1.out) (by decide) om om om om) ?_
  refine tk ?_
  refine ck Tryz.call128 (fun w' hw => fpow_ok (1/2 : Rat) (z) k _ HZ2.out (by omega) (by rw [show nb ((1 / 2 : Rat)).num.natAbs = 1 from by decide +kernel]; omega) (by rw [show nb ((1 / 2 : Rat)).den = 2 from by decide +kernel]; omega) om) ?_
  iterate 3 refine tk ?_
  refine nlS hT HF fun vw1 HG => ?_
  clear hT T HF
  go_wp2
  refine hK.out _ _ ?_; clear hK K
  show Code.wp _ _ _ _ _
  refine fH ((HG.out).al (b := vw1.heap.size) (by first | rfl | simp) (by decide)) fun Wx1 HF => ?_
  clear HG
  generalize vw1.heap.size = gx2 at *
  have lx2 := HF.out.c 1 rfl
  refine kS fun K hK => ?_
  refine sq 1 [(true, 0)] fun T hT => ?_
  refine tk ?_
  refine nlS hT HF fun vw2 HG => ?_
  clear hT T HF lx2
  have lx0 := HG.out.c 0 rfl; have fx0 := HG.out.f 0 rfl
  have r0 := Gr.refl vw2
  go_wp2
  refine hK.out _ _ ?_; clear hK K
  show Code.wp _ _ _ _ _
  clear r0 lx0 fx0
  refine fH (((((HG.out).put2 0 0 rfl).put2 0 2 rfl).put 0 4 _ rfl).er 1) fun Wx2 HF => ?_
  clear HG
  refine wp_ret ?_
  try simp only [Exit.then, Exit.inBlock]
  have lx0 := HF.out.c 0 rfl
  have r0 := Gr.refl Wx2
  exact bodyPost_ret (v := .agg #[.int .u64 ((lo (Int.natAbs ((z).num)) : Nat) : Int), .string (bg (Int.natAbs ((z).num))), .bool (decide (((z).num) < 0)), .int .u64 ((lo ((z).den - 1) : Nat) : Int), .string (bg ((z).den - 1))]) (by simp [results, Tryz.results41, go_sem, lx0 _ r0]) rfl ⟨rfl, HF.out.1⟩

set_option maxRecDepth 100000 in
set_option maxHeartbeats 16000000 in
theorem btr_n (bbxn : Bool) (vxn : Value) (kxn : Nat) (fxn : Nat → Nat) (mxn : Nat) (ixn : Int) (vxd : Value) (kxd : Nat) (fxd : Nat → Nat) (mxd : Nat) (a : Rat) (n : Int) (k : Nat) (st : Rat) (c l : Rat) (h : Rat) (w : World) (HWxn : Hid (Wa w vxn kxn fxn)) (HFxn : Hid (∀ i, i < kxn → fxn i < 4294967296)) (HVxn : Hid (vl fxn kxn = mxn)) (HAxn : Hid ((if bbxn then -((mxn : Nat) : Int) else ((mxn : Nat) : Int)) = ixn)) (HWxd : Hid (Wa w vxd kxd fxd)) (HFxd : Hid (∀ i, i < kxd → fxd i < 4294967296)) (HVxd : Hid (vl fxd kxd = mxd)) (HQx : Hid (mkRat ixn (mxd + 1) = a)) (hkxn : kxn ≤ 6) (hkxd : kxd ≤ 6) (hm1 : 0 ≤ n) (hm2 : n ≤ 255) (HMk : Hid (Int.tmod n 101 = (k : Int))) (hk : k ≤ 100) (HST : Hid (((1 / 2 : Rat)) ^ k = st)) (HST0 : Hid (st ≠ 0)) (HAA : Hid (qabs a = c)) (hsc : sz c ≤ 7) (HA0 : Hid (0 ≤ c)) (HL : Hid (rlo c k = l)) (HL0 : Hid (0 ≤ l)) (hsl : sz l ≤ 20) (kl : Rat) (HKQ : Hid (l / st = kl)) (hsk : sz kl ≤ 40) (HKL : Hid ((kl).den = 1)) (HH : Hid (rhi c k = h)) (hsh : sz h ≤ 20) (HHP : Hid (0 < h)) (HADD : Hid (l + st = h)) (HSUB : Hid (h - st = l)) (HSL : Hid (h - l = st)) (HLH : Hid (¬ l = h)) (HNE : Hid (¬ l * l = c)) (HQ1 : Hid (l * l - c < 0)) (HQ2 : Hid (0 < h * h - c)) (kh : Rat) (HKP : Hid (h / st = kh)) (hskh : sz kh ≤ 40) (HKH : Hid ((kh).den = 1)) (HT : Hid (Tab w)) :
    Calls Tryz.prog 9 #[.agg #[.bool bbxn, vxn, vxd], .int .u8 (n)] w fun e w' => e = .returned (.bool true) ∧ Below w.heap.size w w' := by
  obtain ⟨ao_xn, c_xn, rfl⟩ := HWxn.out.slice
  obtain ⟨ao_xd, c_xd, rfl⟩ := HWxd.out.slice
  have hm_xn : wl mxn ≤ 6 := by rw [← HVxn.out]; have := wl_le.2 (vl_lt HFxn.out); omega
  have hm_xd : wl mxd ≤ 6 := by rw [← HVxd.out]; have := wl_le.2 (vl_lt HFxd.out); omega
  have hi_x : wl (Int.natAbs ixn) ≤ 6 := by rw [zsize HAxn.out]; exact hm_xn
  have hs_x : sz a ≤ 7 := by rw [← HQx.out]; exact sz_great hi_x hm_xd
  have hr_x : rz a ≤ 21 := by rw [← HQx.out]; exact rz_great hi_x hm_xd (by decide)
  have hwn : IntKind.i64.wrap n = n := by rw [IntKind.wrap_i64]; omega
  go_enter Tryz.func9, Tryz.ntmps9
  have HF := Lib.hid (hp0 w)
  refine kS fun K hK => ?_
  refine wp_region_lit ?_
  go_wp2
  refine hK.out _ _ ?_; clear hK K
  show Code.wp _ _ _ _ _
  refine fH ((HF.out).al (b := w.heap.size) (by first | rfl | simp) (by decide)) fun Wx0 HG => ?_
  clear HF; have HF := HG; clear HG
  refine wp_seq ?_
  have hd1 : ¬ (6 < ((kxn : Int))) := by first | exact ok | exact HAA.out | exact HA0.out | exact HL.out | exact HH.out | exact HSQ.out | exact HADD.out | exact HSUB.out | exact HSL.out | exact HHP.out | exact HKL.out | exact HKH.out | exact HLH.out | exact HNE.out | exact Rat.sub_self | exact HZL.out | exact HZH.out | exact HKQ.out
  have hd2 : ¬ (6 < ((kxd : Int))) := by first | exact ok | exact HAA.out | exact HA0.out | exact HL.out | exact HH.out | exact HSQ.out | exact HADD.out | exact HSUB.out | exact HSL.out | exact HHP.out | exact HKL.out | exact HKH.out | exact HLH.out | exact HNE.out | exact Rat.sub_self | exact HZL.out | exact HZH.out | exact HKQ.out
  have lx0 := HF.out.c 0 rfl
  refine kS fun K hK => ?_
  refine sq 11 [(true, 0), (true, 1), (true, 2), (true, 3), (true, 4), (true, 5), (true, 6), (true, 7), (true, 8), (true, 9), (true, 10)] fun T hT => ?_
  iterate 11 refine tk ?_
  refine nlS hT HF fun vw1 HG => ?_
  clear hT T HF lx0
  go_wp2
  refine hK.out _ _ ?_; clear hK K
  show Code.wp _ _ _ _ _
  have HF := HG; clear HG
  clear hd1 hd2
  refine wp_cond_false (by rfl) ?_
  refine wp_skip ?_
  show Code.wp _ _ _ _ _
  have hrmk_2 : Int.tmod n 101 = (k : Int) := HMk.out
  refine kS fun K hK => ?_
  refine sq 4 [(true, 0), (true, 1), (true, 2), (true, 3)] fun T hT => ?_
  iterate 4 refine tk ?_
  refine nlS hT HF fun vw2 HG => ?_
  clear hT T HF
  go_wp2
  refine hK.out _ _ ?_; clear hK K
  show Code.wp _ _ _ _ _
  have HF := HG; clear HG
  clear hrmk_2
  have HB := HPb HF
  have HZ1 : Hid (qabs (a) = c) := Lib.hid (by first | exact ok | exact HAA.out | exact HA0.out | exact HL.out | exact HH.out | exact HSQ.out | exact HADD.out | exact HSUB.out | exact HSL.out | exact HHP.out | exact HKL.out | exact HKH.out | exact HLH.out | exact HNE.out | exact Rat.sub_self | exact HZL.out | exact HZH.out | exact HKQ.out)
  have su1 : sz (c) ≤ 7 := by have e := HZ1.out; first | omega | (rw [← e]; rw [sz_qabs]; omega)
  have lx0 := HF.out.c 0 rfl
  refine kS fun K hK => ?_
  refine sq 3 [(true, 0), (true, 1), (true, 2)] fun T hT => ?_
  refine tk ?_
  refine ck Tryz.call36 (fun w' hw => gof_any bbxn kxn fxn mxn ixn kxd fxd mxd a ao_xn c_xn ao_xd c_xd w' (Lib.hid (HWxn.out.gr (Gr.trans HB.out hw))) HFxn HVxn HAxn (Lib.hid (HWxd.out.gr (Gr.trans HB.out hw))) HFxd HVxd HQx om om om om) ?_
  refine ck Tryz.call31 (fun w' hw => fabs_any (a) (c) _ HZ1.out) ?_
  refine nlS hT HF fun vw3 HG => ?_
  clear hT T HF lx0 HB
  go_wp2
  refine hK.out _ _ ?_; clear hK K
  show Code.wp _ _ _ _ _
  refine fH (((HG.out).al (b := vw3.heap.size) (by first | rfl | simp) (by decide)).er 0) fun Wx4 HF => ?_
  clear HG
  generalize vw3.heap.size = gx2 at *
  have HZ2 : Hid (rlo (c) k = l) := Lib.hid (by first | exact ok | exact HAA.out | exact HA0.out | exact HL.out | exact HH.out | exact HSQ.out | exact HADD.out | exact HSUB.out | exact HSL.out | exact HHP.out | exact HKL.out | exact HKH.out | exact HLH.out | exact HNE.out | exact Rat.sub_self | exact HZL.out | exact HZH.out | exact HKQ.out)
  have su2 : sz (l) ≤ 17 := by have e := HZ2.out; first | omega | (rw [← e]; exact Nat.le_trans (sz_rlo (by omega) om) (by omega))
  have lx2 := HF.out.c 0 rfl
  refine kS fun K hK => ?_
  refine sq 6 [(true, 0), (true, 1), (true, 2), (true, 3), (true, 4), (true, 5)] fun T hT => ?_
  iterate 2 refine tk ?_
  refine ck Tryz.call23 (fun w' hw => rBelow_ok (c) (l) k _ (Lib.hid (by first | exact ok | exact HAA.out | exact HA0.out | exact HL.out | exact HH.out | exact HSQ.out | exact HADD.out | exact HSUB.out | exact HSL.out | exact HHP.out | exact HKL.out | exact HKH.out | exact HLH.out | exact HNE.out | exact Rat.sub_self | exact HZL.out | exact HZH.out | exact HKQ.out)) (Lib.hid HZ2.out) (by omega) om) ?_
  iterate 3 refine tk ?_
  refine nlS hT HF fun vw4 HG => ?_
  clear hT T HF lx2
  go_wp2
  refine hK.out _ _ ?_; clear hK K
  show Code.wp _ _ _ _ _
  refine fH ((HG.out).al (b := vw4.heap.size) (by first | rfl | simp) (by decide)) fun Wx5 HF => ?_
  clear HG
  generalize vw4.heap.size = gx3 at *
  have HZ3 : Hid (rhi (c) k = h) := Lib.hid (by first | exact ok | exact HAA.out | exact HA0.out | exact HL.out | exact HH.out | exact HSQ.out | exact HADD.out | exact HSUB.out | exact HSL.out | exact HHP.out | exact HKL.out | exact HKH.out | exact HLH.out | exact HNE.out | exact Rat.sub_self | exact HZL.out | exact HZH.out | exact HKQ.out)
  have su3 : sz (h) ≤ 17 := by have e := HZ3.out; first | omega | (rw [← e]; exact Nat.le_trans (sz_rhi (by omega) om) (by omega))
  have lx2 := HF.out.c 0 rfl
  refine kS fun K hK => ?_
  refine sq 6 [(true, 0), (true, 1), (true, 2), (true, 3), (true, 4), (true, 5)] fun T hT => ?_
  iterate 2 refine tk ?_
  refine ck Tryz.call25 (fun w' hw => rAbove_ok (c) (h) k _ (Lib.hid (by first | exact ok | exact HAA.out | exact HA0.out | exact HL.out | exact HH.out | exact HSQ.out | exact HADD.out | exact HSUB.out | exact HSL.out | exact HHP.out | exact HKL.out | exact HKH.out | exact HLH.out | exact HNE.out | exact Rat.sub_self | exact HZL.out | exact HZH.out | exact HKQ.out)) (Lib.hid HZ3.out) (by omega) om) ?_
  iterate 3 refine tk ?_
  refine nlS hT HF fun vw5 HG => ?_
  clear hT T HF lx2
  go_wp2
  refine hK.out _ _ ?_; clear hK K
  show Code.wp _ _ _ _ _
  refine fH ((HG.out).al (b := vw5.heap.size) (by first | rfl | simp) (by decide)) fun Wx6 HF => ?_
  clear HG
  generalize vw5.heap.size = gx4 at *
  have HZ4 : Hid (((1 / 2 : Rat)) ^ k = st) := Lib.hid (HST.out)
  have su4 : sz (st) ≤ 4 := by have e := HZ4.out; first | omega | (rw [← e]; exact sz_half5 (by omega))
  refine kS fun K hK => ?_
  refine sq 2 [(true, 0), (true, 1)] fun T hT => ?_
  refine tk ?_
  refine ck Tryz.call41 (fun w' hw => power5_any k (st) _ (Lib.hid HZ4.out) (by omega)) ?_
  refine nlS hT HF fun vw6 HG => ?_
  clear hT T HF
  go_wp2
  refine hK.out _ _ ?_; clear hK K
  show Code.wp _ _ _ _ _
  refine fH ((HG.out).al (b := vw6.heap.size) (by first | rfl | simp) (by decide)) fun Wx7 HF => ?_
  clear HG
  generalize vw6.heap.size = gx5 at *
  refine wp_seq ?_
  obtain ⟨t5, HT5⟩ : ∃ z, Hid (sgQ (l) = z) := ⟨_, Lib.hid rfl⟩
  have ht5 : 0 ≤ t5 := by rw [← HT5.out]; exact sgQ_nn0 HL0.out
  have hd3 : ¬ (t5 < 0) := by first | exact ok | exact HAA.out | exact HA0.out | exact HL.out | exact HH.out | exact HSQ.out | exact HADD.out | exact HSUB.out | exact HSL.out | exact HHP.out | exact HKL.out | exact HKH.out | exact HLH.out | exact HNE.out | exact Rat.sub_self | exact HZL.out | exact HZH.out | exact HKQ.out
  obtain ⟨u6, HZ6⟩ : ∃ z, Hid ((l) * (l) = z) := ⟨_, Lib.hid rfl⟩
  have su6 : sz (u6) ≤ 34 := by rw [← HZ6.out]; have := sz_mul (l) (l); omega
  have HZ7 : Hid ((l) + (st) = h) := Lib.hid (by first | exact ok | exact HAA.out | exact HA0.out | exact HL.out | exact HH.out | exact HSQ.out | exact HADD.out | exact HSUB.out | exact HSL.out | exact HHP.out | exact HKL.out | exact HKH.out | exact HLH.out | exact HNE.out | exact Rat.sub_self | exact HZL.out | exact HZH.out | exact HKQ.out | (simp only [← HZ6.out] <;> first | exact ok | exact HAA.out | exact HA0.out | exact HL.out | exact HH.out | exact HSQ.out | exact HADD.out | exact HSUB.out | exact HSL.out | exact HHP.out | exact HKL.out | exact HKH.out | exact HLH.out | exact HNE.out | exact Rat.sub_self | exact HZL.out | exact HZH.out | exact HKQ.out))
  have su7 : sz (h) ≤ 22 := by have e := HZ7.out; first | omega | (rw [← e]; have := sz_add (l) (st); omega)
  obtain ⟨u8, HZ8⟩ : ∃ z, Hid ((h) * (h) = z) := ⟨_, Lib.hid rfl⟩
  have su8 : sz (u8) ≤ 44 := by rw [← HZ8.out]; have := sz_mul (h) (h); omega
  have HZ9 : Hid ((h) * (h) = u8) := Lib.hid (by first | exact ok | exact HAA.out | exact HA0.out | exact HL.out | exact HH.out | exact HSQ.out | exact HADD.out | exact HSUB.out | exact HSL.out | exact HHP.out | exact HKL.out | exact HKH.out | exact HLH.out | exact HNE.out | exact Rat.sub_self | exact HZL.out | exact HZH.out | exact HKQ.out | (simp only [← HZ8.out, ← HZ6.out] <;> first | exact ok | exact HAA.out | exact HA0.out | exact HL.out | exact HH.out | exact HSQ.out | exact HADD.out | exact HSUB.out | exact HSL.out | exact HHP.out | exact HKL.out | exact HKH.out | exact HLH.out | exact HNE.out | exact Rat.sub_self | exact HZL.out | exact HZH.out | exact HKQ.out))
  have su9 : sz (u8) ≤ 34 := by have e := HZ9.out; first | omega | (rw [← e]; have := sz_mul (h) (h); omega)
  have lx2 := HF.out.c 0 rfl
  have lx3 := HF.out.c 1 rfl
  have lx4 := HF.out.c 2 rfl
  have lx5 := HF.out.c 3 rfl
  refine kS fun K hK => ?_
  refine pd 33 [(true, 0), (true, 1), (true, 2), (true, 3), (true, 4), (true, 5), (true, 6), (true, 7), (true, 8), (true, 9), (true, 10), (true, 11), (true, 12), (true, 14), (true, 13), (true, 15), (true, 16), (true, 17), (true, 18), (true, 19), (true, 20), (true, 23), (true, 21), (true, 22), (true, 24), (true, 25), (true, 26), (true, 27), (true, 28), (true, 30), (true, 29), (true, 31), (true, 32)] fun T hT => ?_
  iterate 8 refine tk ?_
  refine ck Tryz.call35 (fun w' hw => fsign_any (l) (t5) _ HT5.out) ?_
  iterate 5 refine tk ?_
  refine ck Tryz.call37 (fun w' hw => fsquare_any (l) (u6) _ (Lib.hid HZ6.out) om) ?_
  refine ck Tryz.call38 (fun w' hw => fcmp_any (u6) (c) (-1) _ (by have e9 : (u6) - (c) < (0 : Rat) := (by simp only [← HZ6.out]; exact HQ1.out); exact sgQ_neg e9) om om) ?_
  iterate 6 refine tk ?_
  refine ck Tryz.call30 (fun w' hw => fadd_any (l) (st) (h) _ HZ7.out om om) ?_
  refine ck Tryz.call37 (fun w' hw => fsquare_any (h) (u8) _ (Lib.hid HZ8.out) om) ?_
  refine ck Tryz.call38 (fun w' hw => fcmp_any (u8) (c) (1) _ (by have e9 : (0 : Rat) < (u8) - (c) := (by simp only [← HZ8.out, ← HZ6.out]; exact HQ2.out); exact sgQ_pos e9) om om) ?_
  iterate 5 refine tk ?_
  refine ck Tryz.call37 (fun w' hw => fsquare_any (h) (u8) _ (Lib.hid HZ9.out) om) ?_
  refine ck Tryz.call38 (fun w' hw => fcmp_any (u8) (c) (1) _ (by have e9 : (0 : Rat) < (u8) - (c) := (by simp only [← HZ8.out, ← HZ6.out]; exact HQ2.out); exact sgQ_pos e9) om om) ?_
  refine tk ?_
  refine nlD hT HF fun vw7 HG => ?_
  clear hT T HF lx2 lx3 lx4 lx5
  go_wp2
  refine hK.out _ _ ?_; clear hK K
  show Code.wp _ _ _ _ _
  have HF := HG; clear HG
  clear ht5 hd3
  refine wp_cond_false (by rfl) ?_
  refine wp_skip ?_
  show Code.wp _ _ _ _ _
  refine wp_seq ?_
  have HZ10 : Hid ((h) - (st) = l) := Lib.hid (by first | exact ok | exact HAA.out | exact HA0.out | exact HL.out | exact HH.out | exact HSQ.out | exact HADD.out | exact HSUB.out | exact HSL.out | exact HHP.out | exact HKL.out | exact HKH.out | exact HLH.out | exact HNE.out | exact Rat.sub_self | exact HZL.out | exact HZH.out | exact HKQ.out | (simp only [← HZ8.out, ← HZ6.out] <;> first | exact ok | exact HAA.out | exact HA0.out | exact HL.out | exact HH.out | exact HSQ.out | exact HADD.out | exact HSUB.out | exact HSL.out | exact HHP.out | exact HKL.out | exact HKH.out | exact HLH.out | exact HNE.out | exact Rat.sub_self | exact HZL.out | exact HZH.out | exact HKQ.out))
  have su10 : sz (l) ≤ 22 := by have e := HZ10.out; first | omega | (rw [← e]; have := sz_sub (h) (st); omega)
  have HZ11 : Hid ((l) * (l) = u6) := Lib.hid (by first | exact ok | exact HAA.out | exact HA0.out | exact HL.out | exact HH.out | exact HSQ.out | exact HADD.out | exact HSUB.out | exact HSL.out | exact HHP.out | exact HKL.out | exact HKH.out | exact HLH.out | exact HNE.out | exact Rat.sub_self | exact HZL.out | exact HZH.out | exact HKQ.out | (simp only [← HZ8.out, ← HZ6.out] <;> first | exact ok | exact HAA.out | exact HA0.out | exact HL.out | exact HH.out | exact HSQ.out | exact HADD.out | exact HSUB.out | exact HSL.out | exact HHP.out | exact HKL.out | exact HKH.out | exact HLH.out | exact HNE.out | exact Rat.sub_self | exact HZL.out | exact HZH.out | exact HKQ.out))
  have su11 : sz (u6) ≤ 44 := by have e := HZ11.out; first | omega | (rw [← e]; have := sz_mul (l) (l); omega)
  have lx2 := HF.out.c 0 rfl
  have lx4 := HF.out.c 2 rfl
  have lx5 := HF.out.c 3 rfl
  refine kS fun K hK => ?_
  refine pd 11 [(true, 0), (true, 1), (true, 2), (true, 3), (true, 4), (true, 5), (true, 8), (true, 6), (true, 7), (true, 9), (true, 10)] fun T hT => ?_
  refine tk ?_
  refine ck Tryz.call35 (fun w' hw => fsign_any (h) (1) _ (by have e9 : (0 : Rat) < (h) := (by first | exact ok | exact HAA.out | exact HA0.out | exact HL.out | exact HH.out | exact HSQ.out | exact HADD.out | exact HSUB.out | exact HSL.out | exact HHP.out | exact HKL.out | exact HKH.out | exact HLH.out | exact HNE.out | exact Rat.sub_self | exact HZL.out | exact HZH.out | exact HKQ.out | (simp only [← HZ8.out, ← HZ6.out] <;> first | exact ok | exact HAA.out | exact HA0.out | exact HL.out | exact HH.out | exact HSQ.out | exact HADD.out | exact HSUB.out | exact HSL.out | exact HHP.out | exact HKL.out | exact HKH.out | exact HLH.out | exact HNE.out | exact Rat.sub_self | exact HZL.out | exact HZH.out | exact HKQ.out)); exact sgQ_pos e9)) ?_
  iterate 5 refine tk ?_
  refine ck Tryz.call42 (fun w' hw => fsub_any (h) (st) (l) _ HZ10.out om om) ?_
  refine ck Tryz.call37 (fun w' hw => fsquare_any (l) (u6) _ (Lib.hid HZ11.out) om) ?_
  refine ck Tryz.call38 (fun w' hw => fcmp_any (u6) (c) (-1) _ (by have e9 : (u6) - (c) < (0 : Rat) := (by simp only [← HZ8.out, ← HZ6.out]; exact HQ1.out); exact sgQ_neg e9) om om) ?_
  refine tk ?_
  refine nlD hT HF fun vw8 HG => ?_
  clear hT T HF lx2 lx4 lx5
  go_wp2
  refine hK.out _ _ ?_; clear hK K
  show Code.wp _ _ _ _ _
  have HF := HG; clear HG
  refine wp_cond_false (by rfl) ?_
  refine wp_skip ?_
  show Code.wp _ _ _ _ _
  have HZ12 : Hid ((l) / (st) = kl) := Lib.hid (HKQ.out)
  have su12 : sz (kl) ≤ 40 := by have e := HZ12.out; first | omega | (rw [← e]; have := sz_div (l) (st); omega)
  have lx3 := HF.out.c 1 rfl
  have lx5 := HF.out.c 3 rfl
  refine kS fun K hK => ?_
  refine sq 6 [(true, 0), (true, 1), (true, 2), (true, 3), (true, 4), (true, 5)] fun T hT => ?_
  iterate 2 refine tk ?_
  refine ck Tryz.call43 (fun w' hw => fdiv_any (l) (st) (kl) _ HZ12.out (by exact HST0.out) om om) ?_
  iterate 3 refine tk ?_
  refine nlS hT HF fun vw9 HG => ?_
  clear hT T HF lx3 lx5
  go_wp2
  refine hK.out _ _ ?_; clear hK K
  show Code.wp _ _ _ _ _
  refine fH ((HG.out).al (b := vw9.heap.size) (by first | rfl | simp) (by decide)) fun Wx12 HF => ?_
  clear HG
  generalize vw9.heap.size = gx6 at *
  have HZ13 : Hid ((h) / (st) = kh) := Lib.hid (HKP.out)
  have su13 : sz (kh) ≤ 40 := by have e := HZ13.out; first | omega | (rw [← e]; have := sz_div (h) (st); omega)
  have lx4 := HF.out.c 2 rfl
  have lx5 := HF.out.c 3 rfl
  refine kS fun K hK => ?_
  refine sq 6 [(true, 0), (true, 1), (true, 2), (true, 3), (true, 4), (true, 5)] fun T hT => ?_
  iterate 2 refine tk ?_
  refine ck Tryz.call43 (fun w' hw => fdiv_any (h) (st) (kh) _ HZ13.out (by exact HST0.out) om om) ?_
  iterate 3 refine tk ?_
  refine nlS hT HF fun vw10 HG => ?_
  clear hT T HF lx4 lx5
  go_wp2
  refine hK.out _ _ ?_; clear hK K
  show Code.wp _ _ _ _ _
  refine fH ((HG.out).al (b := vw10.heap.size) (by first | rfl | simp) (by decide)) fun Wx13 HF => ?_
  clear HG
  generalize vw10.heap.size = gx7 at *
  have HZ14 : Hid ((l) * (l) = u6) := Lib.hid (by first | exact ok | exact HAA.out | exact HA0.out | exact HL.out | exact HH.out | exact HSQ.out | exact HADD.out | exact HSUB.out | exact HSL.out | exact HHP.out | exact HKL.out | exact HKH.out | exact HLH.out | exact HNE.out | exact Rat.sub_self | exact HZL.out | exact HZH.out | exact HKQ.out | (simp only [← HZ8.out, ← HZ6.out] <;> first | exact ok | exact HAA.out | exact HA0.out | exact HL.out | exact HH.out | exact HSQ.out | exact HADD.out | exact HSUB.out | exact HSL.out | exact HHP.out | exact HKL.out | exact HKH.out | exact HLH.out | exact HNE.out | exact Rat.sub_self | exact HZL.out | exact HZH.out | exact HKQ.out))
  have su14 : sz (u6) ≤ 34 := by have e := HZ14.out; first | omega | (rw [← e]; have := sz_mul (l) (l); omega)
  have hd4 : decide (u6 = c) = false := decide_eq_false (by first | exact ok | exact HAA.out | exact HA0.out | exact HL.out | exact HH.out | exact HSQ.out | exact HADD.out | exact HSUB.out | exact HSL.out | exact HHP.out | exact HKL.out | exact HKH.out | exact HLH.out | exact HNE.out | exact Rat.sub_self | exact HZL.out | exact HZH.out | exact HKQ.out | (simp only [← HZ8.out, ← HZ6.out] <;> first | exact ok | exact HAA.out | exact HA0.out | exact HL.out | exact HH.out | exact HSQ.out | exact HADD.out | exact HSUB.out | exact HSL.out | exact HHP.out | exact HKL.out | exact HKH.out | exact HLH.out | exact HNE.out | exact Rat.sub_self | exact HZL.out | exact HZH.out | exact HKQ.out))
  have lx2 := HF.out.c 0 rfl
  have lx3 := HF.out.c 1 rfl
  refine kS fun K hK => ?_
  refine pd 4 [(true, 0), (true, 2), (true, 1), (true, 3)] fun T hT => ?_
  iterate 2 refine tk ?_
  refine ck Tryz.call37 (fun w' hw => fsquare_any (l) (u6) _ (Lib.hid HZ14.out) om) ?_
  refine tk ?_
  refine nlD hT HF fun vw11 HG => ?_
  clear hT T HF lx2 lx3
  go_wp2
  refine hK.out _ _ ?_; clear hK K
  show Code.wp _ _ _ _ _
  refine fH ((HG.out).er 0) fun Wx14 HF => ?_
  clear HG
  clear hd4
  have HB := HPb HF
  have hd5 : decide (l = h) = false := decide_eq_false (by first | exact ok | exact HAA.out | exact HA0.out | exact HL.out | exact HH.out | exact HSQ.out | exact HADD.out | exact HSUB.out | exact HSL.out | exact HHP.out | exact HKL.out | exact HKH.out | exact HLH.out | exact HNE.out | exact Rat.sub_self | exact HZL.out | exact HZH.out | exact HKQ.out | (simp only [← HZ8.out, ← HZ6.out] <;> first | exact ok | exact HAA.out | exact HA0.out | exact HL.out | exact HH.out | exact HSQ.out | exact HADD.out | exact HSUB.out | exact HSL.out | exact HHP.out | exact HKL.out | exact HKH.out | exact HLH.out | exact HNE.out | exact Rat.sub_self | exact HZL.out | exact HZH.out | exact HKQ.out))
  have HZ15 : Hid ((h) - (l) = st) := Lib.hid (by first | exact ok | exact HAA.out | exact HA0.out | exact HL.out | exact HH.out | exact HSQ.out | exact HADD.out | exact HSUB.out | exact HSL.out | exact HHP.out | exact HKL.out | exact HKH.out | exact HLH.out | exact HNE.out | exact Rat.sub_self | exact HZL.out | exact HZH.out | exact HKQ.out | (simp only [← HZ8.out, ← HZ6.out] <;> first | exact ok | exact HAA.out | exact HA0.out | exact HL.out | exact HH.out | exact HSQ.out | exact HADD.out | exact HSUB.out | exact HSL.out | exact HHP.out | exact HKL.out | exact HKH.out | exact HLH.out | exact HNE.out | exact Rat.sub_self | exact HZL.out | exact HZH.out | exact HKQ.out))
  have su15 : sz (st) ≤ 35 := by have e := HZ15.out; first | omega | (rw [← e]; have := sz_sub (h) (l); omega)
  have lx3 := HF.out.c 0 rfl
  have lx4 := HF.out.c 1 rfl
  have lx5 := HF.out.c 2 rfl
  have lx6 := HF.out.c 3 rfl
  have lx7 := HF.out.c 4 rfl
  refine kS fun K hK => ?_
  refine pd 34 [(true, 0), (true, 1), (true, 2), (true, 3), (true, 4), (true, 5), (true, 6), (true, 7), (true, 8), (true, 9), (true, 10), (true, 11), (true, 12), (true, 13), (true, 14), (true, 15), (true, 16), (true, 17), (true, 18), (true, 19), (true, 20), (true, 21), (true, 22), (true, 23), (true, 24), (true, 25), (true, 27), (true, 26), (true, 28), (true, 29), (true, 30), (true, 31), (true, 32), (true, 33)] fun T hT => ?_
  iterate 8 refine tk ?_
  refine ck Tryz.call44 (fun w' hw => fiswhole_any (kl) true _ (decide_eq_true (by first | exact ok | exact HAA.out | exact HA0.out | exact HL.out | exact HH.out | exact HSQ.out | exact HADD.out | exact HSUB.out | exact HSL.out | exact HHP.out | exact HKL.out | exact HKH.out | exact HLH.out | exact HNE.out | exact Rat.sub_self | exact HZL.out | exact HZH.out | exact HKQ.out | (simp only [← HZ8.out, ← HZ6.out] <;> first | exact ok | exact HAA.out | exact HA0.out | exact HL.out | exact HH.out | exact HSQ.out | exact HADD.out | exact HSUB.out | exact HSL.out | exact HHP.out | exact HKL.out | exact HKH.out | exact HLH.out | exact HNE.out | exact Rat.sub_self | exact HZL.out | exact HZH.out | exact HKQ.out)))) ?_
  iterate 3 refine tk ?_
  refine ck Tryz.call44 (fun w' hw => fiswhole_any (kh) true _ (decide_eq_true (by first | exact ok | exact HAA.out | exact HA0.out | exact HL.out | exact HH.out | exact HSQ.out | exact HADD.out | exact HSUB.out | exact HSL.out | exact HHP.out | exact HKL.out | exact HKH.out | exact HLH.out | exact HNE.out | exact Rat.sub_self | exact HZL.out | exact HZH.out | exact HKQ.out | (simp only [← HZ8.out, ← HZ6.out] <;> first | exact ok | exact HAA.out | exact HA0.out | exact HL.out | exact HH.out | exact HSQ.out | exact HADD.out | exact HSUB.out | exact HSL.out | exact HHP.out | exact HKL.out | exact HKH.out | exact HLH.out | exact HNE.out | exact Rat.sub_self | exact HZL.out | exact HZH.out | exact HKQ.out)))) ?_
  iterate 14 refine tk ?_
  refine ck Tryz.call42 (fun w' hw => fsub_any (h) (l) (st) _ HZ15.out om om) ?_
  iterate 4 refine tk ?_
  refine ck Tryz.call22 (fun w' hw => works5_any _ (Lib.hid (HT.out.gr (Gr.trans HB.out hw)))) ?_
  refine tk ?_
  refine nlD hT HF fun vw12 HG => ?_
  clear hT T HF lx3 lx4 lx5 lx6 lx7 HB
  go_wp2
  refine hK.out _ _ ?_; clear hK K
  show Code.wp _ _ _ _ _
  refine fH ((((((HG.out).er 4).er 3).er 2).er 1).er 0) fun Wx15 HF => ?_
  clear HG
  clear hd5
  refine wp_ret ?_
  try simp only [Exit.then, Exit.inBlock]
  exact bodyPost_ret (v := .bool true) (by simp [results, Tryz.results9, go_sem]) rfl ⟨rfl, HF.out.1⟩

set_option maxRecDepth 100000 in
set_option maxHeartbeats 16000000 in
theorem btr_e (bbxn : Bool) (vxn : Value) (kxn : Nat) (fxn : Nat → Nat) (mxn : Nat) (ixn : Int) (vxd : Value) (kxd : Nat) (fxd : Nat → Nat) (mxd : Nat) (a : Rat) (n : Int) (k : Nat) (st : Rat) (c l : Rat) (w : World) (HWxn : Hid (Wa w vxn kxn fxn)) (HFxn : Hid (∀ i, i < kxn → fxn i < 4294967296)) (HVxn : Hid (vl fxn kxn = mxn)) (HAxn : Hid ((if bbxn then -((mxn : Nat) : Int) else ((mxn : Nat) : Int)) = ixn)) (HWxd : Hid (Wa w vxd kxd fxd)) (HFxd : Hid (∀ i, i < kxd → fxd i < 4294967296)) (HVxd : Hid (vl fxd kxd = mxd)) (HQx : Hid (mkRat ixn (mxd + 1) = a)) (hkxn : kxn ≤ 6) (hkxd : kxd ≤ 6) (hm1 : 0 ≤ n) (hm2 : n ≤ 255) (HMk : Hid (Int.tmod n 101 = (k : Int))) (hk : k ≤ 100) (HST : Hid (((1 / 2 : Rat)) ^ k = st)) (HST0 : Hid (st ≠ 0)) (HAA : Hid (qabs a = c)) (hsc : sz c ≤ 7) (HA0 : Hid (0 ≤ c)) (HL : Hid (rlo c k = l)) (HL0 : Hid (0 ≤ l)) (hsl : sz l ≤ 20) (kl : Rat) (HKQ : Hid (l / st = kl)) (hsk : sz kl ≤ 40) (HKL : Hid ((kl).den = 1)) (HH : Hid (rhi c k = l)) (HSQ : Hid (l * l = c)) (HHP : Hid (0 < l)) (HM1 : Hid (0 < (l + st) * (l + st) - c)) (HM2 : Hid ((l - st) * (l - st) - c < 0)) (HT : Hid (Tab w)) :
    Calls Tryz.prog 9 #[.agg #[.bool bbxn, vxn, vxd], .int .u8 (n)] w fun e w' => e = .returned (.bool true) ∧ Below w.heap.size w w' := by
  obtain ⟨ao_xn, c_xn, rfl⟩ := HWxn.out.slice
  obtain ⟨ao_xd, c_xd, rfl⟩ := HWxd.out.slice
  have hm_xn : wl mxn ≤ 6 := by rw [← HVxn.out]; have := wl_le.2 (vl_lt HFxn.out); omega
  have hm_xd : wl mxd ≤ 6 := by rw [← HVxd.out]; have := wl_le.2 (vl_lt HFxd.out); omega
  have hi_x : wl (Int.natAbs ixn) ≤ 6 := by rw [zsize HAxn.out]; exact hm_xn
  have hs_x : sz a ≤ 7 := by rw [← HQx.out]; exact sz_great hi_x hm_xd
  have hr_x : rz a ≤ 21 := by rw [← HQx.out]; exact rz_great hi_x hm_xd (by decide)
  have hwn : IntKind.i64.wrap n = n := by rw [IntKind.wrap_i64]; omega
  go_enter Tryz.func9, Tryz.ntmps9
  have HF := Lib.hid (hp0 w)
  refine kS fun K hK => ?_
  refine wp_region_lit ?_
  go_wp2
  refine hK.out _ _ ?_; clear hK K
  show Code.wp _ _ _ _ _
  refine fH ((HF.out).al (b := w.heap.size) (by first | rfl | simp) (by decide)) fun Wx0 HG => ?_
  clear HF; have HF := HG; clear HG
  refine wp_seq ?_
  have hd1 : ¬ (6 < ((kxn : Int))) := by first | exact ok | exact HAA.out | exact HA0.out | exact HL.out | exact HH.out | exact HSQ.out | exact HADD.out | exact HSUB.out | exact HSL.out | exact HHP.out | exact HKL.out | exact HKH.out | exact HLH.out | exact HNE.out | exact Rat.sub_self | exact HZL.out | exact HZH.out | exact HKQ.out
  have hd2 : ¬ (6 < ((kxd : Int))) := by first | exact ok | exact HAA.out | exact HA0.out | exact HL.out | exact HH.out | exact HSQ.out | exact HADD.out | exact HSUB.out | exact HSL.out | exact HHP.out | exact HKL.out | exact HKH.out | exact HLH.out | exact HNE.out | exact Rat.sub_self | exact HZL.out | exact HZH.out | exact HKQ.out
  have lx0 := HF.out.c 0 rfl
  refine kS fun K hK => ?_
  refine sq 11 [(true, 0), (true, 1), (true, 2), (true, 3), (true, 4), (true, 5), (true, 6), (true, 7), (true, 8), (true, 9), (true, 10)] fun T hT => ?_
  iterate 11 refine tk ?_
  refine nlS hT HF fun vw1 HG => ?_
  clear hT T HF lx0
  go_wp2
  refine hK.out _ _ ?_; clear hK K
  show Code.wp _ _ _ _ _
  have HF := HG; clear HG
  clear hd1 hd2
  refine wp_cond_false (by rfl) ?_
  refine wp_skip ?_
  show Code.wp _ _ _ _ _
  have hrmk_2 : Int.tmod n 101 = (k : Int) := HMk.out
  refine kS fun K hK => ?_
  refine sq 4 [(true, 0), (true, 1), (true, 2), (true, 3)] fun T hT => ?_
  iterate 4 refine tk ?_
  refine nlS hT HF fun vw2 HG => ?_
  clear hT T HF
  go_wp2
  refine hK.out _ _ ?_; clear hK K
  show Code.wp _ _ _ _ _
  have HF := HG; clear HG
  clear hrmk_2
  have HB := HPb HF
  have HZ1 : Hid (qabs (a) = c) := Lib.hid (by first | exact ok | exact HAA.out | exact HA0.out | exact HL.out | exact HH.out | exact HSQ.out | exact HADD.out | exact HSUB.out | exact HSL.out | exact HHP.out | exact HKL.out | exact HKH.out | exact HLH.out | exact HNE.out | exact Rat.sub_self | exact HZL.out | exact HZH.out | exact HKQ.out)
  have su1 : sz (c) ≤ 7 := by have e := HZ1.out; first | omega | (rw [← e]; rw [sz_qabs]; omega)
  have lx0 := HF.out.c 0 rfl
  refine kS fun K hK => ?_
  refine sq 3 [(true, 0), (true, 1), (true, 2)] fun T hT => ?_
  refine tk ?_
  refine ck Tryz.call36 (fun w' hw => gof_any bbxn kxn fxn mxn ixn kxd fxd mxd a ao_xn c_xn ao_xd c_xd w' (Lib.hid (HWxn.out.gr (Gr.trans HB.out hw))) HFxn HVxn HAxn (Lib.hid (HWxd.out.gr (Gr.trans HB.out hw))) HFxd HVxd HQx om om om om) ?_
  refine ck Tryz.call31 (fun w' hw => fabs_any (a) (c) _ HZ1.out) ?_
  refine nlS hT HF fun vw3 HG => ?_
  clear hT T HF lx0 HB
  go_wp2
  refine hK.out _ _ ?_; clear hK K
  show Code.wp _ _ _ _ _
  refine fH (((HG.out).al (b := vw3.heap.size) (by first | rfl | simp) (by decide)).er 0) fun Wx4 HF => ?_
  clear HG
  generalize vw3.heap.size = gx2 at *
  have HZ2 : Hid (rlo (c) k = l) := Lib.hid (by first | exact ok | exact HAA.out | exact HA0.out | exact HL.out | exact HH.out | exact HSQ.out | exact HADD.out | exact HSUB.out | exact HSL.out | exact HHP.out | exact HKL.out | exact HKH.out | exact HLH.out | exact HNE.out | exact Rat.sub_self | exact HZL.out | exact HZH.out | exact HKQ.out)
  have su2 : sz (l) ≤ 17 := by have e := HZ2.out; first | omega | (rw [← e]; exact Nat.le_trans (sz_rlo (by omega) om) (by omega))
  have lx2 := HF.out.c 0 rfl
  refine kS fun K hK => ?_
  refine sq 6 [(true, 0), (true, 1), (true, 2), (true, 3), (true, 4), (true, 5)] fun T hT => ?_
  iterate 2 refine tk ?_
  refine ck Tryz.call23 (fun w' hw => rBelow_ok (c) (l) k _ (Lib.hid (by first | exact ok | exact HAA.out | exact HA0.out | exact HL.out | exact HH.out | exact HSQ.out | exact HADD.out | exact HSUB.out | exact HSL.out | exact HHP.out | exact HKL.out | exact HKH.out | exact HLH.out | exact HNE.out | exact Rat.sub_self | exact HZL.out | exact HZH.out | exact HKQ.out)) (Lib.hid HZ2.out) (by omega) om) ?_
  iterate 3 refine tk ?_
  refine nlS hT HF fun vw4 HG => ?_
  clear hT T HF lx2
  go_wp2
  refine hK.out _ _ ?_; clear hK K
  show Code.wp _ _ _ _ _
  refine fH ((HG.out).al (b := vw4.heap.size) (by first | rfl | simp) (by decide)) fun Wx5 HF => ?_
  clear HG
  generalize vw4.heap.size = gx3 at *
  have HZ3 : Hid (rhi (c) k = l) := Lib.hid (by first | exact ok | exact HAA.out | exact HA0.out | exact HL.out | exact HH.out | exact HSQ.out | exact HADD.out | exact HSUB.out | exact HSL.out | exact HHP.out | exact HKL.out | exact HKH.out | exact HLH.out | exact HNE.out | exact Rat.sub_self | exact HZL.out | exact HZH.out | exact HKQ.out)
  have su3 : sz (l) ≤ 17 := by have e := HZ3.out; first | omega | (rw [← e]; exact Nat.le_trans (sz_rhi (by omega) om) (by omega))
  have lx2 := HF.out.c 0 rfl
  refine kS fun K hK => ?_
  refine sq 6 [(true, 0), (true, 1), (true, 2), (true, 3), (true, 4), (true, 5)] fun T hT => ?_
  iterate 2 refine tk ?_
  refine ck Tryz.call25 (fun w' hw => rAbove_ok (c) (l) k _ (Lib.hid (by first | exact ok | exact HAA.out | exact HA0.out | exact HL.out | exact HH.out | exact HSQ.out | exact HADD.out | exact HSUB.out | exact HSL.out | exact HHP.out | exact HKL.out | exact HKH.out | exact HLH.out | exact HNE.out | exact Rat.sub_self | exact HZL.out | exact HZH.out | exact HKQ.out)) (Lib.hid HZ3.out) (by omega) om) ?_
  iterate 3 refine tk ?_
  refine nlS hT HF fun vw5 HG => ?_
  clear hT T HF lx2
  go_wp2
  refine hK.out _ _ ?_; clear hK K
  show Code.wp _ _ _ _ _
  refine fH ((HG.out).al (b := vw5.heap.size) (by first | rfl | simp) (by decide)) fun Wx6 HF => ?_
  clear HG
  generalize vw5.heap.size = gx4 at *
  have HZ4 : Hid (((1 / 2 : Rat)) ^ k = st) := Lib.hid (HST.out)
  have su4 : sz (st) ≤ 4 := by have e := HZ4.out; first | omega | (rw [← e]; exact sz_half5 (by omega))
  refine kS fun K hK => ?_
  refine sq 2 [(true, 0), (true, 1)] fun T hT => ?_
  refine tk ?_
  refine ck Tryz.call41 (fun w' hw => power5_any k (st) _ (Lib.hid HZ4.out) (by omega)) ?_
  refine nlS hT HF fun vw6 HG => ?_
  clear hT T HF
  go_wp2
  refine hK.out _ _ ?_; clear hK K
  show Code.wp _ _ _ _ _
  refine fH ((HG.out).al (b := vw6.heap.size) (by first | rfl | simp) (by decide)) fun Wx7 HF => ?_
  clear HG
  generalize vw6.heap.size = gx5 at *
  refine wp_seq ?_
  obtain ⟨t5, HT5⟩ : ∃ z, Hid (sgQ (l) = z) := ⟨_, Lib.hid rfl⟩
  have ht5 : 0 ≤ t5 := by rw [← HT5.out]; exact sgQ_nn0 HL0.out
  have hd3 : ¬ (t5 < 0) := by first | exact ok | exact HAA.out | exact HA0.out | exact HL.out | exact HH.out | exact HSQ.out | exact HADD.out | exact HSUB.out | exact HSL.out | exact HHP.out | exact HKL.out | exact HKH.out | exact HLH.out | exact HNE.out | exact Rat.sub_self | exact HZL.out | exact HZH.out | exact HKQ.out
  have HZ6 : Hid ((l) * (l) = c) := Lib.hid (by first | exact ok | exact HAA.out | exact HA0.out | exact HL.out | exact HH.out | exact HSQ.out | exact HADD.out | exact HSUB.out | exact HSL.out | exact HHP.out | exact HKL.out | exact HKH.out | exact HLH.out | exact HNE.out | exact Rat.sub_self | exact HZL.out | exact HZH.out | exact HKQ.out)
  have su6 : sz (c) ≤ 34 := by have e := HZ6.out; first | omega | (rw [← e]; have := sz_mul (l) (l); omega)
  obtain ⟨u7, HZ7⟩ : ∃ z, Hid ((l) + (st) = z) := ⟨_, Lib.hid rfl⟩
  have su7 : sz (u7) ≤ 22 := by rw [← HZ7.out]; have := sz_add (l) (st); omega
  obtain ⟨u8, HZ8⟩ : ∃ z, Hid ((u7) * (u7) = z) := ⟨_, Lib.hid rfl⟩
  have su8 : sz (u8) ≤ 44 := by rw [← HZ8.out]; have := sz_mul (u7) (u7); omega
  have HZ9 : Hid ((l) * (l) = c) := Lib.hid (by first | exact ok | exact HAA.out | exact HA0.out | exact HL.out | exact HH.out | exact HSQ.out | exact HADD.out | exact HSUB.out | exact HSL.out | exact HHP.out | exact HKL.out | exact HKH.out | exact HLH.out | exact HNE.out | exact Rat.sub_self | exact HZL.out | exact HZH.out | exact HKQ.out | (simp only [← HZ8.out, ← HZ7.out] <;> first | exact ok | exact HAA.out | exact HA0.out | exact HL.out | exact HH.out | exact HSQ.out | exact HADD.out | exact HSUB.out | exact HSL.out | exact HHP.out | exact HKL.out | exact HKH.out | exact HLH.out | exact HNE.out | exact Rat.sub_self | exact HZL.out | exact HZH.out | exact HKQ.out))
  have su9 : sz (c) ≤ 34 := by have e := HZ9.out; first | omega | (rw [← e]; have := sz_mul (l) (l); omega)
  have lx2 := HF.out.c 0 rfl
  have lx3 := HF.out.c 1 rfl
  have lx4 := HF.out.c 2 rfl
  have lx5 := HF.out.c 3 rfl
  refine kS fun K hK => ?_
  refine pd 33 [(true, 0), (true, 1), (true, 2), (true, 3), (true, 4), (true, 5), (true, 6), (true, 7), (true, 8), (true, 9), (true, 10), (true, 11), (true, 12), (true, 14), (true, 13), (true, 15), (true, 16), (true, 17), (true, 18), (true, 19), (true, 20), (true, 23), (true, 21), (true, 22), (true, 24), (true, 25), (true, 26), (true, 27), (true, 28), (true, 30), (true, 29), (true, 31), (true, 32)] fun T hT => ?_
  iterate 8 refine tk ?_
  refine ck Tryz.call35 (fun w' hw => fsign_any (l) (t5) _ HT5.out) ?_
  iterate 5 refine tk ?_
  refine ck Tryz.call37 (fun w' hw => fsquare_any (l) (c) _ (Lib.hid HZ6.out) om) ?_
  refine ck Tryz.call38 (fun w' hw => fcmp_any (c) (c) (0) _ (by have e9 : (c) - (c) = (0 : Rat) := (by first | exact ok | exact HAA.out | exact HA0.out | exact HL.out | exact HH.out | exact HSQ.out | exact HADD.out | exact HSUB.out | exact HSL.out | exact HHP.out | exact HKL.out | exact HKH.out | exact HLH.out | exact HNE.out | exact Rat.sub_self | exact HZL.out | exact HZH.out | exact HKQ.out); exact sgQ_zero' e9) om om) ?_
  iterate 6 refine tk ?_
  refine ck Tryz.call30 (fun w' hw => fadd_any (l) (st) (u7) _ HZ7.out om om) ?_
  refine ck Tryz.call37 (fun w' hw => fsquare_any (u7) (u8) _ (Lib.hid HZ8.out) om) ?_
  refine ck Tryz.call38 (fun w' hw => fcmp_any (u8) (c) (1) _ (by have e9 : (0 : Rat) < (u8) - (c) := (by simp only [← HZ8.out, ← HZ7.out]; exact HM1.out); exact sgQ_pos e9) om om) ?_
  iterate 5 refine tk ?_
  refine ck Tryz.call37 (fun w' hw => fsquare_any (l) (c) _ (Lib.hid HZ9.out) om) ?_
  refine ck Tryz.call38 (fun w' hw => fcmp_any (c) (c) (0) _ (by have e9 : (c) - (c) = (0 : Rat) := (by first | exact ok | exact HAA.out | exact HA0.out | exact HL.out | exact HH.out | exact HSQ.out | exact HADD.out | exact HSUB.out | exact HSL.out | exact HHP.out | exact HKL.out | exact HKH.out | exact HLH.out | exact HNE.out | exact Rat.sub_self | exact HZL.out | exact HZH.out | exact HKQ.out | (simp only [← HZ8.out, ← HZ7.out] <;> first | exact ok | exact HAA.out | exact HA0.out | exact HL.out | exact HH.out | exact HSQ.out | exact HADD.out | exact HSUB.out | exact HSL.out | exact HHP.out | exact HKL.out | exact HKH.out | exact HLH.out | exact HNE.out | exact Rat.sub_self | exact HZL.out | exact HZH.out | exact HKQ.out)); exact sgQ_zero' e9) om om) ?_
  refine tk ?_
  refine nlD hT HF fun vw7 HG => ?_
  clear hT T HF lx2 lx3 lx4 lx5
  go_wp2
  refine hK.out _ _ ?_; clear hK K
  show Code.wp _ _ _ _ _
  have HF := HG; clear HG
  clear ht5 hd3
  refine wp_cond_false (by rfl) ?_
  refine wp_skip ?_
  show Code.wp _ _ _ _ _
  refine wp_seq ?_
  obtain ⟨u10, HZ10⟩ : ∃ z, Hid ((l) - (st) = z) := ⟨_, Lib.hid rfl⟩
  have su10 : sz (u10) ≤ 22 := by rw [← HZ10.out]; have := sz_sub (l) (st); omega
  obtain ⟨u11, HZ11⟩ : ∃ z, Hid ((u10) * (u10) = z) := ⟨_, Lib.hid rfl⟩
  have su11 : sz (u11) ≤ 44 := by rw [← HZ11.out]; have := sz_mul (u10) (u10); omega
  have lx2 := HF.out.c 0 rfl
  have lx4 := HF.out.c 2 rfl
  have lx5 := HF.out.c 3 rfl
  refine kS fun K hK => ?_
  refine pd 11 [(true, 0), (true, 1), (true, 2), (true, 3), (true, 4), (true, 5), (true, 8), (true, 6), (true, 7), (true, 9), (true, 10)] fun T hT => ?_
  refine tk ?_
  refine ck Tryz.call35 (fun w' hw => fsign_any (l) (1) _ (by have e9 : (0 : Rat) < (l) := (by first | exact ok | exact HAA.out | exact HA0.out | exact HL.out | exact HH.out | exact HSQ.out | exact HADD.out | exact HSUB.out | exact HSL.out | exact HHP.out | exact HKL.out | exact HKH.out | exact HLH.out | exact HNE.out | exact Rat.sub_self | exact HZL.out | exact HZH.out | exact HKQ.out | (simp only [← HZ8.out, ← HZ7.out] <;> first | exact ok | exact HAA.out | exact HA0.out | exact HL.out | exact HH.out | exact HSQ.out | exact HADD.out | exact HSUB.out | exact HSL.out | exact HHP.out | exact HKL.out | exact HKH.out | exact HLH.out | exact HNE.out | exact Rat.sub_self | exact HZL.out | exact HZH.out | exact HKQ.out)); exact sgQ_pos e9)) ?_
  iterate 5 refine tk ?_
  refine ck Tryz.call42 (fun w' hw => fsub_any (l) (st) (u10) _ HZ10.out om om) ?_
  refine ck Tryz.call37 (fun w' hw => fsquare_any (u10) (u11) _ (Lib.hid HZ11.out) om) ?_
  refine ck Tryz.call38 (fun w' hw => fcmp_any (u11) (c) (-1) _ (by have e9 : (u11) - (c) < (0 : Rat) := (by simp only [← HZ11.out, ← HZ10.out, ← HZ8.out, ← HZ7.out]; exact HM2.out); exact sgQ_neg e9) om om) ?_
  refine tk ?_
  refine nlD hT HF fun vw8 HG => ?_
  clear hT T HF lx2 lx4 lx5
  go_wp2
  refine hK.out _ _ ?_; clear hK K
  show Code.wp _ _ _ _ _
  have HF := HG; clear HG
  refine wp_cond_false (by rfl) ?_
  refine wp_skip ?_
  show Code.wp _ _ _ _ _
  have HZ12 : Hid ((l) / (st) = kl) := Lib.hid (HKQ.out)
  have su12 : sz (kl) ≤ 40 := by have e := HZ12.out; first | omega | (rw [← e]; have := sz_div (l) (st); omega)
  have lx3 := HF.out.c 1 rfl
  have lx5 := HF.out.c 3 rfl
  refine kS fun K hK => ?_
  refine sq 6 [(true, 0), (true, 1), (true, 2), (true, 3), (true, 4), (true, 5)] fun T hT => ?_
  iterate 2 refine tk ?_
  refine ck Tryz.call43 (fun w' hw => fdiv_any (l) (st) (kl) _ HZ12.out (by exact HST0.out) om om) ?_
  iterate 3 refine tk ?_
  refine nlS hT HF fun vw9 HG => ?_
  clear hT T HF lx3 lx5
  go_wp2
  refine hK.out _ _ ?_; clear hK K
  show Code.wp _ _ _ _ _
  refine fH ((HG.out).al (b := vw9.heap.size) (by first | rfl | simp) (by decide)) fun Wx12 HF => ?_
  clear HG
  generalize vw9.heap.size = gx6 at *
  have HZ13 : Hid ((l) / (st) = kl) := Lib.hid (by first | exact ok | exact HAA.out | exact HA0.out | exact HL.out | exact HH.out | exact HSQ.out | exact HADD.out | exact HSUB.out | exact HSL.out | exact HHP.out | exact HKL.out | exact HKH.out | exact HLH.out | exact HNE.out | exact Rat.sub_self | exact HZL.out | exact HZH.out | exact HKQ.out | (simp only [← HZ11.out, ← HZ10.out, ← HZ8.out, ← HZ7.out] <;> first | exact ok | exact HAA.out | exact HA0.out | exact HL.out | exact HH.out | exact HSQ.out | exact HADD.out | exact HSUB.out | exact HSL.out | exact HHP.out | exact HKL.out | exact HKH.out | exact HLH.out | exact HNE.out | exact Rat.sub_self | exact HZL.out | exact HZH.out | exact HKQ.out))
  have su13 : sz (kl) ≤ 21 := by have e := HZ13.out; first | omega | (rw [← e]; have := sz_div (l) (st); omega)
  have lx4 := HF.out.c 2 rfl
  have lx5 := HF.out.c 3 rfl
  refine kS fun K hK => ?_
  refine sq 6 [(true, 0), (true, 1), (true, 2), (true, 3), (true, 4), (true, 5)] fun T hT => ?_
  iterate 2 refine tk ?_
  refine ck Tryz.call43 (fun w' hw => fdiv_any (l) (st) (kl) _ HZ13.out (by exact HST0.out) om om) ?_
  iterate 3 refine tk ?_
  refine nlS hT HF fun vw10 HG => ?_
  clear hT T HF lx4 lx5
  go_wp2
  refine hK.out _ _ ?_; clear hK K
  show Code.wp _ _ _ _ _
  refine fH ((HG.out).al (b := vw10.heap.size) (by first | rfl | simp) (by decide)) fun Wx13 HF => ?_
  clear HG
  generalize vw10.heap.size = gx7 at *
  have HZ14 : Hid ((l) * (l) = c) := Lib.hid (by first | exact ok | exact HAA.out | exact HA0.out | exact HL.out | exact HH.out | exact HSQ.out | exact HADD.out | exact HSUB.out | exact HSL.out | exact HHP.out | exact HKL.out | exact HKH.out | exact HLH.out | exact HNE.out | exact Rat.sub_self | exact HZL.out | exact HZH.out | exact HKQ.out | (simp only [← HZ11.out, ← HZ10.out, ← HZ8.out, ← HZ7.out] <;> first | exact ok | exact HAA.out | exact HA0.out | exact HL.out | exact HH.out | exact HSQ.out | exact HADD.out | exact HSUB.out | exact HSL.out | exact HHP.out | exact HKL.out | exact HKH.out | exact HLH.out | exact HNE.out | exact Rat.sub_self | exact HZL.out | exact HZH.out | exact HKQ.out))
  have su14 : sz (c) ≤ 34 := by have e := HZ14.out; first | omega | (rw [← e]; have := sz_mul (l) (l); omega)
  have lx2 := HF.out.c 0 rfl
  have lx3 := HF.out.c 1 rfl
  refine kS fun K hK => ?_
  refine pd 4 [(true, 0), (true, 2), (true, 1), (true, 3)] fun T hT => ?_
  iterate 2 refine tk ?_
  refine ck Tryz.call37 (fun w' hw => fsquare_any (l) (c) _ (Lib.hid HZ14.out) om) ?_
  refine tk ?_
  refine nlD hT HF fun vw11 HG => ?_
  clear hT T HF lx2 lx3
  go_wp2
  refine hK.out _ _ ?_; clear hK K
  show Code.wp _ _ _ _ _
  refine fH ((HG.out).er 0) fun Wx14 HF => ?_
  clear HG
  have HB := HPb HF
  have lx3 := HF.out.c 0 rfl
  have lx4 := HF.out.c 1 rfl
  have lx5 := HF.out.c 2 rfl
  have lx6 := HF.out.c 3 rfl
  have lx7 := HF.out.c 4 rfl
  refine kS fun K hK => ?_
  refine pd 34 [(true, 0), (true, 1), (true, 2), (true, 3), (true, 4), (true, 5), (true, 6), (true, 7), (true, 8), (true, 9), (true, 10), (true, 11), (true, 12), (true, 13), (true, 14), (true, 15), (true, 16), (true, 17), (true, 18), (true, 19), (true, 20), (true, 21), (true, 22), (true, 23), (true, 24), (true, 25), (true, 27), (true, 26), (true, 28), (true, 29), (true, 30), (true, 31), (true, 32), (true, 33)] fun T hT => ?_
  iterate 8 refine tk ?_
  refine ck Tryz.call44 (fun w' hw => fiswhole_any (kl) true _ (decide_eq_true (by first | exact ok | exact HAA.out | exact HA0.out | exact HL.out | exact HH.out | exact HSQ.out | exact HADD.out | exact HSUB.out | exact HSL.out | exact HHP.out | exact HKL.out | exact HKH.out | exact HLH.out | exact HNE.out | exact Rat.sub_self | exact HZL.out | exact HZH.out | exact HKQ.out | (simp only [← HZ11.out, ← HZ10.out, ← HZ8.out, ← HZ7.out] <;> first | exact ok | exact HAA.out | exact HA0.out | exact HL.out | exact HH.out | exact HSQ.out | exact HADD.out | exact HSUB.out | exact HSL.out | exact HHP.out | exact HKL.out | exact HKH.out | exact HLH.out | exact HNE.out | exact Rat.sub_self | exact HZL.out | exact HZH.out | exact HKQ.out)))) ?_
  iterate 3 refine tk ?_
  refine ck Tryz.call44 (fun w' hw => fiswhole_any (kl) true _ (decide_eq_true (by first | exact ok | exact HAA.out | exact HA0.out | exact HL.out | exact HH.out | exact HSQ.out | exact HADD.out | exact HSUB.out | exact HSL.out | exact HHP.out | exact HKL.out | exact HKH.out | exact HLH.out | exact HNE.out | exact Rat.sub_self | exact HZL.out | exact HZH.out | exact HKQ.out | (simp only [← HZ11.out, ← HZ10.out, ← HZ8.out, ← HZ7.out] <;> first | exact ok | exact HAA.out | exact HA0.out | exact HL.out | exact HH.out | exact HSQ.out | exact HADD.out | exact HSUB.out | exact HSL.out | exact HHP.out | exact HKL.out | exact HKH.out | exact HLH.out | exact HNE.out | exact Rat.sub_self | exact HZL.out | exact HZH.out | exact HKQ.out)))) ?_
  iterate 11 refine tk ?_
  iterate 5 refine sk ?_
  iterate 3 refine tk ?_
  refine ck Tryz.call22 (fun w' hw => works5_any _ (Lib.hid (HT.out.gr (Gr.trans HB.out hw)))) ?_
  refine tk ?_
  refine nlD hT HF fun vw12 HG => ?_
  clear hT T HF lx3 lx4 lx5 lx6 lx7 HB
  go_wp2
  refine hK.out _ _ ?_; clear hK K
  show Code.wp _ _ _ _ _
  refine fH ((((((HG.out).er 4).er 3).er 2).er 1).er 0) fun Wx15 HF => ?_
  clear HG
  refine wp_ret ?_
  try simp only [Exit.then, Exit.inBlock]
  exact bodyPost_ret (v := .bool true) (by simp [results, Tryz.results9, go_sem]) rfl ⟨rfl, HF.out.1⟩

set_option maxRecDepth 100000 in
set_option maxHeartbeats 16000000 in
theorem btr_z (bbxn : Bool) (vxn : Value) (kxn : Nat) (fxn : Nat → Nat) (mxn : Nat) (ixn : Int) (vxd : Value) (kxd : Nat) (fxd : Nat → Nat) (mxd : Nat) (n : Int) (k : Nat) (st : Rat) (w : World) (HWxn : Hid (Wa w vxn kxn fxn)) (HFxn : Hid (∀ i, i < kxn → fxn i < 4294967296)) (HVxn : Hid (vl fxn kxn = mxn)) (HAxn : Hid ((if bbxn then -((mxn : Nat) : Int) else ((mxn : Nat) : Int)) = ixn)) (HWxd : Hid (Wa w vxd kxd fxd)) (HFxd : Hid (∀ i, i < kxd → fxd i < 4294967296)) (HVxd : Hid (vl fxd kxd = mxd)) (HQx : Hid (mkRat ixn (mxd + 1) = (0 : Rat))) (hkxn : kxn ≤ 6) (hkxd : kxd ≤ 6) (hm1 : 0 ≤ n) (hm2 : n ≤ 255) (HMk : Hid (Int.tmod n 101 = (k : Int))) (hk : k ≤ 100) (HST : Hid (((1 / 2 : Rat)) ^ k = st)) (HST0 : Hid (st ≠ 0)) (HZL : Hid (rlo (0 : Rat) k = 0)) (HZH : Hid (rhi (0 : Rat) k = 0)) (HM1 : Hid (0 < st * st - (0 : Rat))) (HT : Hid (Tab w)) :
    Calls Tryz.prog 9 #[.agg #[.bool bbxn, vxn, vxd], .int .u8 (n)] w fun e w' => e = .returned (.bool true) ∧ Below w.heap.size w w' := by
  obtain ⟨ao_xn, c_xn, rfl⟩ := HWxn.out.slice
  obtain ⟨ao_xd, c_xd, rfl⟩ := HWxd.out.slice
  have hm_xn : wl mxn ≤ 6 := by rw [← HVxn.out]; have := wl_le.2 (vl_lt HFxn.out); omega
  have hm_xd : wl mxd ≤ 6 := by rw [← HVxd.out]; have := wl_le.2 (vl_lt HFxd.out); omega
  have hi_x : wl (Int.natAbs ixn) ≤ 6 := by rw [zsize HAxn.out]; exact hm_xn
  have hs_x : sz (0 : Rat) ≤ 7 := by rw [← HQx.out]; exact sz_great hi_x hm_xd
  have hr_x : rz (0 : Rat) ≤ 21 := by rw [← HQx.out]; exact rz_great hi_x hm_xd (by decide)
  have hwn : IntKind.i64.wrap n = n := by rw [IntKind.wrap_i64]; omega
  go_enter Tryz.func9, Tryz.ntmps9
  have HF := Lib.hid (hp0 w)
  refine kS fun K hK => ?_
  refine wp_region_lit ?_
  go_wp2
  refine hK.out _ _ ?_; clear hK K
  show Code.wp _ _ _ _ _
  refine fH ((HF.out).al (b := w.heap.size) (by first | rfl | simp) (by decide)) fun Wx0 HG => ?_
  clear HF; have HF := HG; clear HG
  refine wp_seq ?_
  have hd1 : ¬ (6 < ((kxn : Int))) := by first | exact ok | exact HAA.out | exact HA0.out | exact HL.out | exact HH.out | exact HSQ.out | exact HADD.out | exact HSUB.out | exact HSL.out | exact HHP.out | exact HKL.out | exact HKH.out | exact HLH.out | exact HNE.out | exact Rat.sub_self | exact HZL.out | exact HZH.out | decide +kernel | exact Rat.zero_add _ | exact Rat.zero_div _ | exact Rat.le_refl
  have hd2 : ¬ (6 < ((kxd : Int))) := by first | exact ok | exact HAA.out | exact HA0.out | exact HL.out | exact HH.out | exact HSQ.out | exact HADD.out | exact HSUB.out | exact HSL.out | exact HHP.out | exact HKL.out | exact HKH.out | exact HLH.out | exact HNE.out | exact Rat.sub_self | exact HZL.out | exact HZH.out | decide +kernel | exact Rat.zero_add _ | exact Rat.zero_div _ | exact Rat.le_refl
  have lx0 := HF.out.c 0 rfl
  refine kS fun K hK => ?_
  refine sq 11 [(true, 0), (true, 1), (true, 2), (true, 3), (true, 4), (true, 5), (true, 6), (true, 7), (true, 8), (true, 9), (true, 10)] fun T hT => ?_
  iterate 11 refine tk ?_
  refine nlS hT HF fun vw1 HG => ?_
  clear hT T HF lx0
  go_wp2
  refine hK.out _ _ ?_; clear hK K
  show Code.wp _ _ _ _ _
  have HF := HG; clear HG
  clear hd1 hd2
  refine wp_cond_false (by rfl) ?_
  refine wp_skip ?_
  show Code.wp _ _ _ _ _
  have hrmk_2 : Int.tmod n 101 = (k : Int) := HMk.out
  refine kS fun K hK => ?_
  refine sq 4 [(true, 0), (true, 1), (true, 2), (true, 3)] fun T hT => ?_
  iterate 4 refine tk ?_
  refine nlS hT HF fun vw2 HG => ?_
  clear hT T HF
  go_wp2
  refine hK.out _ _ ?_; clear hK K
  show Code.wp _ _ _ _ _
  have HF := HG; clear HG
  clear hrmk_2
  have HB := HPb HF
  have HZ1 : Hid (qabs (0 : Rat) = (0 : Rat)) := Lib.hid (by first | exact ok | exact HAA.out | exact HA0.out | exact HL.out | exact HH.out | exact HSQ.out | exact HADD.out | exact HSUB.out | exact HSL.out | exact HHP.out | exact HKL.out | exact HKH.out | exact HLH.out | exact HNE.out | exact Rat.sub_self | exact HZL.out | exact HZH.out | decide +kernel | exact Rat.zero_add _ | exact Rat.zero_div _ | exact Rat.le_refl)
  have su1 : sz ((0 : Rat)) ≤ 7 := by have e := HZ1.out; first | omega | (rw [← e]; rw [sz_qabs]; omega)
  have lx0 := HF.out.c 0 rfl
  refine kS fun K hK => ?_
  refine sq 3 [(true, 0), (true, 1), (true, 2)] fun T hT => ?_
  refine tk ?_
  refine ck Tryz.call36 (fun w' hw => gof_any bbxn kxn fxn mxn ixn kxd fxd mxd (0 : Rat) ao_xn c_xn ao_xd c_xd w' (Lib.hid (HWxn.out.gr (Gr.trans HB.out hw))) HFxn HVxn HAxn (Lib.hid (HWxd.out.gr (Gr.trans HB.out hw))) HFxd HVxd HQx om om om om) ?_
  refine ck Tryz.call31 (fun w' hw => fabs_any (0 : Rat) (0 : Rat) _ HZ1.out) ?_
  refine nlS hT HF fun vw3 HG => ?_
  clear hT T HF lx0 HB
  go_wp2
  refine hK.out _ _ ?_; clear hK K
  show Code.wp _ _ _ _ _
  refine fH (((HG.out).al (b := vw3.heap.size) (by first | rfl | simp) (by decide)).er 0) fun Wx4 HF => ?_
  clear HG
  generalize vw3.heap.size = gx2 at *
  have HZ2 : Hid (rlo (0 : Rat) k = (0 : Rat)) := Lib.hid (by first | exact ok | exact HAA.out | exact HA0.out | exact HL.out | exact HH.out | exact HSQ.out | exact HADD.out | exact HSUB.out | exact HSL.out | exact HHP.out | exact HKL.out | exact HKH.out | exact HLH.out | exact HNE.out | exact Rat.sub_self | exact HZL.out | exact HZH.out | decide +kernel | exact Rat.zero_add _ | exact Rat.zero_div _ | exact Rat.le_refl)
  have su2 : sz ((0 : Rat)) ≤ 17 := by have e := HZ2.out; first | omega | (rw [← e]; exact Nat.le_trans (sz_rlo (by omega) om) (by omega))
  have lx2 := HF.out.c 0 rfl
  refine kS fun K hK => ?_
  refine sq 6 [(true, 0), (true, 1), (true, 2), (true, 3), (true, 4), (true, 5)] fun T hT => ?_
  iterate 2 refine tk ?_
  refine ck Tryz.call23 (fun w' hw => rBelow_ok (0 : Rat) (0 : Rat) k _ (Lib.hid (by first | exact ok | exact HAA.out | exact HA0.out | exact HL.out | exact HH.out | exact HSQ.out | exact HADD.out | exact HSUB.out | exact HSL.out | exact HHP.out | exact HKL.out | exact HKH.out | exact HLH.out | exact HNE.out | exact Rat.sub_self | exact HZL.out | exact HZH.out | decide +kernel | exact Rat.zero_add _ | exact Rat.zero_div _ | exact Rat.le_refl)) (Lib.hid HZ2.out) (by omega) om) ?_
  iterate 3 refine tk ?_
  refine nlS hT HF fun vw4 HG => ?_
  clear hT T HF lx2
  go_wp2
  refine hK.out _ _ ?_; clear hK K
  show Code.wp _ _ _ _ _
  refine fH ((HG.out).al (b := vw4.heap.size) (by first | rfl | simp) (by decide)) fun Wx5 HF => ?_
  clear HG
  generalize vw4.heap.size = gx3 at *
  have HZ3 : Hid (rhi (0 : Rat) k = (0 : Rat)) := Lib.hid (by first | exact ok | exact HAA.out | exact HA0.out | exact HL.out | exact HH.out | exact HSQ.out | exact HADD.out | exact HSUB.out | exact HSL.out | exact HHP.out | exact HKL.out | exact HKH.out | exact HLH.out | exact HNE.out | exact Rat.sub_self | exact HZL.out | exact HZH.out | decide +kernel | exact Rat.zero_add _ | exact Rat.zero_div _ | exact Rat.le_refl)
  have su3 : sz ((0 : Rat)) ≤ 17 := by have e := HZ3.out; first | omega | (rw [← e]; exact Nat.le_trans (sz_rhi (by omega) om) (by omega))
  have lx2 := HF.out.c 0 rfl
  refine kS fun K hK => ?_
  refine sq 6 [(true, 0), (true, 1), (true, 2), (true, 3), (true, 4), (true, 5)] fun T hT => ?_
  iterate 2 refine tk ?_
  refine ck Tryz.call25 (fun w' hw => rAbove_ok (0 : Rat) (0 : Rat) k _ (Lib.hid (by first | exact ok | exact HAA.out | exact HA0.out | exact HL.out | exact HH.out | exact HSQ.out | exact HADD.out | exact HSUB.out | exact HSL.out | exact HHP.out | exact HKL.out | exact HKH.out | exact HLH.out | exact HNE.out | exact Rat.sub_self | exact HZL.out | exact HZH.out | decide +kernel | exact Rat.zero_add _ | exact Rat.zero_div _ | exact Rat.le_refl)) (Lib.hid HZ3.out) (by omega) om) ?_
  iterate 3 refine tk ?_
  refine nlS hT HF fun vw5 HG => ?_
  clear hT T HF lx2
  go_wp2
  refine hK.out _ _ ?_; clear hK K
  show Code.wp _ _ _ _ _
  refine fH ((HG.out).al (b := vw5.heap.size) (by first | rfl | simp) (by decide)) fun Wx6 HF => ?_
  clear HG
  generalize vw5.heap.size = gx4 at *
  have HZ4 : Hid (((1 / 2 : Rat)) ^ k = st) := Lib.hid (HST.out)
  have su4 : sz (st) ≤ 4 := by have e := HZ4.out; first | omega | (rw [← e]; exact sz_half5 (by omega))
  refine kS fun K hK => ?_
  refine sq 2 [(true, 0), (true, 1)] fun T hT => ?_
  refine tk ?_
  refine ck Tryz.call41 (fun w' hw => power5_any k (st) _ (Lib.hid HZ4.out) (by omega)) ?_
  refine nlS hT HF fun vw6 HG => ?_
  clear hT T HF
  go_wp2
  refine hK.out _ _ ?_; clear hK K
  show Code.wp _ _ _ _ _
  refine fH ((HG.out).al (b := vw6.heap.size) (by first | rfl | simp) (by decide)) fun Wx7 HF => ?_
  clear HG
  generalize vw6.heap.size = gx5 at *
  refine wp_seq ?_
  have HZ5 : Hid ((0 : Rat) * (0 : Rat) = (0 : Rat)) := Lib.hid (by first | exact ok | exact HAA.out | exact HA0.out | exact HL.out | exact HH.out | exact HSQ.out | exact HADD.out | exact HSUB.out | exact HSL.out | exact HHP.out | exact HKL.out | exact HKH.out | exact HLH.out | exact HNE.out | exact Rat.sub_self | exact HZL.out | exact HZH.out | decide +kernel | exact Rat.zero_add _ | exact Rat.zero_div _ | exact Rat.le_refl)
  have su5 : sz ((0 : Rat)) ≤ 34 := by have e := HZ5.out; first | omega | (rw [← e]; have := sz_mul (0 : Rat) (0 : Rat); omega)
  have HZ6 : Hid ((0 : Rat) + (st) = st) := Lib.hid (by first | exact ok | exact HAA.out | exact HA0.out | exact HL.out | exact HH.out | exact HSQ.out | exact HADD.out | exact HSUB.out | exact HSL.out | exact HHP.out | exact HKL.out | exact HKH.out | exact HLH.out | exact HNE.out | exact Rat.sub_self | exact HZL.out | exact HZH.out | decide +kernel | exact Rat.zero_add _ | exact Rat.zero_div _ | exact Rat.le_refl)
  have su6 : sz (st) ≤ 22 := by have e := HZ6.out; first | omega | (rw [← e]; have := sz_add (0 : Rat) (st); omega)
  obtain ⟨u7, HZ7⟩ : ∃ z, Hid ((st) * (st) = z) := ⟨_, Lib.hid rfl⟩
  have su7 : sz (u7) ≤ 44 := by rw [← HZ7.out]; have := sz_mul (st) (st); omega
  have HZ8 : Hid ((0 : Rat) * (0 : Rat) = (0 : Rat)) := Lib.hid (by first | exact ok | exact HAA.out | exact HA0.out | exact HL.out | exact HH.out | exact HSQ.out | exact HADD.out | exact HSUB.out | exact HSL.out | exact HHP.out | exact HKL.out | exact HKH.out | exact HLH.out | exact HNE.out | exact Rat.sub_self | exact HZL.out | exact HZH.out | decide +kernel | exact Rat.zero_add _ | exact Rat.zero_div _ | exact Rat.le_refl | (simp only [← HZ7.out] <;> first | exact ok | exact HAA.out | exact HA0.out | exact HL.out | exact HH.out | exact HSQ.out | exact HADD.out | exact HSUB.out | exact HSL.out | exact HHP.out | exact HKL.out | exact HKH.out | exact HLH.out | exact HNE.out | exact Rat.sub_self | exact HZL.out | exact HZH.out | decide +kernel | exact Rat.zero_add _ | exact Rat.zero_div _ | exact Rat.le_refl))
  have su8 : sz ((0 : Rat)) ≤ 34 := by have e := HZ8.out; first | omega | (rw [← e]; have := sz_mul (0 : Rat) (0 : Rat); omega)
  have lx2 := HF.out.c 0 rfl
  have lx3 := HF.out.c 1 rfl
  have lx4 := HF.out.c 2 rfl
  have lx5 := HF.out.c 3 rfl
  refine kS fun K hK => ?_
  refine pd 33 [(true, 0), (true, 1), (true, 2), (true, 3), (true, 4), (true, 5), (true, 6), (true, 7), (true, 8), (true, 9), (true, 10), (true, 11), (true, 12), (true, 14), (true, 13), (true, 15), (true, 16), (true, 17), (true, 18), (true, 19), (true, 20), (true, 23), (true, 21), (true, 22), (true, 24), (true, 25), (true, 26), (true, 27), (true, 28), (true, 30), (true, 29), (true, 31), (true, 32)] fun T hT => ?_
  iterate 8 refine tk ?_
  refine ck Tryz.call35 (fun w' hw => fsign_any (0 : Rat) (0) _ (by have e9 : (0 : Rat) = (0 : Rat) := (by first | exact ok | exact HAA.out | exact HA0.out | exact HL.out | exact HH.out | exact HSQ.out | exact HADD.out | exact HSUB.out | exact HSL.out | exact HHP.out | exact HKL.out | exact HKH.out | exact HLH.out | exact HNE.out | exact Rat.sub_self | exact HZL.out | exact HZH.out | decide +kernel | exact Rat.zero_add _ | exact Rat.zero_div _ | exact Rat.le_refl); exact sgQ_zero' e9)) ?_
  iterate 5 refine tk ?_
  refine ck Tryz.call37 (fun w' hw => fsquare_any (0 : Rat) (0 : Rat) _ (Lib.hid HZ5.out) om) ?_
  refine ck Tryz.call38 (fun w' hw => fcmp_any (0 : Rat) (0 : Rat) (0) _ (by have e9 : (0 : Rat) - (0 : Rat) = (0 : Rat) := (by first | exact ok | exact HAA.out | exact HA0.out | exact HL.out | exact HH.out | exact HSQ.out | exact HADD.out | exact HSUB.out | exact HSL.out | exact HHP.out | exact HKL.out | exact HKH.out | exact HLH.out | exact HNE.out | exact Rat.sub_self | exact HZL.out | exact HZH.out | decide +kernel | exact Rat.zero_add _ | exact Rat.zero_div _ | exact Rat.le_refl); exact sgQ_zero' e9) om om) ?_
  iterate 6 refine tk ?_
  refine ck Tryz.call30 (fun w' hw => fadd_any (0 : Rat) (st) (st) _ HZ6.out om om) ?_
  refine ck Tryz.call37 (fun w' hw => fsquare_any (st) (u7) _ (Lib.hid HZ7.out) om) ?_
  refine ck Tryz.call38 (fun w' hw => fcmp_any (u7) (0 : Rat) (1) _ (by have e9 : (0 : Rat) < (u7) - (0 : Rat) := (by simp only [← HZ7.out]; exact HM1.out); exact sgQ_pos e9) om om) ?_
  iterate 5 refine tk ?_
  refine ck Tryz.call37 (fun w' hw => fsquare_any (0 : Rat) (0 : Rat) _ (Lib.hid HZ8.out) om) ?_
  refine ck Tryz.call38 (fun w' hw => fcmp_any (0 : Rat) (0 : Rat) (0) _ (by have e9 : (0 : Rat) - (0 : Rat) = (0 : Rat) := (by first | exact ok | exact HAA.out | exact HA0.out | exact HL.out | exact HH.out | exact HSQ.out | exact HADD.out | exact HSUB.out | exact HSL.out | exact HHP.out | exact HKL.out | exact HKH.out | exact HLH.out | exact HNE.out | exact Rat.sub_self | exact HZL.out | exact HZH.out | decide +kernel | exact Rat.zero_add _ | exact Rat.zero_div _ | exact Rat.le_refl | (simp only [← HZ7.out] <;> first | exact ok | exact HAA.out | exact HA0.out | exact HL.out | exact HH.out | exact HSQ.out | exact HADD.out | exact HSUB.out | exact HSL.out | exact HHP.out | exact HKL.out | exact HKH.out | exact HLH.out | exact HNE.out | exact Rat.sub_self | exact HZL.out | exact HZH.out | decide +kernel | exact Rat.zero_add _ | exact Rat.zero_div _ | exact Rat.le_refl)); exact sgQ_zero' e9) om om) ?_
  refine tk ?_
  refine nlD hT HF fun vw7 HG => ?_
  clear hT T HF lx2 lx3 lx4 lx5
  go_wp2
  refine hK.out _ _ ?_; clear hK K
  show Code.wp _ _ _ _ _
  have HF := HG; clear HG
  refine wp_cond_false (by rfl) ?_
  refine wp_skip ?_
  show Code.wp _ _ _ _ _
  refine wp_seq ?_
  have lx2 := HF.out.c 0 rfl
  have lx4 := HF.out.c 2 rfl
  have lx5 := HF.out.c 3 rfl
  refine kS fun K hK => ?_
  refine pd 11 [(true, 0), (true, 1), (true, 2), (true, 3), (true, 4), (true, 5), (true, 8), (true, 6), (true, 7), (true, 9), (true, 10)] fun T hT => ?_
  refine tk ?_
  refine ck Tryz.call35 (fun w' hw => fsign_any (0 : Rat) (0) _ (by have e9 : (0 : Rat) = (0 : Rat) := (by first | exact ok | exact HAA.out | exact HA0.out | exact HL.out | exact HH.out | exact HSQ.out | exact HADD.out | exact HSUB.out | exact HSL.out | exact HHP.out | exact HKL.out | exact HKH.out | exact HLH.out | exact HNE.out | exact Rat.sub_self | exact HZL.out | exact HZH.out | decide +kernel | exact Rat.zero_add _ | exact Rat.zero_div _ | exact Rat.le_refl | (simp only [← HZ7.out] <;> first | exact ok | exact HAA.out | exact HA0.out | exact HL.out | exact HH.out | exact HSQ.out | exact HADD.out | exact HSUB.out | exact HSL.out | exact HHP.out | exact HKL.out | exact HKH.out | exact HLH.out | exact HNE.out | exact Rat.sub_self | exact HZL.out | exact HZH.out | decide +kernel | exact Rat.zero_add _ | exact Rat.zero_div _ | exact Rat.le_refl)); exact sgQ_zero' e9)) ?_
  iterate 2 refine tk ?_
  iterate 7 refine sk ?_
  refine nlD hT HF fun vw8 HG => ?_
  clear hT T HF lx2 lx4 lx5
  go_wp2
  refine hK.out _ _ ?_; clear hK K
  show Code.wp _ _ _ _ _
  have HF := HG; clear HG
  refine wp_cond_false (by rfl) ?_
  refine wp_skip ?_
  show Code.wp _ _ _ _ _
  have HZ9 : Hid ((0 : Rat) / (st) = (0 : Rat)) := Lib.hid (by first | exact ok | exact HAA.out | exact HA0.out | exact HL.out | exact HH.out | exact HSQ.out | exact HADD.out | exact HSUB.out | exact HSL.out | exact HHP.out | exact HKL.out | exact HKH.out | exact HLH.out | exact HNE.out | exact Rat.sub_self | exact HZL.out | exact HZH.out | decide +kernel | exact Rat.zero_add _ | exact Rat.zero_div _ | exact Rat.le_refl | (simp only [← HZ7.out] <;> first | exact ok | exact HAA.out | exact HA0.out | exact HL.out | exact HH.out | exact HSQ.out | exact HADD.out | exact HSUB.out | exact HSL.out | exact HHP.out | exact HKL.out | exact HKH.out | exact HLH.out | exact HNE.out | exact Rat.sub_self | exact HZL.out | exact HZH.out | decide +kernel | exact Rat.zero_add _ | exact Rat.zero_div _ | exact Rat.le_refl))
  have su9 : sz ((0 : Rat)) ≤ 21 := by have e := HZ9.out; first | omega | (rw [← e]; have := sz_div (0 : Rat) (st); omega)
  have lx3 := HF.out.c 1 rfl
  have lx5 := HF.out.c 3 rfl
  refine kS fun K hK => ?_
  refine sq 6 [(true, 0), (true, 1), (true, 2), (true, 3), (true, 4), (true, 5)] fun T hT => ?_
  iterate 2 refine tk ?_
  refine ck Tryz.call43 (fun w' hw => fdiv_any (0 : Rat) (st) (0 : Rat) _ HZ9.out (by exact HST0.out) om om) ?_
  iterate 3 refine tk ?_
  refine nlS hT HF fun vw9 HG => ?_
  clear hT T HF lx3 lx5
  go_wp2
  refine hK.out _ _ ?_; clear hK K
  show Code.wp _ _ _ _ _
  refine fH ((HG.out).al (b := vw9.heap.size) (by first | rfl | simp) (by decide)) fun Wx12 HF => ?_
  clear HG
  generalize vw9.heap.size = gx6 at *
  have HZ10 : Hid ((0 : Rat) / (st) = (0 : Rat)) := Lib.hid (by first | exact ok | exact HAA.out | exact HA0.out | exact HL.out | exact HH.out | exact HSQ.out | exact HADD.out | exact HSUB.out | exact HSL.out | exact HHP.out | exact HKL.out | exact HKH.out | exact HLH.out | exact HNE.out | exact Rat.sub_self | exact HZL.out | exact HZH.out | decide +kernel | exact Rat.zero_add _ | exact Rat.zero_div _ | exact Rat.le_refl | (simp only [← HZ7.out] <;> first | exact ok | exact HAA.out | exact HA0.out | exact HL.out | exact HH.out | exact HSQ.out | exact HADD.out | exact HSUB.out | exact HSL.out | exact HHP.out | exact HKL.out | exact HKH.out | exact HLH.out | exact HNE.out | exact Rat.sub_self | exact HZL.out | exact HZH.out | decide +kernel | exact Rat.zero_add _ | exact Rat.zero_div _ | exact Rat.le_refl))
  have su10 : sz ((0 : Rat)) ≤ 21 := by have e := HZ10.out; first | omega | (rw [← e]; have := sz_div (0 : Rat) (st); omega)
  have lx4 := HF.out.c 2 rfl
  have lx5 := HF.out.c 3 rfl
  refine kS fun K hK => ?_
  refine sq 6 [(true, 0), (true, 1), (true, 2), (true, 3), (true, 4), (true, 5)] fun T hT => ?_
  iterate 2 refine tk ?_
  refine ck Tryz.call43 (fun w' hw => fdiv_any (0 : Rat) (st) (0 : Rat) _ HZ10.out (by exact HST0.out) om om) ?_
  iterate 3 refine tk ?_
  refine nlS hT HF fun vw10 HG => ?_
  clear hT T HF lx4 lx5
  go_wp2
  refine hK.out _ _ ?_; clear hK K
  show Code.wp _ _ _ _ _
  refine fH ((HG.out).al (b := vw10.heap.size) (by first | rfl | simp) (by decide)) fun Wx13 HF => ?_
  clear HG
  generalize vw10.heap.size = gx7 at *
  have HZ11 : Hid ((0 : Rat) * (0 : Rat) = (0 : Rat)) := Lib.hid (by first | exact ok | exact HAA.out | exact HA0.out | exact HL.out | exact HH.out | exact HSQ.out | exact HADD.out | exact HSUB.out | exact HSL.out | exact HHP.out | exact HKL.out | exact HKH.out | exact HLH.out | exact HNE.out | exact Rat.sub_self | exact HZL.out | exact HZH.out | decide +kernel | exact Rat.zero_add _ | exact Rat.zero_div _ | exact Rat.le_refl | (simp only [← HZ7.out] <;> first | exact ok | exact HAA.out | exact HA0.out | exact HL.out | exact HH.out | exact HSQ.out | exact HADD.out | exact HSUB.out | exact HSL.out | exact HHP.out | exact HKL.out | exact HKH.out | exact HLH.out | exact HNE.out | exact Rat.sub_self | exact HZL.out | exact HZH.out | decide +kernel | exact Rat.zero_add _ | exact Rat.zero_div _ | exact Rat.le_refl))
  have su11 : sz ((0 : Rat)) ≤ 34 := by have e := HZ11.out; first | omega | (rw [← e]; have := sz_mul (0 : Rat) (0 : Rat); omega)
  have lx2 := HF.out.c 0 rfl
  have lx3 := HF.out.c 1 rfl
  refine kS fun K hK => ?_
  refine pd 4 [(true, 0), (true, 2), (true, 1), (true, 3)] fun T hT => ?_
  iterate 2 refine tk ?_
  refine ck Tryz.call37 (fun w' hw => fsquare_any (0 : Rat) (0 : Rat) _ (Lib.hid HZ11.out) om) ?_
  refine tk ?_
  refine nlD hT HF fun vw11 HG => ?_
  clear hT T HF lx2 lx3
  go_wp2
  refine hK.out _ _ ?_; clear hK K
  show Code.wp _ _ _ _ _
  refine fH ((HG.out).er 0) fun Wx14 HF => ?_
  clear HG
  have HB := HPb HF
  have lx3 := HF.out.c 0 rfl
  have lx4 := HF.out.c 1 rfl
  have lx5 := HF.out.c 2 rfl
  have lx6 := HF.out.c 3 rfl
  have lx7 := HF.out.c 4 rfl
  refine kS fun K hK => ?_
  refine pd 34 [(true, 0), (true, 1), (true, 2), (true, 3), (true, 4), (true, 5), (true, 6), (true, 7), (true, 8), (true, 9), (true, 10), (true, 11), (true, 12), (true, 13), (true, 14), (true, 15), (true, 16), (true, 17), (true, 18), (true, 19), (true, 20), (true, 21), (true, 22), (true, 23), (true, 24), (true, 25), (true, 27), (true, 26), (true, 28), (true, 29), (true, 30), (true, 31), (true, 32), (true, 33)] fun T hT => ?_
  iterate 8 refine tk ?_
  refine ck Tryz.call44 (fun w' hw => fiswhole_any (0 : Rat) true _ (decide_eq_true (by first | exact ok | exact HAA.out | exact HA0.out | exact HL.out | exact HH.out | exact HSQ.out | exact HADD.out | exact HSUB.out | exact HSL.out | exact HHP.out | exact HKL.out | exact HKH.out | exact HLH.out | exact HNE.out | exact Rat.sub_self | exact HZL.out | exact HZH.out | decide +kernel | exact Rat.zero_add _ | exact Rat.zero_div _ | exact Rat.le_refl | (simp only [← HZ7.out] <;> first | exact ok | exact HAA.out | exact HA0.out | exact HL.out | exact HH.out | exact HSQ.out | exact HADD.out | exact HSUB.out | exact HSL.out | exact HHP.out | exact HKL.out | exact HKH.out | exact HLH.out | exact HNE.out | exact Rat.sub_self | exact HZL.out | exact HZH.out | decide +kernel | exact Rat.zero_add _ | exact Rat.zero_div _ | exact Rat.le_refl)))) ?_
  iterate 3 refine tk ?_
  refine ck Tryz.call44 (fun w' hw => fiswhole_any (0 : Rat) true _ (decide_eq_true (by first | exact ok | exact HAA.out | exact HA0.out | exact HL.out | exact HH.out | exact HSQ.out | exact HADD.out | exact HSUB.out | exact HSL.out | exact HHP.out | exact HKL.out | exact HKH.out | exact HLH.out | exact HNE.out | exact Rat.sub_self | exact HZL.out | exact HZH.out | decide +kernel | exact Rat.zero_add _ | exact Rat.zero_div _ | exact Rat.le_refl | (simp only [← HZ7.out] <;> first | exact ok | exact HAA.out | exact HA0.out | exact HL.out | exact HH.out | exact HSQ.out | exact HADD.out | exact HSUB.out | exact HSL.out | exact HHP.out | exact HKL.out | exact HKH.out | exact HLH.out | exact HNE.out | exact Rat.sub_self | exact HZL.out | exact HZH.out | decide +kernel | exact Rat.zero_add _ | exact Rat.zero_div _ | exact Rat.le_refl)))) ?_
  iterate 11 refine tk ?_
  iterate 5 refine sk ?_
  iterate 3 refine tk ?_
  refine ck Tryz.call22 (fun w' hw => works5_any _ (Lib.hid (HT.out.gr (Gr.trans HB.out hw)))) ?_
  refine tk ?_
  refine nlD hT HF fun vw12 HG => ?_
  clear hT T HF lx3 lx4 lx5 lx6 lx7 HB
  go_wp2
  refine hK.out _ _ ?_; clear hK K
  show Code.wp _ _ _ _ _
  refine fH ((((((HG.out).er 4).er 3).er 2).er 1).er 0) fun Wx15 HF => ?_
  clear HG
  refine wp_ret ?_
  try simp only [Exit.then, Exit.inBlock]
  exact bodyPost_ret (v := .bool true) (by simp [results, Tryz.results9, go_sem]) rfl ⟨rfl, HF.out.1⟩

set_option maxRecDepth 100000 in
set_option maxHeartbeats 8000000 in
theorem btr_big1 (bbxn : Bool) (vxn : Value) (kxn : Nat) (fxn : Nat → Nat) (mxn : Nat) (ixn : Int) (vxd : Value) (kxd : Nat) (fxd : Nat → Nat) (mxd : Nat) (a : Rat) (n : Int) (w : World) (HWxn : Hid (Wa w vxn kxn fxn)) (HFxn : Hid (∀ i, i < kxn → fxn i < 4294967296)) (HVxn : Hid (vl fxn kxn = mxn)) (HAxn : Hid ((if bbxn then -((mxn : Nat) : Int) else ((mxn : Nat) : Int)) = ixn)) (HWxd : Hid (Wa w vxd kxd fxd)) (HFxd : Hid (∀ i, i < kxd → fxd i < 4294967296)) (HVxd : Hid (vl fxd kxd = mxd)) (HQx : Hid (mkRat ixn (mxd + 1) = a))  (hkxn : 6 < kxn) (HT : Hid (Tab w)) :
    Calls Tryz.prog 9 #[.agg #[.bool bbxn, vxn, vxd], .int .u8 (n)] w fun e w' => e = .returned (.bool true) ∧ Below w.heap.size w w' := by
  obtain ⟨ao_xn, c_xn, rfl⟩ := HWxn.out.slice
  obtain ⟨ao_xd, c_xd, rfl⟩ := HWxd.out.slice
  go_enter Tryz.func9, Tryz.ntmps9
  have HF := Lib.hid (hp0 w)
  refine kS fun K hK => ?_
  refine wp_region_lit ?_
  go_wp2
  refine hK.out _ _ ?_; clear hK K
  show Code.wp _ _ _ _ _
  refine fH ((HF.out).al (b := w.heap.size) (by first | rfl | simp) (by decide)) fun Wx0 HG => ?_
  clear HF; have HF := HG; clear HG
  refine wp_seq ?_
  have hd1 : 6 < ((kxn : Int)) := ok
  have lx0 := HF.out.c 0 rfl
  refine kS fun K hK => ?_
  refine sq 11 [(true, 0), (true, 1), (true, 2), (true, 3), (true, 4), (true, 5), (true, 6), (true, 7), (true, 8), (true, 9), (true, 10)] fun T hT => ?_
  iterate 6 refine tk ?_
  iterate 4 refine sk ?_
  refine tk ?_
  refine nlS hT HF fun vw1 HG => ?_
  clear hT T HF lx0
  go_wp2
  refine hK.out _ _ ?_; clear hK K
  show Code.wp _ _ _ _ _
  have HF := HG; clear HG
  clear hd1
  refine wp_cond_true (by rfl) ?_
  have HB := HPb HF
  refine kS fun K hK => ?_
  refine sq 2 [(true, 0), (true, 1)] fun T hT => ?_
  refine ck Tryz.call22 (fun w' hw => works5_any _ (Lib.hid (HT.out.gr (Gr.trans HB.out hw)))) ?_
  refine tk ?_
  refine nlS hT HF fun vw2 HG => ?_
  clear hT T HF HB
  go_wp2
  refine hK.out _ _ ?_; clear hK K
  show Code.wp _ _ _ _ _
  have HF := HG; clear HG
  refine wp_ret ?_
  try simp only [Exit.then, Exit.inBlock]
  exact bodyPost_ret (v := .bool true) (by simp [results, Tryz.results9, go_sem]) rfl ⟨rfl, HF.out.1⟩

set_option maxRecDepth 100000 in
set_option maxHeartbeats 8000000 in
theorem btr_big2 (bbxn : Bool) (vxn : Value) (kxn : Nat) (fxn : Nat → Nat) (mxn : Nat) (ixn : Int) (vxd : Value) (kxd : Nat) (fxd : Nat → Nat) (mxd : Nat) (a : Rat) (n : Int) (w : World) (HWxn : Hid (Wa w vxn kxn fxn)) (HFxn : Hid (∀ i, i < kxn → fxn i < 4294967296)) (HVxn : Hid (vl fxn kxn = mxn)) (HAxn : Hid ((if bbxn then -((mxn : Nat) : Int) else ((mxn : Nat) : Int)) = ixn)) (HWxd : Hid (Wa w vxd kxd fxd)) (HFxd : Hid (∀ i, i < kxd → fxd i < 4294967296)) (HVxd : Hid (vl fxd kxd = mxd)) (HQx : Hid (mkRat ixn (mxd + 1) = a)) (hkxn : kxn ≤ 6) (hkxd : 6 < kxd) (HT : Hid (Tab w)) :
    Calls Tryz.prog 9 #[.agg #[.bool bbxn, vxn, vxd], .int .u8 (n)] w fun e w' => e = .returned (.bool true) ∧ Below w.heap.size w w' := by
  obtain ⟨ao_xn, c_xn, rfl⟩ := HWxn.out.slice
  obtain ⟨ao_xd, c_xd, rfl⟩ := HWxd.out.slice
  go_enter Tryz.func9, Tryz.ntmps9
  have HF := Lib.hid (hp0 w)
  refine kS fun K hK => ?_
  refine wp_region_lit ?_
  go_wp2
  refine hK.out _ _ ?_; clear hK K
  show Code.wp _ _ _ _ _
  refine fH ((HF.out).al (b := w.heap.size) (by first | rfl | simp) (by decide)) fun Wx0 HG => ?_
  clear HF; have HF := HG; clear HG
  refine wp_seq ?_
  have hd1 : ¬ (6 < ((kxn : Int))) := ok
  have hd2 : 6 < ((kxd : Int)) := ok
  have lx0 := HF.out.c 0 rfl
  refine kS fun K hK => ?_
  refine sq 11 [(true, 0), (true, 1), (true, 2), (true, 3), (true, 4), (true, 5), (true, 6), (true, 7), (true, 8), (true, 9), (true, 10)] fun T hT => ?_
  iterate 11 refine tk ?_
  refine nlS hT HF fun vw1 HG => ?_
  clear hT T HF lx0
  go_wp2
  refine hK.out _ _ ?_; clear hK K
  show Code.wp _ _ _ _ _
  have HF := HG; clear HG
  clear hd1 hd2
  refine wp_cond_true (by rfl) ?_
  have HB := HPb HF
  refine kS fun K hK => ?_
  refine sq 2 [(true, 0), (true, 1)] fun T hT => ?_
  refine ck Tryz.call22 (fun w' hw => works5_any _ (Lib.hid (HT.out.gr (Gr.trans HB.out hw)))) ?_
  refine tk ?_
  refine nlS hT HF fun vw2 HG => ?_
  clear hT T HF HB
  go_wp2
  refine hK.out _ _ ?_; clear hK K
  show Code.wp _ _ _ _ _
  have HF := HG; clear HG
  refine wp_ret ?_
  try simp only [Exit.then, Exit.inBlock]
  exact bodyPost_ret (v := .bool true) (by simp [results, Tryz.results9, go_sem]) rfl ⟨rfl, HF.out.1⟩

theorem btr_law (bbxn : Bool) (vxn : Value) (kxn : Nat) (fxn : Nat → Nat) (vxd : Value) (kxd : Nat) (fxd : Nat → Nat) (n : Int) (w : World) (HWxn : Hid (Wa w vxn kxn fxn)) (HFxn : Hid (∀ i, i < kxn → fxn i < 4294967296)) (HWxd : Hid (Wa w vxd kxd fxd)) (HFxd : Hid (∀ i, i < kxd → fxd i < 4294967296)) (hm1 : 0 ≤ n) (hm2 : n ≤ 255) (HT : Hid (Tab w)) :
    Calls Tryz.prog 9 #[.agg #[.bool bbxn, vxn, vxd], .int .u8 n] w fun e w' => e = .returned (.bool true) ∧ Below w.heap.size w w' := by
  obtain ⟨ixn, HAxn⟩ : ∃ z, Hid ((if bbxn then -((vl fxn kxn : Nat) : Int) else ((vl fxn kxn : Nat) : Int)) = z) := ⟨_, Lib.hid rfl⟩
  obtain ⟨a, HQx⟩ : ∃ z, Hid (mkRat ixn (vl fxd kxd + 1) = z) := ⟨_, Lib.hid rfl⟩
  by_cases hkxn : kxn ≤ 6
  · skip
    by_cases hkxd : kxd ≤ 6
    · skip
      have hsa : sz a ≤ 7 := by
        rw [← HQx.out]
        have hm1 : wl (vl fxn kxn) ≤ 6 := by have := wl_le.2 (vl_lt HFxn.out); omega
        exact sz_great (by rw [zsize HAxn.out]; exact hm1) (by have := wl_le.2 (vl_lt HFxd.out); omega)
      obtain ⟨k, hk, hk2⟩ := tmod_nat hm1
      by_cases ha : a = 0
      · subst ha
        exact btr_z bbxn vxn kxn fxn _ ixn vxd kxd fxd _ n k _ w HWxn HFxn (Lib.hid rfl) HAxn HWxd HFxd (Lib.hid rfl) HQx hkxn hkxd hm1 hm2 (Lib.hid hk) hk2 (Lib.hid rfl) (Lib.hid (hq_ne k)) (Lib.hid (rlo_zero k)) (Lib.hid (rhi_zero k)) (Lib.hid (by have := Rat.mul_pos (hq_pos k) (hq_pos k); rw [hq_eq]; grind)) HT
      · have hc := qabs_nn a
        have hsc : sz (qabs a) ≤ 7 := by rw [sz_qabs]; exact hsa
        have hcn : ¬ qabs a = 0 := fun e => ha (by unfold qabs at e; split at e <;> grind)
        obtain ⟨c, HAA⟩ : ∃ c, qabs a = c := ⟨_, rfl⟩
        rw [HAA] at hc hsc hcn
        have hsl : sz (rlo c k) ≤ 20 := Nat.le_trans (sz_rlo hk2 hsc) (by decide)
        have hsh : sz (rhi c k) ≤ 20 := Nat.le_trans (sz_rhi hk2 hsc) (by decide)
        by_cases he : rlo c k * rlo c k = c
        · have hp := rlo_pos_sq hc hcn he
          have h1 := rlo_lt hc k
          have h2 := rhi_below hc k (by rw [rhi_ex he]; exact hp)
          rw [rhi_ex he] at h2
          exact btr_e bbxn vxn kxn fxn _ ixn vxd kxd fxd _ a n k _ c _ w HWxn HFxn (Lib.hid rfl) HAxn HWxd HFxd (Lib.hid rfl) HQx hkxn hkxd hm1 hm2 (Lib.hid hk) hk2 (Lib.hid rfl) (Lib.hid (hq_ne k)) (Lib.hid HAA) hsc (Lib.hid hc) (Lib.hid rfl) (Lib.hid (rlo_nn c k)) hsl _ (Lib.hid rfl) (sz_qdiv hsl (sz_half5 hk2)) (Lib.hid (rlo_whole c k)) (Lib.hid (rhi_ex he)) (Lib.hid he) (Lib.hid hp) (Lib.hid (by rw [hq_eq]; grind)) (Lib.hid (by rw [hq_eq]; grind)) HT
        · have e1 := rhi_st he
          have h0 := rlo_nn c k
          have h3 := hq_pos k
          have h1 := rlo_lt hc k
          have h2 := rlo_le hc k
          exact btr_n bbxn vxn kxn fxn _ ixn vxd kxd fxd _ a n k _ c _ _ w HWxn HFxn (Lib.hid rfl) HAxn HWxd HFxd (Lib.hid rfl) HQx hkxn hkxd hm1 hm2 (Lib.hid hk) hk2 (Lib.hid rfl) (Lib.hid (hq_ne k)) (Lib.hid HAA) hsc (Lib.hid hc) (Lib.hid rfl) (Lib.hid h0) hsl _ (Lib.hid rfl) (sz_qdiv hsl (sz_half5 hk2)) (Lib.hid (rlo_whole c k)) (Lib.hid rfl) hsh (Lib.hid (by rw [e1]; grind)) (Lib.hid (by rw [e1]; rfl)) (Lib.hid (by rw [e1, hq_eq]; grind)) (Lib.hid (by rw [e1, hq_eq]; grind)) (Lib.hid (by rw [e1]; grind)) (Lib.hid he) (Lib.hid (by grind)) (Lib.hid (by rw [e1]; grind)) _ (Lib.hid rfl) (sz_qdiv hsh (sz_half5 hk2)) (Lib.hid (rhi_whole c k)) HT
    · exact btr_big2 bbxn vxn kxn fxn _ ixn vxd kxd fxd _ a n w HWxn HFxn (Lib.hid rfl) HAxn HWxd HFxd (Lib.hid rfl) HQx  hkxn (by omega) HT
  · exact btr_big1 bbxn vxn kxn fxn _ ixn vxd kxd fxd _ a n w HWxn HFxn (Lib.hid rfl) HAxn HWxd HFxd (Lib.hid rfl) HQx   (by omega) HT

end Go.Proofs.YtaflakcemiilaaaGreatDoor
