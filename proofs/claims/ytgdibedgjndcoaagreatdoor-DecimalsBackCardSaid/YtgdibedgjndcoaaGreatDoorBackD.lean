
/- DecimalsBack: the law's walk. -/
import Derived.Test.YtgdibedgjndcoaaGreatDoorBackD0
import Derived.Test.YtgdibedgjndcoaaGreatDoorSgnP
import Derived.Test.YtgdibedgjndcoaaGreatDoorPlanQ
namespace Go.Proofs.YtgdibedgjndcoaaGreatDoor
open Go.RowKit
set_option linter.unusedSimpArgs false
set_option linter.unusedVariables false
attribute [local go_sem ↓] Go.wp_at_zero Go.wp_at_succ
attribute [local go_sem ↓] eq_nat eq_nat_zero eq_int eq_frac eq_frac_zero
attribute [local go_sem] Instr.field asAgg
set_option maxRecDepth 100000 in
set_option maxHeartbeats 16000000 in
theorem backd_main (bbxn : Bool) (vxn : Value) (kxn : Nat) (fxn : Nat → Nat) (mxn : Nat) (ixn : Int) (vxd : Value) (kxd : Nat) (fxd : Nat → Nat) (mxd : Nat) (a : Rat) (n wy : Int) (k j : Nat) (v : Int) (y : Rat) (s : ByteArray) (w : World) (HWxn : Hid (Wa w vxn kxn fxn)) (HFxn : Hid (∀ i, i < kxn → fxn i < 4294967296)) (HVxn : Hid (vl fxn kxn = mxn)) (HAxn : Hid ((if bbxn then -((mxn : Nat) : Int) else ((mxn : Nat) : Int)) = ixn)) (HWxd : Hid (Wa w vxd kxd fxd)) (HFxd : Hid (∀ i, i < kxd → fxd i < 4294967296)) (HVxd : Hid (vl fxd kxd = mxd)) (HQx : Hid (mkRat ixn (mxd + 1) = a)) (hkxn : kxn ≤ 5) (hkxd : kxd ≤ 5) (hm1 : 0 ≤ n) (hm2 : n ≤ 255) (hn1 : 0 ≤ wy) (hn2 : wy ≤ 255) (HMk : Hid (Int.tmod n 101 = (k : Int))) (hk : k ≤ 100) (HMj : Hid (Int.tmod wy 3 = (j : Int))) (hj : j ≤ 2) (HV : Hid (1 + (j : Int) = v)) (hv1 : 1 ≤ v) (hv2 : v ≤ 3) (HY : Hid (rdd v a k = y)) (hsy : sz y ≤ 30) (HS : Hid (dtx (rnd v (a * (((10 ^ k : Nat) : Int) : Rat))) k = s)) (HPN : Hid (dnum s = y)) (HPC : Hid (dcode s = 0)) (hs1 : s.size ≤ 4000) (h00 : 0 < s.size) (HSGN : Hid ((y < 0 ∧ byt s 0 = 45) ∨ (¬ y < 0 ∧ byt s 0 ≠ 45))) (HK0 : Hid (k = 0 → (y).den = 1 ∧ ftx y = s)) (HKP : Hid (0 < k → k + 1 < s.size ∧ byt s (s.size - k - 1) = 46)) (HT : Hid (Tab w)) :
    Calls Tryz.prog 9 #[.agg #[.bool bbxn, vxn, vxd], .int .u8 (n), .int .u8 (wy)] w fun e w' => e = .returned (.bool true) ∧ Below w.heap.size w w' := by
  obtain ⟨ao_xn, c_xn, rfl⟩ := HWxn.out.slice
  obtain ⟨ao_xd, c_xd, rfl⟩ := HWxd.out.slice
  have hm_xn : wl mxn ≤ 5 := by rw [← HVxn.out]; have := wl_le.2 (vl_lt HFxn.out); omega
  have hm_xd : wl mxd ≤ 5 := by rw [← HVxd.out]; have := wl_le.2 (vl_lt HFxd.out); omega
  have hi_x : wl (Int.natAbs ixn) ≤ 5 := by rw [zsize HAxn.out]; exact hm_xn
  have hs_x : sz a ≤ 6 := by rw [← HQx.out]; exact sz_great hi_x hm_xd
  have hr_x : rz a ≤ 18 := by rw [← HQx.out]; exact rz_great hi_x hm_xd (by decide)
  have hwn : IntKind.i64.wrap n = n := by rw [IntKind.wrap_i64]; omega
  have hwy : IntKind.i64.wrap wy = wy := by rw [IntKind.wrap_i64]; omega
  go_enter Tryz.func9, Tryz.ntmps9
  have HF := Lib.hid (hp0 w)
  refine kS fun K hK => ?_
  refine wp_region_lit ?_
  go_wp2
  refine hK.out _ _ ?_; clear hK K
  show Code.wp _ _ _ _ _
  refine fH ((HF.out).al (b := w.heap.size) (by first | rfl | simp) (by decide)) fun Wx0 HG => ?_
  clear HF; have HF := HG; clear HG
  refine wp_seq ?_
  have hd1 : ¬ (5 < ((kxn : Int))) := ok
  have hd2 : ¬ (5 < ((kxd : Int))) := ok
  have lx0 := HF.out.c 0 rfl
  refine kS fun K hK => ?_
  refine sq 11 [(true, 0), (true, 1), (true, 2), (true, 3), (true, 4), (true, 5), (true, 6), (true, 7), (true, 8), (true, 9), (true, 10)] fun T hT => ?_
  iterate 11 refine tk ?_
  refine nlS hT HF fun vw1 HG => ?_
  clear hT T HF lx0
  go_wp2
  refine hK.out _ _ ?_; clear hK K
  show Code.wp _ _ _ _ _
  have HF := HG; clear HG
  clear hd1 hd2
  refine wp_cond_false (by rfl) ?_
  refine wp_skip ?_
  show Code.wp _ _ _ _ _
  have hrmk_2 : Int.tmod n 101 = (k : Int) := HMk.out
  have hrmj : Int.tmod wy 3 = (j : Int) := HMj.out
  have hwv : IntKind.i64.wrap (1 + (j : Int)) = v := by have e9 := HV.out; rw [IntKind.wrap_i64]; omega
  refine kS fun K hK => ?_
  refine sq 9 [(true, 0), (true, 1), (true, 2), (true, 3), (true, 4), (true, 5), (true, 6), (true, 7), (true, 8)] fun T hT => ?_
  iterate 9 refine tk ?_
  refine nlS hT HF fun vw2 HG => ?_
  clear hT T HF
  go_wp2
  refine hK.out _ _ ?_; clear hK K
  show Code.wp _ _ _ _ _
  have HF := HG; clear HG
  clear hrmk_2 hrmj hwv
  have HB := HPb HF
  have HZ1 : Hid (rdd (v) (a) k = y) := Lib.hid (HY.out)
  have su1 : sz (y) ≤ 30 := by have e := HZ1.out; first | omega | (rw [← e]; exact sz_rdd (by omega) om)
  have lx0 := HF.out.c 0 rfl
  refine kS fun K hK => ?_
  refine sq 8 [(true, 0), (true, 1), (true, 2), (true, 3), (true, 4), (true, 5), (true, 6), (true, 7)] fun T hT => ?_
  refine tk ?_
  refine ck Tryz.call37 (fun w' hw => gof_any bbxn kxn fxn mxn ixn kxd fxd mxd a ao_xn c_xn ao_xd c_xd w' (Lib.hid (HWxn.out.gr (Gr.trans HB.out hw))) HFxn HVxn HAxn (Lib.hid (HWxd.out.gr (Gr.trans HB.out hw))) HFxd HVxd HQx om om om om) ?_
  iterate 2 refine tk ?_
  refine ck Tryz.call36 (fun w' hw => dround (v) (a) k (y) _ HZ1.out (by omega) (by omega) (by omega) om) ?_
  iterate 3 refine tk ?_
  refine nlS hT HF fun vw3 HG => ?_
  clear hT T HF lx0 HB
  go_wp2
  refine hK.out _ _ ?_; clear hK K
  show Code.wp _ _ _ _ _
  refine fH ((HG.out).al (b := vw3.heap.size) (by first | rfl | simp) (by decide)) fun Wx4 HF => ?_
  clear HG
  generalize vw3.heap.size = gx2 at *
  have HB := HPb HF
  have lx0 := HF.out.c 0 rfl
  refine kS fun K hK => ?_
  refine sq 10 [(true, 0), (true, 1), (true, 2), (true, 3), (true, 4), (true, 5), (true, 6), (true, 7), (true, 8), (true, 9)] fun T hT => ?_
  refine tk ?_
  refine ck Tryz.call37 (fun w' hw => gof_any bbxn kxn fxn mxn ixn kxd fxd mxd a ao_xn c_xn ao_xd c_xd w' (Lib.hid (HWxn.out.gr (Gr.trans HB.out hw))) HFxn HVxn HAxn (Lib.hid (HWxd.out.gr (Gr.trans HB.out hw))) HFxd HVxd HQx om om om om) ?_
  iterate 2 refine tk ?_
  refine ck Tryz.call38 (fun w' hw => dtext (v) (a) k s _ (HS.out) (by omega) (by omega) (by omega) om (Lib.hid (HT.out.gr (Gr.trans HB.out hw)))) ?_
  iterate 5 refine tk ?_
  refine nlS hT HF fun vw4 HG => ?_
  clear hT T HF lx0 HB
  go_wp2
  refine hK.out _ _ ?_; clear hK K
  show Code.wp _ _ _ _ _
  refine fH ((HG.out).er 0) fun Wx5 HF => ?_
  clear HG
  refine kS fun K hK => ?_
  refine sq 5 [(true, 0), (true, 1), (true, 2), (true, 3), (true, 4)] fun T hT => ?_
  refine tk ?_
  refine ck Tryz.call43 (fun w' hw => dparse s (y) (0) _ HPN.out HPC.out (by omega)) ?_
  iterate 3 refine tk ?_
  refine nlS hT HF fun vw5 HG => ?_
  clear hT T HF
  go_wp2
  refine hK.out _ _ ?_; clear hK K
  show Code.wp _ _ _ _ _
  refine fH ((HG.out).al (b := vw5.heap.size) (by first | rfl | simp) (by decide)) fun Wx6 HF => ?_
  clear HG
  generalize vw5.heap.size = gx3 at *
  refine wp_seq ?_
  rcases HSGN.out with ⟨hyn, hb0⟩ | ⟨hyn, hb0⟩
  · have HYN := Lib.hid hyn
    have hb : (s[0]'h00).toNat = 45 := by rw [byt_at h00, hb0]
    clear hyn hb0
    have hs0 : ((s.size : Int) == 0) = false := by have h9 : ¬ ((s.size : Int) = 0) := (by omega); simpa using h9
    have lx2 := HF.out.c 0 rfl
    have lx3 := HF.out.c 1 rfl
    refine kS fun K hK => ?_
    refine pd 28 [(true, 0), (true, 1), (true, 2), (true, 3), (true, 4), (true, 5), (true, 6), (true, 7), (true, 8), (true, 9), (true, 10), (true, 11), (true, 12), (true, 13), (true, 14), (true, 15), (true, 16), (true, 17), (true, 18), (true, 19), (true, 20), (true, 21), (true, 22), (true, 23), (true, 24), (true, 25), (true, 26), (true, 27)] fun T hT => ?_
    iterate 25 refine tk ?_
    refine ck Tryz.call48 (fun w' hw => fsign_any (y) (-1) _ (by have e9 : (y) < (0 : Rat) := (by exact HYN.out); exact sgQ_neg e9)) ?_
    iterate 2 refine tk ?_
    refine nlD hT HF fun vw6 HG => ?_
    clear hT T HF lx2 lx3
    go_wp2
    refine hK.out _ _ ?_; clear hK K
    show Code.wp _ _ _ _ _
    refine fH ((HG.out).er 1) fun Wx7 HF => ?_
    clear HG
    clear hs0
    refine wp_cond_false (by rfl) ?_
    refine wp_skip ?_
    show Code.wp _ _ _ _ _
    refine wp_seq ?_
    rcases Nat.eq_zero_or_pos k with hk0 | hk0
    · obtain ⟨hd, ht⟩ := HK0.out hk0
      have HK := Lib.hid hk0
      have HYD := Lib.hid hd
      have HFT := Lib.hid ht
      clear hd ht hk0
      have hkz : ((k : Int) == 0) = true := by have h9 := HK.out; simp [h9]
      refine kS fun K hK => ?_
      refine sq 2 [(true, 0), (true, 1)] fun T hT => ?_
      iterate 2 refine tk ?_
      refine nlS hT HF fun vw7 HG => ?_
      clear hT T HF
      go_wp2
      refine hK.out _ _ ?_; clear hK K
      show Code.wp _ _ _ _ _
      have HF := HG; clear HG
      clear hkz
      refine wp_cond_true (by rfl) ?_
      have HB := HPb HF
      have hd3 : ((s).toList == (s).toList) = true := by simp
      have lx2 := HF.out.c 0 rfl
      refine kS fun K hK => ?_
      refine sq 12 [(true, 0), (true, 1), (true, 2), (true, 3), (true, 4), (true, 5), (true, 6), (true, 7), (true, 8), (true, 9), (true, 10), (true, 11)] fun T hT => ?_
      refine tk ?_
      refine ck Tryz.call49 (fun w' hw => fiswhole_any (y) true _ (decide_eq_true (by exact HYD.out))) ?_
      iterate 3 refine tk ?_
      refine ck Tryz.call50 (fun w' hw => zftextd (y) s _ HFT.out om (Lib.hid (HT.out.gr (Gr.trans HB.out hw)))) ?_
      iterate 3 refine tk ?_
      refine ck Tryz.call35 (fun w' hw => worksd_any _ (Lib.hid (HT.out.gr (Gr.trans HB.out hw)))) ?_
      iterate 2 refine tk ?_
      refine nlS hT HF fun vw8 HG => ?_
      clear hT T HF lx2 HB
      go_wp2
      refine hK.out _ _ ?_; clear hK K
      show Code.wp _ _ _ _ _
      refine fH ((HG.out).er 0) fun Wx10 HF => ?_
      clear HG
      clear hd3
      refine wp_ret ?_
      try simp only [Exit.then, Exit.inBlock]
      exact bodyPost_ret (v := .bool true) (by simp [results, Tryz.results9, go_sem]) rfl ⟨rfl, HF.out.1⟩
    · obtain ⟨h1, h2⟩ := HKP.out hk0
      obtain ⟨e2, he⟩ : ∃ e2, s.size = e2 + 1 + k := ⟨s.size - k - 1, by omega⟩
      have he2 : e2 < s.size := by omega
      have hb2 : (s[e2]'he2).toNat = 46 := by rw [byt_at he2, ← h2]; congr 1; omega
      have HE := Lib.hid he
      have HKB := Lib.hid h1
      have HKP0 := Lib.hid hk0
      clear h1 h2 he hk0
      have hkz : ((k : Int) == 0) = false := by have h9 : ¬ ((k : Int) = 0) := (by have := HKP0.out; omega); simpa using h9
      refine kS fun K hK => ?_
      refine sq 2 [(true, 0), (true, 1)] fun T hT => ?_
      iterate 2 refine tk ?_
      refine nlS hT HF fun vw7 HG => ?_
      clear hT T HF
      go_wp2
      refine hK.out _ _ ?_; clear hK K
      show Code.wp _ _ _ _ _
      have HF := HG; clear HG
      clear hkz
      refine wp_cond_false (by rfl) ?_
      refine wp_skip ?_
      show Code.wp _ _ _ _ _
      have HB := HPb HF
      have hwk : IntKind.i64.wrap ((k : Int) + 1) = (k : Int) + 1 := by rw [IntKind.wrap_i64]; omega
      have hgt : (k : Int) + 1 < (s.size : Int) := by have := HKB.out; omega
      have hw1 : IntKind.i64.wrap ((s.size : Int) - (k : Int)) = (e2 : Int) + 1 := by have := HE.out; rw [IntKind.wrap_i64]; omega
      have hw2 : IntKind.i64.wrap ((e2 : Int) + 1 - 1) = (e2 : Int) := by rw [IntKind.wrap_i64]; omega
      have hw3 : IntKind.i64.wrap (e2 : Int) = (e2 : Int) := by have := HE.out; rw [IntKind.wrap_i64]; omega
      refine kS fun K hK => ?_
      refine sq 19 [(true, 0), (true, 1), (true, 2), (true, 3), (true, 4), (true, 5), (true, 6), (true, 7), (true, 8), (true, 9), (true, 10), (true, 11), (true, 12), (true, 13), (true, 14), (true, 15), (true, 16), (true, 17), (true, 18)] fun T hT => ?_
      iterate 16 refine tk ?_
      refine ck Tryz.call35 (fun w' hw => worksd_any _ (Lib.hid (HT.out.gr (Gr.trans HB.out hw)))) ?_
      iterate 2 refine tk ?_
      refine nlS hT HF fun vw8 HG => ?_
      clear hT T HF HB
      go_wp2
      refine hK.out _ _ ?_; clear hK K
      show Code.wp _ _ _ _ _
      refine fH ((HG.out).er 0) fun Wx11 HF => ?_
      clear HG
      clear hwk hgt hw1 hw2 hw3
      refine wp_ret ?_
      try simp only [Exit.then, Exit.inBlock]
      exact bodyPost_ret (v := .bool true) (by simp [results, Tryz.results9, go_sem]) rfl ⟨rfl, HF.out.1⟩
  · have HYN := Lib.hid hyn
    obtain ⟨y0, hy0⟩ : ∃ y0, (s[0]'h00).toNat = y0 := ⟨_, rfl⟩
    have HN45 : Hid (y0 ≠ 45) := Lib.hid (by rw [← hy0, byt_at h00]; exact hb0)
    clear hyn hb0
    have hs0 : ((s.size : Int) == 0) = false := by have h9 : ¬ ((s.size : Int) = 0) := (by omega); simpa using h9
    have hy45 : ((y0 : Int) == 45) = false := by have h9 : ¬ ((y0 : Int) = 45) := (by have := HN45.out; omega); simpa using h9
    obtain ⟨t2, HT2⟩ : ∃ z, Hid (sgQ (y) = z) := ⟨_, Lib.hid rfl⟩
    have ht2 : 0 ≤ t2 := by rw [← HT2.out]; have e9 := sgQ_nneg HYN.out; omega
    have hd3 : ¬ (t2 < 0) := ok
    have lx2 := HF.out.c 0 rfl
    have lx3 := HF.out.c 1 rfl
    refine kS fun K hK => ?_
    refine pd 28 [(true, 0), (true, 1), (true, 2), (true, 3), (true, 4), (true, 5), (true, 6), (true, 7), (true, 8), (true, 9), (true, 10), (true, 11), (true, 12), (true, 13), (true, 14), (true, 15), (true, 16), (true, 17), (true, 18), (true, 19), (true, 20), (true, 21), (true, 22), (true, 23), (true, 24), (true, 25), (true, 26), (true, 27)] fun T hT => ?_
    iterate 25 refine tk ?_
    refine ck Tryz.call48 (fun w' hw => fsign_any (y) (t2) _ HT2.out) ?_
    iterate 2 refine tk ?_
    refine nlD hT HF fun vw6 HG => ?_
    clear hT T HF lx2 lx3
    go_wp2
    refine hK.out _ _ ?_; clear hK K
    show Code.wp _ _ _ _ _
    refine fH ((HG.out).er 1) fun Wx7 HF => ?_
    clear HG
    clear hs0 hy45 ht2 hd3
    refine wp_cond_false (by rfl) ?_
    refine wp_skip ?_
    show Code.wp _ _ _ _ _
    refine wp_seq ?_
    rcases Nat.eq_zero_or_pos k with hk0 | hk0
    · obtain ⟨hd, ht⟩ := HK0.out hk0
      have HK := Lib.hid hk0
      have HYD := Lib.hid hd
      have HFT := Lib.hid ht
      clear hd ht hk0
      have hkz : ((k : Int) == 0) = true := by have h9 := HK.out; simp [h9]
      refine kS fun K hK => ?_
      refine sq 2 [(true, 0), (true, 1)] fun T hT => ?_
      iterate 2 refine tk ?_
      refine nlS hT HF fun vw7 HG => ?_
      clear hT T HF
      go_wp2
      refine hK.out _ _ ?_; clear hK K
      show Code.wp _ _ _ _ _
      have HF := HG; clear HG
      clear hkz
      refine wp_cond_true (by rfl) ?_
      have HB := HPb HF
      have hd4 : ((s).toList == (s).toList) = true := by simp
      have lx2 := HF.out.c 0 rfl
      refine kS fun K hK => ?_
      refine sq 12 [(true, 0), (true, 1), (true, 2), (true, 3), (true, 4), (true, 5), (true, 6), (true, 7), (true, 8), (true, 9), (true, 10), (true, 11)] fun T hT => ?_
      refine tk ?_
      refine ck Tryz.call49 (fun w' hw => fiswhole_any (y) true _ (decide_eq_true (by exact HYD.out))) ?_
      iterate 3 refine tk ?_
      refine ck Tryz.call50 (fun w' hw => zftextd (y) s _ HFT.out om (Lib.hid (HT.out.gr (Gr.trans HB.out hw)))) ?_
      iterate 3 refine tk ?_
      refine ck Tryz.call35 (fun w' hw => worksd_any _ (Lib.hid (HT.out.gr (Gr.trans HB.out hw)))) ?_
      iterate 2 refine tk ?_
      refine nlS hT HF fun vw8 HG => ?_
      clear hT T HF lx2 HB
      go_wp2
      refine hK.out _ _ ?_; clear hK K
      show Code.wp _ _ _ _ _
      refine fH ((HG.out).er 0) fun Wx10 HF => ?_
      clear HG
      clear hd4
      refine wp_ret ?_
      try simp only [Exit.then, Exit.inBlock]
      exact bodyPost_ret (v := .bool true) (by simp [results, Tryz.results9, go_sem]) rfl ⟨rfl, HF.out.1⟩
    · obtain ⟨h1, h2⟩ := HKP.out hk0
      obtain ⟨e2, he⟩ : ∃ e2, s.size = e2 + 1 + k := ⟨s.size - k - 1, by omega⟩
      have he2 : e2 < s.size := by omega
      have hb2 : (s[e2]'he2).toNat = 46 := by rw [byt_at he2, ← h2]; congr 1; omega
      have HE := Lib.hid he
      have HKB := Lib.hid h1
      have HKP0 := Lib.hid hk0
      clear h1 h2 he hk0
      have hkz : ((k : Int) == 0) = false := by have h9 : ¬ ((k : Int) = 0) := (by have := HKP0.out; omega); simpa using h9
      refine kS fun K hK => ?_
      refine sq 2 [(true, 0), (true, 1)] fun T hT => ?_
      iterate 2 refine tk ?_
      refine nlS hT HF fun vw7 HG => ?_
      clear hT T HF
      go_wp2
      refine hK.out _ _ ?_; clear hK K
      show Code.wp _ _ _ _ _
      have HF := HG; clear HG
      clear hkz
      refine wp_cond_false (by rfl) ?_
      refine wp_skip ?_
      show Code.wp _ _ _ _ _
      have HB := HPb HF
      have hwk : IntKind.i64.wrap ((k : Int) + 1) = (k : Int) + 1 := by rw [IntKind.wrap_i64]; omega
      have hgt : (k : Int) + 1 < (s.size : Int) := by have := HKB.out; omega
      have hw1 : IntKind.i64.wrap ((s.size : Int) - (k : Int)) = (e2 : Int) + 1 := by have := HE.out; rw [IntKind.wrap_i64]; omega
      have hw2 : IntKind.i64.wrap ((e2 : Int) + 1 - 1) = (e2 : Int) := by rw [IntKind.wrap_i64]; omega
      have hw3 : IntKind.i64.wrap (e2 : Int) = (e2 : Int) := by have := HE.out; rw [IntKind.wrap_i64]; omega
      refine kS fun K hK => ?_
      refine sq 19 [(true, 0), (true, 1), (true, 2), (true, 3), (true, 4), (true, 5), (true, 6), (true, 7), (true, 8), (true, 9), (true, 10), (true, 11), (true, 12), (true, 13), (true, 14), (true, 15), (true, 16), (true, 17), (true, 18)] fun T hT => ?_
      iterate 16 refine tk ?_
      refine ck Tryz.call35 (fun w' hw => worksd_any _ (Lib.hid (HT.out.gr (Gr.trans HB.out hw)))) ?_
      iterate 2 refine tk ?_
      refine nlS hT HF fun vw8 HG => ?_
      clear hT T HF HB
      go_wp2
      refine hK.out _ _ ?_; clear hK K
      show Code.wp _ _ _ _ _
      refine fH ((HG.out).er 0) fun Wx11 HF => ?_
      clear HG
      clear hwk hgt hw1 hw2 hw3
      refine wp_ret ?_
      try simp only [Exit.then, Exit.inBlock]
      exact bodyPost_ret (v := .bool true) (by simp [results, Tryz.results9, go_sem]) rfl ⟨rfl, HF.out.1⟩

set_option maxRecDepth 100000 in
set_option maxHeartbeats 8000000 in
theorem backd_big1 (bbxn : Bool) (vxn : Value) (kxn : Nat) (fxn : Nat → Nat) (mxn : Nat) (ixn : Int) (vxd : Value) (kxd : Nat) (fxd : Nat → Nat) (mxd : Nat) (a : Rat) (n : Int) (wy : Int) (w : World) (HWxn : Hid (Wa w vxn kxn fxn)) (HFxn : Hid (∀ i, i < kxn → fxn i < 4294967296)) (HVxn : Hid (vl fxn kxn = mxn)) (HAxn : Hid ((if bbxn then -((mxn : Nat) : Int) else ((mxn : Nat) : Int)) = ixn)) (HWxd : Hid (Wa w vxd kxd fxd)) (HFxd : Hid (∀ i, i < kxd → fxd i < 4294967296)) (HVxd : Hid (vl fxd kxd = mxd)) (HQx : Hid (mkRat ixn (mxd + 1) = a))  (hkxn : 5 < kxn) (HT : Hid (Tab w)) :
    Calls Tryz.prog 9 #[.agg #[.bool bbxn, vxn, vxd], .int .u8 (n), .int .u8 (wy)] w fun e w' => e = .returned (.bool true) ∧ Below w.heap.size w w' := by
  obtain ⟨ao_xn, c_xn, rfl⟩ := HWxn.out.slice
  obtain ⟨ao_xd, c_xd, rfl⟩ := HWxd.out.slice
  go_enter Tryz.func9, Tryz.ntmps9
  have HF := Lib.hid (hp0 w)
  refine kS fun K hK => ?_
  refine wp_region_lit ?_
  go_wp2
  refine hK.out _ _ ?_; clear hK K
  show Code.wp _ _ _ _ _
  refine fH ((HF.out).al (b := w.heap.size) (by first | rfl | simp) (by decide)) fun Wx0 HG => ?_
  clear HF; have HF := HG; clear HG
  refine wp_seq ?_
  have hd1 : 5 < ((kxn : Int)) := ok
  have lx0 := HF.out.c 0 rfl
  refine kS fun K hK => ?_
  refine sq 11 [(true, 0), (true, 1), (true, 2), (true, 3), (true, 4), (true, 5), (true, 6), (true, 7), (true, 8), (true, 9), (true, 10)] fun T hT => ?_
  iterate 6 refine tk ?_
  iterate 4 refine sk ?_
  refine tk ?_
  refine nlS hT HF fun vw1 HG => ?_
  clear hT T HF lx0
  go_wp2
  refine hK.out _ _ ?_; clear hK K
  show Code.wp _ _ _ _ _
  have HF := HG; clear HG
  clear hd1
  refine wp_cond_true (by rfl) ?_
  have HB := HPb HF
  refine kS fun K hK => ?_
  refine sq 2 [(true, 0), (true, 1)] fun T hT => ?_
  refine ck Tryz.call35 (fun w' hw => worksd_any _ (Lib.hid (HT.out.gr (Gr.trans HB.out hw)))) ?_
  refine tk ?_
  refine nlS hT HF fun vw2 HG => ?_
  clear hT T HF HB
  go_wp2
  refine hK.out _ _ ?_; clear hK K
  show Code.wp _ _ _ _ _
  have HF := HG; clear HG
  refine wp_ret ?_
  try simp only [Exit.then, Exit.inBlock]
  exact bodyPost_ret (v := .bool true) (by simp [results, Tryz.results9, go_sem]) rfl ⟨rfl, HF.out.1⟩

set_option maxRecDepth 100000 in
set_option maxHeartbeats 8000000 in
theorem backd_big2 (bbxn : Bool) (vxn : Value) (kxn : Nat) (fxn : Nat → Nat) (mxn : Nat) (ixn : Int) (vxd : Value) (kxd : Nat) (fxd : Nat → Nat) (mxd : Nat) (a : Rat) (n : Int) (wy : Int) (w : World) (HWxn : Hid (Wa w vxn kxn fxn)) (HFxn : Hid (∀ i, i < kxn → fxn i < 4294967296)) (HVxn : Hid (vl fxn kxn = mxn)) (HAxn : Hid ((if bbxn then -((mxn : Nat) : Int) else ((mxn : Nat) : Int)) = ixn)) (HWxd : Hid (Wa w vxd kxd fxd)) (HFxd : Hid (∀ i, i < kxd → fxd i < 4294967296)) (HVxd : Hid (vl fxd kxd = mxd)) (HQx : Hid (mkRat ixn (mxd + 1) = a)) (hkxn : kxn ≤ 5) (hkxd : 5 < kxd) (HT : Hid (Tab w)) :
    Calls Tryz.prog 9 #[.agg #[.bool bbxn, vxn, vxd], .int .u8 (n), .int .u8 (wy)] w fun e w' => e = .returned (.bool true) ∧ Below w.heap.size w w' := by
  obtain ⟨ao_xn, c_xn, rfl⟩ := HWxn.out.slice
  obtain ⟨ao_xd, c_xd, rfl⟩ := HWxd.out.slice
  go_enter Tryz.func9, Tryz.ntmps9
  have HF := Lib.hid (hp0 w)
  refine kS fun K hK => ?_
  refine wp_region_lit ?_
  go_wp2
  refine hK.out _ _ ?_; clear hK K
  show Code.wp _ _ _ _ _
  refine fH ((HF.out).al (b := w.heap.size) (by first | rfl | simp) (by decide)) fun Wx0 HG => ?_
  clear HF; have HF := HG; clear HG
  refine wp_seq ?_
  have hd1 : ¬ (5 < ((kxn : Int))) := ok
  have hd2 : 5 < ((kxd : Int)) := ok
  have lx0 := HF.out.c 0 rfl
  refine kS fun K hK => ?_
  refine sq 11 [(true, 0), (true, 1), (true, 2), (true, 3), (true, 4), (true, 5), (true, 6), (true, 7), (true, 8), (true, 9), (true, 10)] fun T hT => ?_
  iterate 11 refine tk ?_
  refine nlS hT HF fun vw1 HG => ?_
  clear hT T HF lx0
  go_wp2
  refine hK.out _ _ ?_; clear hK K
  show Code.wp _ _ _ _ _
  have HF := HG; clear HG
  clear hd1 hd2
  refine wp_cond_true (by rfl) ?_
  have HB := HPb HF
  refine kS fun K hK => ?_
  refine sq 2 [(true, 0), (true, 1)] fun T hT => ?_
  refine ck Tryz.call35 (fun w' hw => worksd_any _ (Lib.hid (HT.out.gr (Gr.trans HB.out hw)))) ?_
  refine tk ?_
  refine nlS hT HF fun vw2 HG => ?_
  clear hT T HF HB
  go_wp2
  refine hK.out _ _ ?_; clear hK K
  show Code.wp _ _ _ _ _
  have HF := HG; clear HG
  refine wp_ret ?_
  try simp only [Exit.then, Exit.inBlock]
  exact bodyPost_ret (v := .bool true) (by simp [results, Tryz.results9, go_sem]) rfl ⟨rfl, HF.out.1⟩

theorem backd_law (bbxn : Bool) (vxn : Value) (kxn : Nat) (fxn : Nat → Nat) (vxd : Value) (kxd : Nat) (fxd : Nat → Nat) (n wy : Int) (w : World) (HWxn : Hid (Wa w vxn kxn fxn)) (HFxn : Hid (∀ i, i < kxn → fxn i < 4294967296)) (HWxd : Hid (Wa w vxd kxd fxd)) (HFxd : Hid (∀ i, i < kxd → fxd i < 4294967296)) (hm1 : 0 ≤ n) (hm2 : n ≤ 255) (hn1 : 0 ≤ wy) (hn2 : wy ≤ 255) (HT : Hid (Tab w)) :
    Calls Tryz.prog 9 #[.agg #[.bool bbxn, vxn, vxd], .int .u8 n, .int .u8 wy] w fun e w' => e = .returned (.bool true) ∧ Below w.heap.size w w' := by
  obtain ⟨ixn, HAxn⟩ : ∃ z, Hid ((if bbxn then -((vl fxn kxn : Nat) : Int) else ((vl fxn kxn : Nat) : Int)) = z) := ⟨_, Lib.hid rfl⟩
  obtain ⟨a, HQx⟩ : ∃ z, Hid (mkRat ixn (vl fxd kxd + 1) = z) := ⟨_, Lib.hid rfl⟩
  by_cases hkxn : kxn ≤ 5
  · skip
    by_cases hkxd : kxd ≤ 5
    · skip
      have hs : sz a ≤ 6 := by
        rw [← HQx.out]
        have hm1 : wl (vl fxn kxn) ≤ 5 := by have := wl_le.2 (vl_lt HFxn.out); omega
        exact sz_great (by rw [zsize HAxn.out]; exact hm1) (by have := wl_le.2 (vl_lt HFxd.out); omega)
      obtain ⟨k, hk, hk2⟩ := tmod_nat hm1
      obtain ⟨j, hj, hj2⟩ : ∃ j : Nat, Int.tmod wy 3 = (j : Int) ∧ j ≤ 2 := ⟨(wy % 3).toNat, by rw [Int.tmod_eq_emod_of_nonneg hn1]; omega, by omega⟩
      obtain ⟨z, hz⟩ : ∃ z, rnd (1 + (j : Int)) (a * (((10 ^ k : Nat) : Int) : Rat)) = z := ⟨_, rfl⟩
      have hy : rdd (1 + (j : Int)) a k = mkRat z (10 ^ k) := by unfold rdd; rw [hz]
      have hzs : (dtx z k).size ≤ 4000 := by
        refine dtx_small ?_ hk2
        rw [← hz]
        have e1 := wl_rnd (1 + (j : Int)) (a * (((10 ^ k : Nat) : Int) : Rat))
        have e2 := sz_mul a (((10 ^ k : Nat) : Int) : Rat)
        have e3 := sz_tenq (k := k) (by omega)
        omega
      obtain ⟨c1, c2⟩ := parse_dtx z k hzs
      exact backd_main bbxn vxn kxn fxn _ ixn vxd kxd fxd _ a n wy k j _ _ _ w HWxn HFxn (Lib.hid rfl) HAxn HWxd HFxd (Lib.hid rfl) HQx hkxn hkxd hm1 hm2 hn1 hn2 (Lib.hid hk) hk2 (Lib.hid hj) hj2 (Lib.hid rfl) (by omega) (by omega) (Lib.hid rfl) (sz_rdd (by omega) (Nat.le_trans hs (by decide))) (Lib.hid rfl) (Lib.hid (by rw [hz, hy]; exact c2)) (Lib.hid (by rw [hz]; exact c1)) (by rw [hz]; exact hzs) (by rw [hz]; exact (dtx_head z k).1) (Lib.hid (by rw [hz, hy]; exact back_sign z k)) (Lib.hid (fun h => by rw [hz, hy]; subst h; exact back_whole z)) (Lib.hid (fun h => by rw [hz]; exact back_point z k h)) HT
    · exact backd_big2 bbxn vxn kxn fxn _ ixn vxd kxd fxd _ a n wy w HWxn HFxn (Lib.hid rfl) HAxn HWxd HFxd (Lib.hid rfl) HQx  hkxn (by omega) HT
  · exact backd_big1 bbxn vxn kxn fxn _ ixn vxd kxd fxd _ a n wy w HWxn HFxn (Lib.hid rfl) HAxn HWxd HFxd (Lib.hid rfl) HQx   (by omega) HT

end Go.Proofs.YtgdibedgjndcoaaGreatDoor
