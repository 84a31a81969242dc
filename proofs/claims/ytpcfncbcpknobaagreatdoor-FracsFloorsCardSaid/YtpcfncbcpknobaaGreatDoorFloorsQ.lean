
/- FracsFloors: the law's walk. -/
import Derived.Test.YtpcfncbcpknobaaGreatDoorWorksQ
import Derived.Test.YtpcfncbcpknobaaGreatDoorQFew1
import Derived.Test.YtpcfncbcpknobaaGreatDoorFieldP
import Derived.Test.YtpcfncbcpknobaaGreatDoorFPow2
import Derived.Test.YtpcfncbcpknobaaGreatDoorRefK
namespace Go.Proofs.YtpcfncbcpknobaaGreatDoor
open Go.RowKit
set_option linter.unusedSimpArgs false
set_option linter.unusedVariables false
attribute [local go_sem ↓] Go.wp_at_zero Go.wp_at_succ
attribute [local go_sem ↓] eq_nat eq_nat_zero eq_int eq_frac eq_frac_zero
attribute [local go_sem] Instr.field asAgg
theorem fl_facts (a : Rat) (h : ¬ a.den = 1) : ((a.floor : Int) : Rat) < a ∧ ((a.floor : Int) : Rat) + (1 : Rat) = ((a.ceil : Int) : Rat) ∧ a < ((a.ceil : Int) : Rat) ∧ ((a.ceil : Int) : Rat) - (1 : Rat) = ((a.floor : Int) : Rat) ∧ ¬ ((a.floor : Int) : Rat) = a ∧ ¬ ((a.ceil : Int) : Rat) = a := by
  have n1 : ¬ ((a.floor : Int) : Rat) = a := fun e => h (by rw [← e]; rfl)
  have n2 : ¬ ((a.ceil : Int) : Rat) = a := fun e => h (by rw [← e]; rfl)
  have h1 := Rat.floor_le a
  have h3 := @Rat.le_ceil a
  have hc : a.ceil = a.floor + 1 := by
    unfold Rat.ceil Rat.floor
    rw [if_neg h, if_neg h]
  have h2 : ((a.ceil : Int) : Rat) = ((a.floor : Int) : Rat) + 1 := by rw [hc, Rat.intCast_add]; rfl
  exact ⟨Rat.lt_of_le_of_ne h1 n1, h2.symm, Rat.lt_of_le_of_ne h3 (fun e => n2 e.symm), by rw [h2]; exact Rat.add_sub_cancel, n1, n2⟩
theorem fl_whole (a : Rat) (h : a.den = 1) : ((a.floor : Int) : Rat) = a ∧ ((a.ceil : Int) : Rat) = a := by
  have e : ((a.num : Int) : Rat) = a := Rat.ext rfl h.symm
  have e1 : a.floor = a.num := by rw [Rat.floor_def, h]; simp
  have e2 : a.ceil = a.num := by rw [← ceil_neg, Rat.floor_def, Rat.neg_den, h, Rat.neg_num]; simp
  rw [e1, e2]; exact ⟨e, e⟩
theorem big_ne {a : Rat} (h : 64 < nb (Int.natAbs (a.num)) ∨ 64 < nb (a.den)) : a ≠ 0 := fun e => by
  subst e
  rcases h with h | h <;> exact absurd h (by decide +kernel)
theorem sz_fl (a : Rat) {k : Nat} (h : sz a ≤ k) : sz (((a.floor : Int) : Rat)) ≤ k + 1 ∧ sz (((a.ceil : Int) : Rat)) ≤ k + 1 := by
  have h1 := wl_floor a
  have h2 := wl_ceil a
  rw [sz_int, sz_int]
  omega

set_option maxRecDepth 100000 in
set_option maxHeartbeats 8000000 in
theorem floorq_wb (bbxn : Bool) (vxn : Value) (kxn : Nat) (fxn : Nat → Nat) (mxn : Nat) (ixn : Int) (vxd : Value) (kxd : Nat) (fxd : Nat → Nat) (mxd : Nat) (a : Rat) (f c : Int) (p1 p2 : Nat) (mb : Int) (w : World) (HWxn : Hid (Wa w vxn kxn fxn)) (HFxn : Hid (∀ i, i < kxn → fxn i < 4294967296)) (HVxn : Hid (vl fxn kxn = mxn)) (HAxn : Hid ((if bbxn then -((mxn : Nat) : Int) else ((mxn : Nat) : Int)) = ixn)) (HWxd : Hid (Wa w vxd kxd fxd)) (HFxd : Hid (∀ i, i < kxd → fxd i < 4294967296)) (HVxd : Hid (vl fxd kxd = mxd)) (HQx : Hid (mkRat ixn (mxd + 1) = a)) (hkxn : kxn ≤ 10) (hkxd : kxd ≤ 10) (HFL : Hid ((a).floor = f)) (HCE : Hid ((a).ceil = c)) (HLO : Hid (((f : Int) : Rat) = a)) (HHI : Hid (((c : Int) : Rat) = a)) (HP1 : Hid (nb (Int.natAbs ((a).num)) = p1)) (HP2 : Hid (nb ((a).den) = p2)) (HMB : Hid (max ((p1 : Nat) : Int) ((p2 : Nat) : Int) = mb)) (HW : Hid ((a).den = 1)) (hmb : 64 < mb) (HBG : Hid (64 < p1 ∨ 64 < p2)) (HA0 : Hid (a ≠ 0))  (HT : Hid (Tab w)) :
    Calls Tryz.prog 7 #[.agg #[.bool bbxn, vxn, vxd]] w fun e w' => e = .returned (.bool true) ∧ Below w.heap.size w w' := by
  obtain ⟨ao_xn, c_xn, rfl⟩ := HWxn.out.slice
  obtain ⟨ao_xd, c_xd, rfl⟩ := HWxd.out.slice
  have hm_xn : wl mxn ≤ 10 := by rw [← HVxn.out]; have := wl_le.2 (vl_lt HFxn.out); omega
  have hm_xd : wl mxd ≤ 10 := by rw [← HVxd.out]; have := wl_le.2 (vl_lt HFxd.out); omega
  have hi_x : wl (Int.natAbs ixn) ≤ 10 := by rw [zsize HAxn.out]; exact hm_xn
  have hs_x : sz a ≤ 11 := by rw [← HQx.out]; exact sz_great hi_x hm_xd
  have hr_x : rz a ≤ 33 := by rw [← HQx.out]; exact rz_great hi_x hm_xd (by decide)
  have hmx := HMB.out
  have hrn_ : tw (Int.natAbs ((a).num)) ≤ 33 := Nat.le_trans (rz_num a) hr_x
  go_enter Tryz.func7, Tryz.ntmps7
  have HF := Lib.hid (hp0 w)
  refine kS fun K hK => ?_
  refine wp_region_lit ?_
  go_wp2
  refine hK.out _ _ ?_; clear hK K
  show Code.wp _ _ _ _ _
  refine fH ((HF.out).al (b := w.heap.size) (by first | rfl | simp) (by decide)) fun Wx0 HG => ?_
  clear HF; have HF := HG; clear HG
  refine wp_seq ?_
  have lx0 := HF.out.c 0 rfl
  refine kS fun K hK => ?_
  have HG0 : Hid (Gr Wx0 Wx0) := Lib.hid (Gr.refl _)
  refine sq 4 [(true, 0), (false, 1), (true, 2), (true, 3)] fun T hT => ?_
  refine tk ?_
  refine wpPlan_slice (cs := #[.bool (bbxn), (.slice ao_xn kxn c_xn), (.slice ao_xd kxd c_xd)]) (E := 88) (n := 1) rfl (by rfl) (fun w' hw => ?_) (fun gx2 vv2 hg0 yx2 bx2 => ?_)
  · go_simp
  clear yx2
  replace HG0 := Lib.hid (HG0.out.trans hg0)
  have HGS := Lib.hid hg0; clear hg0
  clear HGS
  have BX2 := Lib.hid bx2; clear bx2
  clear lx0; have lx0 := fun w' (h : Gr _ w') => HF.out.c 0 rfl w' (HG0.out.trans h)
  simp only [Act.put, lA, lB, lC]
  refine ck Tryz.call53 (fun w' hw => qfew1_ok _ _ _ _ _ _ _ 10 gx2 _ (BX2.out.gr hw) (by omega) (by omega)) ?_
  refine tk ?_
  refine wpPlan_nil (hT.out _ _ ?_)
  intro vw1 hg
  simp only [puts, Act.put, lA, lB, lC, lD, lE, ↓reduceIte, Nat.reduceEqDiff]
  have HG := Lib.hid (HF.out.gr (HG0.out.trans hg))
  clear hT T HF hg HG0 BX2 lx0
  go_wp2
  refine hK.out _ _ ?_; clear hK K
  show Code.wp _ _ _ _ _
  have HF := HG; clear HG
  refine wp_cond_false (by rfl) ?_
  refine wp_skip ?_
  show Code.wp _ _ _ _ _
  have HB := HPb HF
  have lx0 := HF.out.c 0 rfl
  refine kS fun K hK => ?_
  refine sq 2 [(true, 0), (true, 1)] fun T hT => ?_
  refine tk ?_
  refine ck Tryz.call54 (fun w' hw => gof_any bbxn kxn fxn mxn ixn kxd fxd mxd a ao_xn c_xn ao_xd c_xd w' (Lib.hid (HWxn.out.gr (Gr.trans HB.out hw))) HFxn HVxn HAxn (Lib.hid (HWxd.out.gr (Gr.trans HB.out hw))) HFxd HVxd HQx om om om om) ?_
  refine nlS hT HF fun vw2 HG => ?_
  clear hT T HF lx0 HB
  go_wp2
  refine hK.out _ _ ?_; clear hK K
  show Code.wp _ _ _ _ _
  refine fH ((HG.out).al (b := vw2.heap.size) (by first | rfl | simp) (by decide)) fun Wx3 HF => ?_
  clear HG
  generalize vw2.heap.size = gx3 at *
  have HZ1 : Hid ((a).floor = f) := Lib.hid (HFL.out)
  have su1 : wl (Int.natAbs (f)) ≤ 12 := by have e := HZ1.out; first | omega | (rw [← e]; have := wl_floor (a); omega)
  have su_0_4 : wl 1 ≤ 1 := wl_le.2 (by decide +kernel)
  have HZ2 : Hid (mkRat (f) (1) = a) := Lib.hid (by rw [mk_one]; exact HLO.out)
  have su2 : sz (a) ≤ 12 := by have e := HZ2.out; first | omega | (rw [← e]; exact sz_mkRat (k := 12) om om (by decide))
  have lx3 := HF.out.c 1 rfl
  refine kS fun K hK => ?_
  refine sq 7 [(true, 0), (true, 1), (true, 2), (true, 3), (true, 4), (true, 5), (true, 6)] fun T hT => ?_
  refine tk ?_
  refine ck Tryz.call56 (fun w' hw => ffloor_any (a) (f) _ (Lib.hid HZ1.out) om) ?_
  refine ck Tryz.call57 (fun w' hw => nzof 1 _ (by decide)) ?_
  refine ck Tryz.call55 (fun w' hw => ffrom_ok (f) (1) (a) _ (Lib.hid HZ2.out) (by first | exact ok | exact HW.out) om om) ?_
  iterate 3 refine tk ?_
  refine nlS hT HF fun vw3 HG => ?_
  clear hT T HF lx3
  go_wp2
  refine hK.out _ _ ?_; clear hK K
  show Code.wp _ _ _ _ _
  refine fH ((HG.out).al (b := vw3.heap.size) (by first | rfl | simp) (by decide)) fun Wx4 HF => ?_
  clear HG
  generalize vw3.heap.size = gx4 at *
  have HZ3 : Hid ((a).ceil = c) := Lib.hid (HCE.out)
  have su3 : wl (Int.natAbs (c)) ≤ 12 := by have e := HZ3.out; first | omega | (rw [← e]; have := wl_ceil (a); omega)
  have su_1_5 : wl 1 ≤ 1 := wl_le.2 (by decide +kernel)
  have HZ4 : Hid (mkRat (c) (1) = a) := Lib.hid (by rw [mk_one]; exact HHI.out)
  have su4 : sz (a) ≤ 12 := by have e := HZ4.out; first | omega | (rw [← e]; exact sz_mkRat (k := 12) om om (by decide))
  have lx3 := HF.out.c 1 rfl
  refine kS fun K hK => ?_
  refine sq 7 [(true, 0), (true, 1), (true, 2), (true, 3), (true, 4), (true, 5), (true, 6)] fun T hT => ?_
  refine tk ?_
  refine ck Tryz.call58 (fun w' hw => fceil_any (a) (c) _ (Lib.hid HZ3.out) om) ?_
  refine ck Tryz.call57 (fun w' hw => nzof 1 _ (by decide)) ?_
  refine ck Tryz.call55 (fun w' hw => ffrom_ok (c) (1) (a) _ (Lib.hid HZ4.out) (by first | exact ok | exact HW.out) om om) ?_
  iterate 3 refine tk ?_
  refine nlS hT HF fun vw4 HG => ?_
  clear hT T HF lx3
  go_wp2
  refine hK.out _ _ ?_; clear hK K
  show Code.wp _ _ _ _ _
  refine fH ((HG.out).al (b := vw4.heap.size) (by first | rfl | simp) (by decide)) fun Wx5 HF => ?_
  clear HG
  generalize vw4.heap.size = gx5 at *
  have lx3 := HF.out.c 1 rfl
  refine kS fun K hK => ?_
  refine sq 3 [(true, 0), (true, 1), (true, 2)] fun T hT => ?_
  refine tk ?_
  refine ck Tryz.call59 (fun w' hw => fiswhole_any (a) true _ (decide_eq_true (by first | exact ok | exact HW.out))) ?_
  refine tk ?_
  refine nlS hT HF fun vw5 HG => ?_
  clear hT T HF lx3
  go_wp2
  refine hK.out _ _ ?_; clear hK K
  show Code.wp _ _ _ _ _
  have HF := HG; clear HG
  have HB := HPb HF
  have lx0 := HF.out.c 0 rfl
  refine kS fun K hK => ?_
  have HG0 : Hid (Gr vw5 vw5) := Lib.hid (Gr.refl _)
  refine sq 2 [(true, 0), (false, 1)] fun T hT => ?_
  refine tk ?_
  refine wpPlan_callE rfl (by rfl) Tryz.call60 (by rfl) (fun w' hw => ((gref_any bbxn kxn fxn mxn ixn kxd fxd mxd a ao_xn c_xn ao_xd c_xd w' (Lib.hid (HWxn.out.gr (Gr.trans HB.out hw))) HFxn HVxn HAxn (Lib.hid (HWxd.out.gr (Gr.trans HB.out hw))) HFxd HVxd HQx om om om om)).mono ?_)
  rintro e vv6 ⟨⟨rv1, rv2, rfl, bx6, bx7⟩, hg0⟩
  obtain ⟨ao1, nn1, cc1, rfl⟩ := Rn.sl bx6
  obtain ⟨ao2, nn2, cc2, rfl⟩ := Rn.sl bx7
  refine ⟨_, rfl, hg0, ?_⟩
  replace hg0 := Gr.trans hw hg0; clear hw
  replace HG0 := Lib.hid (HG0.out.trans hg0)
  have HGS := Lib.hid hg0; clear hg0
  replace HB := Lib.hid (HB.out.trans (HGS.out.mono HB.out.size))
  clear HGS
  have RN6 := Lib.hid bx6; clear bx6
  have RN7 := Lib.hid bx7; clear bx7
  clear lx0; have lx0 := fun w' (h : Gr _ w') => HF.out.c 0 rfl w' (HG0.out.trans h)
  simp only [Act.put, lA, lB, lC]
  refine wpPlan_nil (hT.out _ _ ?_)
  intro vw6 hg
  simp only [puts, Act.put, lA, lB, lC, lD, lE, ↓reduceIte, Nat.reduceEqDiff]
  have HG := Lib.hid (((HF.out.gr (HG0.out.trans hg)).ar (RN6.out.gr hg)).ar (RN7.out.gr hg))
  simp only [List.zip_cons_cons, List.zip_nil_right, List.map_cons, List.map_nil, lF, lG] at HG
  clear hT T HF hg HG0 RN6 RN7 lx0 HB
  go_wp2
  refine hK.out _ _ ?_; clear hK K
  show Code.wp _ _ _ _ _
  refine fH (((HG.out).al (b := vw6.heap.size) (by first | rfl | simp) (by decide)).er 0) fun Wx7 HF => ?_
  clear HG
  generalize vw6.heap.size = gx8 at *
  refine wp_seq ?_
  have HZ5 : Hid ((a).den = (a).den) := Lib.hid (rfl)
  have su5 : tw ((a).den) ≤ 33 := by exact Nat.le_trans (rz_den _) (by omega)
  have lx8 := HF.out.c 5 rfl
  refine kS fun K hK => ?_
  have HG0 : Hid (Gr Wx7 Wx7) := Lib.hid (Gr.refl _)
  refine pd 8 [(true, 0), (true, 1), (true, 2), (true, 4), (true, 3), (false, 5), (true, 6), (true, 7)] fun T hT => ?_
  iterate 4 refine tk ?_
  refine ck Tryz.call61 (fun w' hw => zrbits _ (Int.natAbs ((a).num)) p1 _ HP1.out (HF.out.r 3 rfl (HG0.out.trans hw)) (by omega)) ?_
  refine wpPlan_callE rfl (by rfl) Tryz.call62 (by rfl) (fun w' hw => (qDen_any (a) ((a).den) _ _ _ HZ5.out (by omega) (HF.out.r 3 rfl (HG0.out.trans hw)) (HF.out.r 4 rfl (HG0.out.trans hw))).mono ?_)
  rintro e vv9 ⟨⟨rv3, rfl, bx9⟩, hg0⟩
  obtain ⟨ao3, nn3, cc3, rfl⟩ := Rn.sl bx9
  refine ⟨_, rfl, hg0, ?_⟩
  replace hg0 := Gr.trans hw hg0; clear hw
  replace HG0 := Lib.hid (HG0.out.trans hg0)
  have HGS := Lib.hid hg0; clear hg0
  clear HGS
  have RN9 := Lib.hid bx9; clear bx9
  clear lx8; have lx8 := fun w' (h : Gr _ w') => HF.out.c 5 rfl w' (HG0.out.trans h)
  simp only [Act.put, lA, lB, lC]
  refine ck Tryz.call61 (fun w' hw => zrbits _ ((a).den) p2 _ HP2.out (RN9.out.gr hw) (by omega)) ?_
  refine tk ?_
  refine wpPlan_nil (hT.out _ _ ?_)
  intro G vw7 hg hf
  simp only [puts, Act.put, lA, lB, lC, lD, lE, ↓reduceIte, Nat.reduceEqDiff]
  have HG := Lib.hid ((HF.out.gr (HG0.out.trans hg)).ar (RN9.out.gr hg))
  simp only [List.zip_cons_cons, List.zip_nil_right, List.map_cons, List.map_nil, lF, lG] at HG
  clear hT T HF hg hf HG0 RN9 lx8
  have hd1 : 64 < mb := by first | exact ok | exact HW.out
  go_wp2
  refine hK.out _ _ ?_; clear hK K
  show Code.wp _ _ _ _ _
  refine fH (((((HG.out).er 6).er 5).er 4).er 3) fun Wx8 HF => ?_
  clear HG
  clear hd1
  refine wp_cond_true (by rfl) ?_
  have lx3 := HF.out.c 0 rfl
  refine kS fun K hK => ?_
  refine sq 5 [(true, 0), (true, 1), (true, 2), (true, 3), (true, 4)] fun T hT => ?_
  refine tk ?_
  refine ck Tryz.call63 (fun w' hw => fpow_lim (a) 4096 _ (by omega) (by have e0 := HBG.out; rw [HP1.out, HP2.out]; omega) om) ?_
  iterate 3 refine tk ?_
  refine nlS hT HF fun vw8 HG => ?_
  clear hT T HF lx3
  go_wp2
  refine hK.out _ _ ?_; clear hK K
  show Code.wp _ _ _ _ _
  refine fH ((HG.out).al (b := vw8.heap.size) (by first | rfl | simp) (by decide)) fun Wx9 HF => ?_
  clear HG
  generalize vw8.heap.size = gx10 at *
  have lx3 := HF.out.c 0 rfl
  refine kS fun K hK => ?_
  refine sq 5 [(true, 0), (true, 1), (true, 2), (true, 3), (true, 4)] fun T hT => ?_
  refine tk ?_
  refine ck Tryz.call63 (fun w' hw => fpow_neglim (a) 4096 _ (by omega) (by omega) (by exact HA0.out) (by have e0 := HBG.out; rw [HP1.out, HP2.out]; omega) om) ?_
  iterate 3 refine tk ?_
  refine nlS hT HF fun vw9 HG => ?_
  clear hT T HF lx3
  go_wp2
  refine hK.out _ _ ?_; clear hK K
  show Code.wp _ _ _ _ _
  refine fH ((HG.out).al (b := vw9.heap.size) (by first | rfl | simp) (by decide)) fun Wx10 HF => ?_
  clear HG
  generalize vw9.heap.size = gx11 at *
  have lx10 := HF.out.c 3 rfl
  have lx11 := HF.out.c 4 rfl
  refine kS fun K hK => ?_
  refine sq 16 [(true, 0), (true, 1), (true, 2), (true, 3), (true, 4), (true, 5), (true, 6), (true, 7), (true, 8), (true, 9), (true, 10), (true, 11), (true, 12), (true, 13), (true, 14), (true, 15)] fun T hT => ?_
  iterate 16 refine tk ?_
  refine nlS hT HF fun vw10 HG => ?_
  clear hT T HF lx10 lx11
  go_wp2
  refine hK.out _ _ ?_; clear hK K
  show Code.wp _ _ _ _ _
  refine fH (((HG.out).er 4).er 3) fun Wx11 HF => ?_
  clear HG
  refine wp_cond_false (by rfl) ?_
  refine wp_skip ?_
  show Code.wp _ _ _ _ _
  have HB := HPb HF
  have HZ6 : Hid (((1 : Int) : Rat) = (1 : Rat)) := Lib.hid (by decide +kernel)
  have su6 : sz ((1 : Rat)) ≤ 2 := sz_of (wl_le.2 (by decide +kernel)) (wl_le.2 (by decide +kernel))
  obtain ⟨u7, HZ7⟩ : ∃ z, Hid ((a) + (1 : Rat) = z) := ⟨_, Lib.hid rfl⟩
  have su7 : sz (u7) ≤ 15 := by rw [← HZ7.out]; have := sz_add (a) (1 : Rat); omega
  have HZ8 : Hid (((1 : Int) : Rat) = (1 : Rat)) := Lib.hid (by decide +kernel)
  have su8 : sz ((1 : Rat)) ≤ 2 := sz_of (wl_le.2 (by decide +kernel)) (wl_le.2 (by decide +kernel))
  obtain ⟨u9, HZ9⟩ : ∃ z, Hid ((a) - (1 : Rat) = z) := ⟨_, Lib.hid rfl⟩
  have su9 : sz (u9) ≤ 15 := by rw [← HZ9.out]; have := sz_sub (a) (1 : Rat); omega
  have lx3 := HF.out.c 0 rfl
  have lx4 := HF.out.c 1 rfl
  have lx5 := HF.out.c 2 rfl
  refine kS fun K hK => ?_
  refine pd 43 [(true, 0), (true, 1), (true, 2), (true, 3), (true, 4), (true, 5), (true, 8), (true, 6), (true, 7), (true, 9), (true, 10), (true, 11), (true, 12), (true, 13), (true, 14), (true, 15), (true, 16), (true, 17), (true, 18), (true, 19), (true, 22), (true, 20), (true, 21), (true, 23), (true, 24), (true, 25), (true, 26), (true, 27), (true, 28), (true, 29), (true, 30), (true, 31), (true, 32), (true, 33), (true, 34), (true, 35), (true, 36), (true, 37), (true, 38), (true, 39), (true, 40), (true, 41), (true, 42)] fun T hT => ?_
  iterate 2 refine tk ?_
  refine ck Tryz.call64 (fun w' hw => fcmp_any (a) (a) (0) _ (by have e9 : (a) - (a) = (0 : Rat) := (by exact Rat.sub_self); exact sgQ_zero' e9) om om) ?_
  iterate 4 refine tk ?_
  refine ck Tryz.call66 (fun w' hw => fint_any (1) (1 : Rat) _ HZ6.out om om) ?_
  refine ck Tryz.call65 (fun w' hw => fadd_any (a) (1 : Rat) (u7) _ HZ7.out om om) ?_
  refine ck Tryz.call64 (fun w' hw => fcmp_any (u7) (a) (1) _ (by have e9 : (0 : Rat) < (u7) - (a) := (by simp only [← HZ7.out]; exact rsub_pos (by grind)); exact sgQ_pos e9) om om) ?_
  iterate 5 refine tk ?_
  refine ck Tryz.call64 (fun w' hw => fcmp_any (a) (a) (0) _ (by have e9 : (a) - (a) = (0 : Rat) := (by exact Rat.sub_self); exact sgQ_zero' e9) om om) ?_
  iterate 5 refine tk ?_
  refine ck Tryz.call66 (fun w' hw => fint_any (1) (1 : Rat) _ HZ8.out om om) ?_
  refine ck Tryz.call67 (fun w' hw => fsub_any (a) (1 : Rat) (u9) _ HZ9.out om om) ?_
  refine ck Tryz.call64 (fun w' hw => fcmp_any (u9) (a) (-1) _ (by have e9 : (u9) - (a) < (0 : Rat) := (by simp only [← HZ9.out, ← HZ7.out]; exact rsub_neg (by grind)); exact sgQ_neg e9) om om) ?_
  iterate 17 refine tk ?_
  refine ck Tryz.call49 (fun w' hw => worksq_any _ (Lib.hid (HT.out.gr (Gr.trans HB.out hw)))) ?_
  refine tk ?_
  refine nlD hT HF fun vw11 HG => ?_
  clear hT T HF lx3 lx4 lx5 HB
  go_wp2
  refine hK.out _ _ ?_; clear hK K
  show Code.wp _ _ _ _ _
  refine fH ((((HG.out).er 2).er 1).er 0) fun Wx13 HF => ?_
  clear HG
  refine wp_ret ?_
  try simp only [Exit.then, Exit.inBlock]
  exact bodyPost_ret (v := .bool true) (by simp [results, Tryz.results7, go_sem]) rfl ⟨rfl, HF.out.1⟩

set_option maxRecDepth 100000 in
set_option maxHeartbeats 8000000 in
theorem floorq_ws (bbxn : Bool) (vxn : Value) (kxn : Nat) (fxn : Nat → Nat) (mxn : Nat) (ixn : Int) (vxd : Value) (kxd : Nat) (fxd : Nat → Nat) (mxd : Nat) (a : Rat) (f c : Int) (p1 p2 : Nat) (mb : Int) (w : World) (HWxn : Hid (Wa w vxn kxn fxn)) (HFxn : Hid (∀ i, i < kxn → fxn i < 4294967296)) (HVxn : Hid (vl fxn kxn = mxn)) (HAxn : Hid ((if bbxn then -((mxn : Nat) : Int) else ((mxn : Nat) : Int)) = ixn)) (HWxd : Hid (Wa w vxd kxd fxd)) (HFxd : Hid (∀ i, i < kxd → fxd i < 4294967296)) (HVxd : Hid (vl fxd kxd = mxd)) (HQx : Hid (mkRat ixn (mxd + 1) = a)) (hkxn : kxn ≤ 10) (hkxd : kxd ≤ 10) (HFL : Hid ((a).floor = f)) (HCE : Hid ((a).ceil = c)) (HLO : Hid (((f : Int) : Rat) = a)) (HHI : Hid (((c : Int) : Rat) = a)) (HP1 : Hid (nb (Int.natAbs ((a).num)) = p1)) (HP2 : Hid (nb ((a).den) = p2)) (HMB : Hid (max ((p1 : Nat) : Int) ((p2 : Nat) : Int) = mb)) (HW : Hid ((a).den = 1)) (hmb : ¬ 64 < mb)  (HT : Hid (Tab w)) :
    Calls Tryz.prog 7 #[.agg #[.bool bbxn, vxn, vxd]] w fun e w' => e = .returned (.bool true) ∧ Below w.heap.size w w' := by
  obtain ⟨ao_xn, c_xn, rfl⟩ := HWxn.out.slice
  obtain ⟨ao_xd, c_xd, rfl⟩ := HWxd.out.slice
  have hm_xn : wl mxn ≤ 10 := by rw [← HVxn.out]; have := wl_le.2 (vl_lt HFxn.out); omega
  have hm_xd : wl mxd ≤ 10 := by rw [← HVxd.out]; have := wl_le.2 (vl_lt HFxd.out); omega
  have hi_x : wl (Int.natAbs ixn) ≤ 10 := by rw [zsize HAxn.out]; exact hm_xn
  have hs_x : sz a ≤ 11 := by rw [← HQx.out]; exact sz_great hi_x hm_xd
  have hr_x : rz a ≤ 33 := by rw [← HQx.out]; exact rz_great hi_x hm_xd (by decide)
  have hmx := HMB.out
  have hrn_ : tw (Int.natAbs ((a).num)) ≤ 33 := Nat.le_trans (rz_num a) hr_x
  go_enter Tryz.func7, Tryz.ntmps7
  have HF := Lib.hid (hp0 w)
  refine kS fun K hK => ?_
  refine wp_region_lit ?_
  go_wp2
  refine hK.out _ _ ?_; clear hK K
  show Code.wp _ _ _ _ _
  refine fH ((HF.out).al (b := w.heap.size) (by first | rfl | simp) (by decide)) fun Wx0 HG => ?_
  clear HF; have HF := HG; clear HG
  refine wp_seq ?_
  have lx0 := HF.out.c 0 rfl
  refine kS fun K hK => ?_
  have HG0 : Hid (Gr Wx0 Wx0) := Lib.hid (Gr.refl _)
  refine sq 4 [(true, 0), (false, 1), (true, 2), (true, 3)] fun T hT => ?_
  refine tk ?_
  refine wpPlan_slice (cs := #[.bool (bbxn), (.slice ao_xn kxn c_xn), (.slice ao_xd kxd c_xd)]) (E := 88) (n := 1) rfl (by rfl) (fun w' hw => ?_) (fun gx2 vv2 hg0 yx2 bx2 => ?_)
  · go_simp
  clear yx2
  replace HG0 := Lib.hid (HG0.out.trans hg0)
  have HGS := Lib.hid hg0; clear hg0
  clear HGS
  have BX2 := Lib.hid bx2; clear bx2
  clear lx0; have lx0 := fun w' (h : Gr _ w') => HF.out.c 0 rfl w' (HG0.out.trans h)
  simp only [Act.put, lA, lB, lC]
  refine ck Tryz.call53 (fun w' hw => qfew1_ok _ _ _ _ _ _ _ 10 gx2 _ (BX2.out.gr hw) (by omega) (by omega)) ?_
  refine tk ?_
  refine wpPlan_nil (hT.out _ _ ?_)
  intro vw1 hg
  simp only [puts, Act.put, lA, lB, lC, lD, lE, ↓reduceIte, Nat.reduceEqDiff]
  have HG := Lib.hid (HF.out.gr (HG0.out.trans hg))
  clear hT T HF hg HG0 BX2 lx0
  go_wp2
  refine hK.out _ _ ?_; clear hK K
  show Code.wp _ _ _ _ _
  have HF := HG; clear HG
  refine wp_cond_false (by rfl) ?_
  refine wp_skip ?_
  show Code.wp _ _ _ _ _
  have HB := HPb HF
  have lx0 := HF.out.c 0 rfl
  refine kS fun K hK => ?_
  refine sq 2 [(true, 0), (true, 1)] fun T hT => ?_
  refine tk ?_
  refine ck Tryz.call54 (fun w' hw => gof_any bbxn kxn fxn mxn ixn kxd fxd mxd a ao_xn c_xn ao_xd c_xd w' (Lib.hid (HWxn.out.gr (Gr.trans HB.out hw))) HFxn HVxn HAxn (Lib.hid (HWxd.out.gr (Gr.trans HB.out hw))) HFxd HVxd HQx om om om om) ?_
  refine nlS hT HF fun vw2 HG => ?_
  clear hT T HF lx0 HB
  go_wp2
  refine hK.out _ _ ?_; clear hK K
  show Code.wp _ _ _ _ _
  refine fH ((HG.out).al (b := vw2.heap.size) (by first | rfl | simp) (by decide)) fun Wx3 HF => ?_
  clear HG
  generalize vw2.heap.size = gx3 at *
  have HZ1 : Hid ((a).floor = f) := Lib.hid (HFL.out)
  have su1 : wl (Int.natAbs (f)) ≤ 12 := by have e := HZ1.out; first | omega | (rw [← e]; have := wl_floor (a); omega)
  have su_0_4 : wl 1 ≤ 1 := wl_le.2 (by decide +kernel)
  have HZ2 : Hid (mkRat (f) (1) = a) := Lib.hid (by rw [mk_one]; exact HLO.out)
  have su2 : sz (a) ≤ 12 := by have e := HZ2.out; first | omega | (rw [← e]; exact sz_mkRat (k := 12) om om (by decide))
  have lx3 := HF.out.c 1 rfl
  refine kS fun K hK => ?_
  refine sq 7 [(true, 0), (true, 1), (true, 2), (true, 3), (true, 4), (true, 5), (true, 6)] fun T hT => ?_
  refine tk ?_
  refine ck Tryz.call56 (fun w' hw => ffloor_any (a) (f) _ (Lib.hid HZ1.out) om) ?_
  refine ck Tryz.call57 (fun w' hw => nzof 1 _ (by decide)) ?_
  refine ck Tryz.call55 (fun w' hw => ffrom_ok (f) (1) (a) _ (Lib.hid HZ2.out) (by first | exact ok | exact HW.out) om om) ?_
  iterate 3 refine tk ?_
  refine nlS hT HF fun vw3 HG => ?_
  clear hT T HF lx3
  go_wp2
  refine hK.out _ _ ?_; clear hK K
  show Code.wp _ _ _ _ _
  refine fH ((HG.out).al (b := vw3.heap.size) (by first | rfl | simp) (by decide)) fun Wx4 HF => ?_
  clear HG
  generalize vw3.heap.size = gx4 at *
  have HZ3 : Hid ((a).ceil = c) := Lib.hid (HCE.out)
  have su3 : wl (Int.natAbs (c)) ≤ 12 := by have e := HZ3.out; first | omega | (rw [← e]; have := wl_ceil (a); omega)
  have su_1_5 : wl 1 ≤ 1 := wl_le.2 (by decide +kernel)
  have HZ4 : Hid (mkRat (c) (1) = a) := Lib.hid (by rw [mk_one]; exact HHI.out)
  have su4 : sz (a) ≤ 12 := by have e := HZ4.out; first | omega | (rw [← e]; exact sz_mkRat (k := 12) om om (by decide))
  have lx3 := HF.out.c 1 rfl
  refine kS fun K hK => ?_
  refine sq 7 [(true, 0), (true, 1), (true, 2), (true, 3), (true, 4), (true, 5), (true, 6)] fun T hT => ?_
  refine tk ?_
  refine ck Tryz.call58 (fun w' hw => fceil_any (a) (c) _ (Lib.hid HZ3.out) om) ?_
  refine ck Tryz.call57 (fun w' hw => nzof 1 _ (by decide)) ?_
  refine ck Tryz.call55 (fun w' hw => ffrom_ok (c) (1) (a) _ (Lib.hid HZ4.out) (by first | exact ok | exact HW.out) om om) ?_
  iterate 3 refine tk ?_
  refine nlS hT HF fun vw4 HG => ?_
  clear hT T HF lx3
  go_wp2
  refine hK.out _ _ ?_; clear hK K
  show Code.wp _ _ _ _ _
  refine fH ((HG.out).al (b := vw4.heap.size) (by first | rfl | simp) (by decide)) fun Wx5 HF => ?_
  clear HG
  generalize vw4.heap.size = gx5 at *
  have lx3 := HF.out.c 1 rfl
  refine kS fun K hK => ?_
  refine sq 3 [(true, 0), (true, 1), (true, 2)] fun T hT => ?_
  refine tk ?_
  refine ck Tryz.call59 (fun w' hw => fiswhole_any (a) true _ (decide_eq_true (by first | exact ok | exact HW.out))) ?_
  refine tk ?_
  refine nlS hT HF fun vw5 HG => ?_
  clear hT T HF lx3
  go_wp2
  refine hK.out _ _ ?_; clear hK K
  show Code.wp _ _ _ _ _
  have HF := HG; clear HG
  have HB := HPb HF
  have lx0 := HF.out.c 0 rfl
  refine kS fun K hK => ?_
  have HG0 : Hid (Gr vw5 vw5) := Lib.hid (Gr.refl _)
  refine sq 2 [(true, 0), (false, 1)] fun T hT => ?_
  refine tk ?_
  refine wpPlan_callE rfl (by rfl) Tryz.call60 (by rfl) (fun w' hw => ((gref_any bbxn kxn fxn mxn ixn kxd fxd mxd a ao_xn c_xn ao_xd c_xd w' (Lib.hid (HWxn.out.gr (Gr.trans HB.out hw))) HFxn HVxn HAxn (Lib.hid (HWxd.out.gr (Gr.trans HB.out hw))) HFxd HVxd HQx om om om om)).mono ?_)
  rintro e vv6 ⟨⟨rv1, rv2, rfl, bx6, bx7⟩, hg0⟩
  obtain ⟨ao1, nn1, cc1, rfl⟩ := Rn.sl bx6
  obtain ⟨ao2, nn2, cc2, rfl⟩ := Rn.sl bx7
  refine ⟨_, rfl, hg0, ?_⟩
  replace hg0 := Gr.trans hw hg0; clear hw
  replace HG0 := Lib.hid (HG0.out.trans hg0)
  have HGS := Lib.hid hg0; clear hg0
  replace HB := Lib.hid (HB.out.trans (HGS.out.mono HB.out.size))
  clear HGS
  have RN6 := Lib.hid bx6; clear bx6
  have RN7 := Lib.hid bx7; clear bx7
  clear lx0; have lx0 := fun w' (h : Gr _ w') => HF.out.c 0 rfl w' (HG0.out.trans h)
  simp only [Act.put, lA, lB, lC]
  refine wpPlan_nil (hT.out _ _ ?_)
  intro vw6 hg
  simp only [puts, Act.put, lA, lB, lC, lD, lE, ↓reduceIte, Nat.reduceEqDiff]
  have HG := Lib.hid (((HF.out.gr (HG0.out.trans hg)).ar (RN6.out.gr hg)).ar (RN7.out.gr hg))
  simp only [List.zip_cons_cons, List.zip_nil_right, List.map_cons, List.map_nil, lF, lG] at HG
  clear hT T HF hg HG0 RN6 RN7 lx0 HB
  go_wp2
  refine hK.out _ _ ?_; clear hK K
  show Code.wp _ _ _ _ _
  refine fH (((HG.out).al (b := vw6.heap.size) (by first | rfl | simp) (by decide)).er 0) fun Wx7 HF => ?_
  clear HG
  generalize vw6.heap.size = gx8 at *
  refine wp_seq ?_
  have HZ5 : Hid ((a).den = (a).den) := Lib.hid (rfl)
  have su5 : tw ((a).den) ≤ 33 := by exact Nat.le_trans (rz_den _) (by omega)
  have lx8 := HF.out.c 5 rfl
  refine kS fun K hK => ?_
  have HG0 : Hid (Gr Wx7 Wx7) := Lib.hid (Gr.refl _)
  refine pd 8 [(true, 0), (true, 1), (true, 2), (true, 4), (true, 3), (false, 5), (true, 6), (true, 7)] fun T hT => ?_
  iterate 4 refine tk ?_
  refine ck Tryz.call61 (fun w' hw => zrbits _ (Int.natAbs ((a).num)) p1 _ HP1.out (HF.out.r 3 rfl (HG0.out.trans hw)) (by omega)) ?_
  refine wpPlan_callE rfl (by rfl) Tryz.call62 (by rfl) (fun w' hw => (qDen_any (a) ((a).den) _ _ _ HZ5.out (by omega) (HF.out.r 3 rfl (HG0.out.trans hw)) (HF.out.r 4 rfl (HG0.out.trans hw))).mono ?_)
  rintro e vv9 ⟨⟨rv3, rfl, bx9⟩, hg0⟩
  obtain ⟨ao3, nn3, cc3, rfl⟩ := Rn.sl bx9
  refine ⟨_, rfl, hg0, ?_⟩
  replace hg0 := Gr.trans hw hg0; clear hw
  replace HG0 := Lib.hid (HG0.out.trans hg0)
  have HGS := Lib.hid hg0; clear hg0
  clear HGS
  have RN9 := Lib.hid bx9; clear bx9
  clear lx8; have lx8 := fun w' (h : Gr _ w') => HF.out.c 5 rfl w' (HG0.out.trans h)
  simp only [Act.put, lA, lB, lC]
  refine ck Tryz.call61 (fun w' hw => zrbits _ ((a).den) p2 _ HP2.out (RN9.out.gr hw) (by omega)) ?_
  refine tk ?_
  refine wpPlan_nil (hT.out _ _ ?_)
  intro G vw7 hg hf
  simp only [puts, Act.put, lA, lB, lC, lD, lE, ↓reduceIte, Nat.reduceEqDiff]
  have HG := Lib.hid ((HF.out.gr (HG0.out.trans hg)).ar (RN9.out.gr hg))
  simp only [List.zip_cons_cons, List.zip_nil_right, List.map_cons, List.map_nil, lF, lG] at HG
  clear hT T HF hg hf HG0 RN9 lx8
  have hd1 : ¬ (64 < mb) := by first | exact ok | exact HW.out
  go_wp2
  refine hK.out _ _ ?_; clear hK K
  show Code.wp _ _ _ _ _
  refine fH (((((HG.out).er 6).er 5).er 4).er 3) fun Wx8 HF => ?_
  clear HG
  clear hd1
  refine wp_cond_false (by rfl) ?_
  refine wp_skip ?_
  show Code.wp _ _ _ _ _
  have HB := HPb HF
  have HZ6 : Hid (((1 : Int) : Rat) = (1 : Rat)) := Lib.hid (by decide +kernel)
  have su6 : sz ((1 : Rat)) ≤ 2 := sz_of (wl_le.2 (by decide +kernel)) (wl_le.2 (by decide +kernel))
  obtain ⟨u7, HZ7⟩ : ∃ z, Hid ((a) + (1 : Rat) = z) := ⟨_, Lib.hid rfl⟩
  have su7 : sz (u7) ≤ 15 := by rw [← HZ7.out]; have := sz_add (a) (1 : Rat); omega
  have HZ8 : Hid (((1 : Int) : Rat) = (1 : Rat)) := Lib.hid (by decide +kernel)
  have su8 : sz ((1 : Rat)) ≤ 2 := sz_of (wl_le.2 (by decide +kernel)) (wl_le.2 (by decide +kernel))
  obtain ⟨u9, HZ9⟩ : ∃ z, Hid ((a) - (1 : Rat) = z) := ⟨_, Lib.hid rfl⟩
  have su9 : sz (u9) ≤ 15 := by rw [← HZ9.out]; have := sz_sub (a) (1 : Rat); omega
  have lx3 := HF.out.c 0 rfl
  have lx4 := HF.out.c 1 rfl
  have lx5 := HF.out.c 2 rfl
  refine kS fun K hK => ?_
  refine pd 43 [(true, 0), (true, 1), (true, 2), (true, 3), (true, 4), (true, 5), (true, 8), (true, 6), (true, 7), (true, 9), (true, 10), (true, 11), (true, 12), (true, 13), (true, 14), (true, 15), (true, 16), (true, 17), (true, 18), (true, 19), (true, 22), (true, 20), (true, 21), (true, 23), (true, 24), (true, 25), (true, 26), (true, 27), (true, 28), (true, 29), (true, 30), (true, 31), (true, 32), (true, 33), (true, 34), (true, 35), (true, 36), (true, 37), (true, 38), (true, 39), (true, 40), (true, 41), (true, 42)] fun T hT => ?_
  iterate 2 refine tk ?_
  refine ck Tryz.call64 (fun w' hw => fcmp_any (a) (a) (0) _ (by have e9 : (a) - (a) = (0 : Rat) := (by exact Rat.sub_self); exact sgQ_zero' e9) om om) ?_
  iterate 4 refine tk ?_
  refine ck Tryz.call66 (fun w' hw => fint_any (1) (1 : Rat) _ HZ6.out om om) ?_
  refine ck Tryz.call65 (fun w' hw => fadd_any (a) (1 : Rat) (u7) _ HZ7.out om om) ?_
  refine ck Tryz.call64 (fun w' hw => fcmp_any (u7) (a) (1) _ (by have e9 : (0 : Rat) < (u7) - (a) := (by simp only [← HZ7.out]; exact rsub_pos (by grind)); exact sgQ_pos e9) om om) ?_
  iterate 5 refine tk ?_
  refine ck Tryz.call64 (fun w' hw => fcmp_any (a) (a) (0) _ (by have e9 : (a) - (a) = (0 : Rat) := (by exact Rat.sub_self); exact sgQ_zero' e9) om om) ?_
  iterate 5 refine tk ?_
  refine ck Tryz.call66 (fun w' hw => fint_any (1) (1 : Rat) _ HZ8.out om om) ?_
  refine ck Tryz.call67 (fun w' hw => fsub_any (a) (1 : Rat) (u9) _ HZ9.out om om) ?_
  refine ck Tryz.call64 (fun w' hw => fcmp_any (u9) (a) (-1) _ (by have e9 : (u9) - (a) < (0 : Rat) := (by simp only [← HZ9.out, ← HZ7.out]; exact rsub_neg (by grind)); exact sgQ_neg e9) om om) ?_
  iterate 17 refine tk ?_
  refine ck Tryz.call49 (fun w' hw => worksq_any _ (Lib.hid (HT.out.gr (Gr.trans HB.out hw)))) ?_
  refine tk ?_
  refine nlD hT HF fun vw8 HG => ?_
  clear hT T HF lx3 lx4 lx5 HB
  go_wp2
  refine hK.out _ _ ?_; clear hK K
  show Code.wp _ _ _ _ _
  refine fH ((((HG.out).er 2).er 1).er 0) fun Wx13 HF => ?_
  clear HG
  refine wp_ret ?_
  try simp only [Exit.then, Exit.inBlock]
  exact bodyPost_ret (v := .bool true) (by simp [results, Tryz.results7, go_sem]) rfl ⟨rfl, HF.out.1⟩

set_option maxRecDepth 100000 in
set_option maxHeartbeats 8000000 in
theorem floorq_nb (bbxn : Bool) (vxn : Value) (kxn : Nat) (fxn : Nat → Nat) (mxn : Nat) (ixn : Int) (vxd : Value) (kxd : Nat) (fxd : Nat → Nat) (mxd : Nat) (a : Rat) (f c : Int) (p1 p2 : Nat) (mb : Int) (lo hi : Rat) (w : World) (HWxn : Hid (Wa w vxn kxn fxn)) (HFxn : Hid (∀ i, i < kxn → fxn i < 4294967296)) (HVxn : Hid (vl fxn kxn = mxn)) (HAxn : Hid ((if bbxn then -((mxn : Nat) : Int) else ((mxn : Nat) : Int)) = ixn)) (HWxd : Hid (Wa w vxd kxd fxd)) (HFxd : Hid (∀ i, i < kxd → fxd i < 4294967296)) (HVxd : Hid (vl fxd kxd = mxd)) (HQx : Hid (mkRat ixn (mxd + 1) = a)) (hkxn : kxn ≤ 10) (hkxd : kxd ≤ 10) (HFL : Hid ((a).floor = f)) (HCE : Hid ((a).ceil = c)) (HLO : Hid (((f : Int) : Rat) = lo)) (HHI : Hid (((c : Int) : Rat) = hi)) (HP1 : Hid (nb (Int.natAbs ((a).num)) = p1)) (HP2 : Hid (nb ((a).den) = p2)) (HMB : Hid (max ((p1 : Nat) : Int) ((p2 : Nat) : Int) = mb)) (HW : Hid (¬ ((a).den = 1))) (hmb : 64 < mb) (HBG : Hid (64 < p1 ∨ 64 < p2)) (HA0 : Hid (a ≠ 0)) (HL1 : Hid (lo < a)) (HL2 : Hid (lo + (1 : Rat) = hi)) (HL3 : Hid (a < hi)) (HL4 : Hid (hi - (1 : Rat) = lo)) (HL5 : Hid (¬ lo = a)) (HL6 : Hid (¬ hi = a)) (hslo : sz lo ≤ 20) (hshi : sz hi ≤ 20)  (HT : Hid (Tab w)) :
    Calls Tryz.prog 7 #[.agg #[.bool bbxn, vxn, vxd]] w fun e w' => e = .returned (.bool true) ∧ Below w.heap.size w w' := by
  obtain ⟨ao_xn, c_xn, rfl⟩ := HWxn.out.slice
  obtain ⟨ao_xd, c_xd, rfl⟩ := HWxd.out.slice
  have hm_xn : wl mxn ≤ 10 := by rw [← HVxn.out]; have := wl_le.2 (vl_lt HFxn.out); omega
  have hm_xd : wl mxd ≤ 10 := by rw [← HVxd.out]; have := wl_le.2 (vl_lt HFxd.out); omega
  have hi_x : wl (Int.natAbs ixn) ≤ 10 := by rw [zsize HAxn.out]; exact hm_xn
  have hs_x : sz a ≤ 11 := by rw [← HQx.out]; exact sz_great hi_x hm_xd
  have hr_x : rz a ≤ 33 := by rw [← HQx.out]; exact rz_great hi_x hm_xd (by decide)
  have hmx := HMB.out
  have hrn_ : tw (Int.natAbs ((a).num)) ≤ 33 := Nat.le_trans (rz_num a) hr_x
  go_enter Tryz.func7, Tryz.ntmps7
  have HF := Lib.hid (hp0 w)
  refine kS fun K hK => ?_
  refine wp_region_lit ?_
  go_wp2
  refine hK.out _ _ ?_; clear hK K
  show Code.wp _ _ _ _ _
  refine fH ((HF.out).al (b := w.heap.size) (by first | rfl | simp) (by decide)) fun Wx0 HG => ?_
  clear HF; have HF := HG; clear HG
  refine wp_seq ?_
  have lx0 := HF.out.c 0 rfl
  refine kS fun K hK => ?_
  have HG0 : Hid (Gr Wx0 Wx0) := Lib.hid (Gr.refl _)
  refine sq 4 [(true, 0), (false, 1), (true, 2), (true, 3)] fun T hT => ?_
  refine tk ?_
  refine wpPlan_slice (cs := #[.bool (bbxn), (.slice ao_xn kxn c_xn), (.slice ao_xd kxd c_xd)]) (E := 88) (n := 1) rfl (by rfl) (fun w' hw => ?_) (fun gx2 vv2 hg0 yx2 bx2 => ?_)
  · go_simp
  clear yx2
  replace HG0 := Lib.hid (HG0.out.trans hg0)
  have HGS := Lib.hid hg0; clear hg0
  clear HGS
  have BX2 := Lib.hid bx2; clear bx2
  clear lx0; have lx0 := fun w' (h : Gr _ w') => HF.out.c 0 rfl w' (HG0.out.trans h)
  simp only [Act.put, lA, lB, lC]
  refine ck Tryz.call53 (fun w' hw => qfew1_ok _ _ _ _ _ _ _ 10 gx2 _ (BX2.out.gr hw) (by omega) (by omega)) ?_
  refine tk ?_
  refine wpPlan_nil (hT.out _ _ ?_)
  intro vw1 hg
  simp only [puts, Act.put, lA, lB, lC, lD, lE, ↓reduceIte, Nat.reduceEqDiff]
  have HG := Lib.hid (HF.out.gr (HG0.out.trans hg))
  clear hT T HF hg HG0 BX2 lx0
  go_wp2
  refine hK.out _ _ ?_; clear hK K
  show Code.wp _ _ _ _ _
  have HF := HG; clear HG
  refine wp_cond_false (by rfl) ?_
  refine wp_skip ?_
  show Code.wp _ _ _ _ _
  have HB := HPb HF
  have lx0 := HF.out.c 0 rfl
  refine kS fun K hK => ?_
  refine sq 2 [(true, 0), (true, 1)] fun T hT => ?_
  refine tk ?_
  refine ck Tryz.call54 (fun w' hw => gof_any bbxn kxn fxn mxn ixn kxd fxd mxd a ao_xn c_xn ao_xd c_xd w' (Lib.hid (HWxn.out.gr (Gr.trans HB.out hw))) HFxn HVxn HAxn (Lib.hid (HWxd.out.gr (Gr.trans HB.out hw))) HFxd HVxd HQx om om om om) ?_
  refine nlS hT HF fun vw2 HG => ?_
  clear hT T HF lx0 HB
  go_wp2
  refine hK.out _ _ ?_; clear hK K
  show Code.wp _ _ _ _ _
  refine fH ((HG.out).al (b := vw2.heap.size) (by first | rfl | simp) (by decide)) fun Wx3 HF => ?_
  clear HG
  generalize vw2.heap.size = gx3 at *
  have HZ1 : Hid ((a).floor = f) := Lib.hid (HFL.out)
  have su1 : wl (Int.natAbs (f)) ≤ 12 := by have e := HZ1.out; first | omega | (rw [← e]; have := wl_floor (a); omega)
  have su_0_4 : wl 1 ≤ 1 := wl_le.2 (by decide +kernel)
  have HZ2 : Hid (mkRat (f) (1) = lo) := Lib.hid (by rw [mk_one]; exact HLO.out)
  have su2 : sz (lo) ≤ 12 := by have e := HZ2.out; first | omega | (rw [← e]; exact sz_mkRat (k := 12) om om (by decide))
  have lx3 := HF.out.c 1 rfl
  refine kS fun K hK => ?_
  refine sq 7 [(true, 0), (true, 1), (true, 2), (true, 3), (true, 4), (true, 5), (true, 6)] fun T hT => ?_
  refine tk ?_
  refine ck Tryz.call56 (fun w' hw => ffloor_any (a) (f) _ (Lib.hid HZ1.out) om) ?_
  refine ck Tryz.call57 (fun w' hw => nzof 1 _ (by decide)) ?_
  refine ck Tryz.call55 (fun w' hw => ffrom_ok (f) (1) (lo) _ (Lib.hid HZ2.out) (by first | exact ok | exact HW.out | exact HL5.out | exact HL6.out | exact HL2.out | exact HL4.out) om om) ?_
  iterate 3 refine tk ?_
  refine nlS hT HF fun vw3 HG => ?_
  clear hT T HF lx3
  go_wp2
  refine hK.out _ _ ?_; clear hK K
  show Code.wp _ _ _ _ _
  refine fH ((HG.out).al (b := vw3.heap.size) (by first | rfl | simp) (by decide)) fun Wx4 HF => ?_
  clear HG
  generalize vw3.heap.size = gx4 at *
  have HZ3 : Hid ((a).ceil = c) := Lib.hid (HCE.out)
  have su3 : wl (Int.natAbs (c)) ≤ 12 := by have e := HZ3.out; first | omega | (rw [← e]; have := wl_ceil (a); omega)
  have su_1_5 : wl 1 ≤ 1 := wl_le.2 (by decide +kernel)
  have HZ4 : Hid (mkRat (c) (1) = hi) := Lib.hid (by rw [mk_one]; exact HHI.out)
  have su4 : sz (hi) ≤ 12 := by have e := HZ4.out; first | omega | (rw [← e]; exact sz_mkRat (k := 12) om om (by decide))
  have lx3 := HF.out.c 1 rfl
  refine kS fun K hK => ?_
  refine sq 7 [(true, 0), (true, 1), (true, 2), (true, 3), (true, 4), (true, 5), (true, 6)] fun T hT => ?_
  refine tk ?_
  refine ck Tryz.call58 (fun w' hw => fceil_any (a) (c) _ (Lib.hid HZ3.out) om) ?_
  refine ck Tryz.call57 (fun w' hw => nzof 1 _ (by decide)) ?_
  refine ck Tryz.call55 (fun w' hw => ffrom_ok (c) (1) (hi) _ (Lib.hid HZ4.out) (by first | exact ok | exact HW.out | exact HL5.out | exact HL6.out | exact HL2.out | exact HL4.out) om om) ?_
  iterate 3 refine tk ?_
  refine nlS hT HF fun vw4 HG => ?_
  clear hT T HF lx3
  go_wp2
  refine hK.out _ _ ?_; clear hK K
  show Code.wp _ _ _ _ _
  refine fH ((HG.out).al (b := vw4.heap.size) (by first | rfl | simp) (by decide)) fun Wx5 HF => ?_
  clear HG
  generalize vw4.heap.size = gx5 at *
  have lx3 := HF.out.c 1 rfl
  refine kS fun K hK => ?_
  refine sq 3 [(true, 0), (true, 1), (true, 2)] fun T hT => ?_
  refine tk ?_
  refine ck Tryz.call59 (fun w' hw => fiswhole_any (a) false _ (decide_eq_false (by first | exact ok | exact HW.out | exact HL5.out | exact HL6.out | exact HL2.out | exact HL4.out))) ?_
  refine tk ?_
  refine nlS hT HF fun vw5 HG => ?_
  clear hT T HF lx3
  go_wp2
  refine hK.out _ _ ?_; clear hK K
  show Code.wp _ _ _ _ _
  have HF := HG; clear HG
  have HB := HPb HF
  have lx0 := HF.out.c 0 rfl
  refine kS fun K hK => ?_
  have HG0 : Hid (Gr vw5 vw5) := Lib.hid (Gr.refl _)
  refine sq 2 [(true, 0), (false, 1)] fun T hT => ?_
  refine tk ?_
  refine wpPlan_callE rfl (by rfl) Tryz.call60 (by rfl) (fun w' hw => ((gref_any bbxn kxn fxn mxn ixn kxd fxd mxd a ao_xn c_xn ao_xd c_xd w' (Lib.hid (HWxn.out.gr (Gr.trans HB.out hw))) HFxn HVxn HAxn (Lib.hid (HWxd.out.gr (Gr.trans HB.out hw))) HFxd HVxd HQx om om om om)).mono ?_)
  rintro e vv6 ⟨⟨rv1, rv2, rfl, bx6, bx7⟩, hg0⟩
  obtain ⟨ao1, nn1, cc1, rfl⟩ := Rn.sl bx6
  obtain ⟨ao2, nn2, cc2, rfl⟩ := Rn.sl bx7
  refine ⟨_, rfl, hg0, ?_⟩
  replace hg0 := Gr.trans hw hg0; clear hw
  replace HG0 := Lib.hid (HG0.out.trans hg0)
  have HGS := Lib.hid hg0; clear hg0
  replace HB := Lib.hid (HB.out.trans (HGS.out.mono HB.out.size))
  clear HGS
  have RN6 := Lib.hid bx6; clear bx6
  have RN7 := Lib.hid bx7; clear bx7
  clear lx0; have lx0 := fun w' (h : Gr _ w') => HF.out.c 0 rfl w' (HG0.out.trans h)
  simp only [Act.put, lA, lB, lC]
  refine wpPlan_nil (hT.out _ _ ?_)
  intro vw6 hg
  simp only [puts, Act.put, lA, lB, lC, lD, lE, ↓reduceIte, Nat.reduceEqDiff]
  have HG := Lib.hid (((HF.out.gr (HG0.out.trans hg)).ar (RN6.out.gr hg)).ar (RN7.out.gr hg))
  simp only [List.zip_cons_cons, List.zip_nil_right, List.map_cons, List.map_nil, lF, lG] at HG
  clear hT T HF hg HG0 RN6 RN7 lx0 HB
  go_wp2
  refine hK.out _ _ ?_; clear hK K
  show Code.wp _ _ _ _ _
  refine fH (((HG.out).al (b := vw6.heap.size) (by first | rfl | simp) (by decide)).er 0) fun Wx7 HF => ?_
  clear HG
  generalize vw6.heap.size = gx8 at *
  refine wp_seq ?_
  have HZ5 : Hid ((a).den = (a).den) := Lib.hid (rfl)
  have su5 : tw ((a).den) ≤ 33 := by exact Nat.le_trans (rz_den _) (by omega)
  have lx8 := HF.out.c 5 rfl
  refine kS fun K hK => ?_
  have HG0 : Hid (Gr Wx7 Wx7) := Lib.hid (Gr.refl _)
  refine pd 8 [(true, 0), (true, 1), (true, 2), (true, 4), (true, 3), (false, 5), (true, 6), (true, 7)] fun T hT => ?_
  iterate 4 refine tk ?_
  refine ck Tryz.call61 (fun w' hw => zrbits _ (Int.natAbs ((a).num)) p1 _ HP1.out (HF.out.r 3 rfl (HG0.out.trans hw)) (by omega)) ?_
  refine wpPlan_callE rfl (by rfl) Tryz.call62 (by rfl) (fun w' hw => (qDen_any (a) ((a).den) _ _ _ HZ5.out (by omega) (HF.out.r 3 rfl (HG0.out.trans hw)) (HF.out.r 4 rfl (HG0.out.trans hw))).mono ?_)
  rintro e vv9 ⟨⟨rv3, rfl, bx9⟩, hg0⟩
  obtain ⟨ao3, nn3, cc3, rfl⟩ := Rn.sl bx9
  refine ⟨_, rfl, hg0, ?_⟩
  replace hg0 := Gr.trans hw hg0; clear hw
  replace HG0 := Lib.hid (HG0.out.trans hg0)
  have HGS := Lib.hid hg0; clear hg0
  clear HGS
  have RN9 := Lib.hid bx9; clear bx9
  clear lx8; have lx8 := fun w' (h : Gr _ w') => HF.out.c 5 rfl w' (HG0.out.trans h)
  simp only [Act.put, lA, lB, lC]
  refine ck Tryz.call61 (fun w' hw => zrbits _ ((a).den) p2 _ HP2.out (RN9.out.gr hw) (by omega)) ?_
  refine tk ?_
  refine wpPlan_nil (hT.out _ _ ?_)
  intro G vw7 hg hf
  simp only [puts, Act.put, lA, lB, lC, lD, lE, ↓reduceIte, Nat.reduceEqDiff]
  have HG := Lib.hid ((HF.out.gr (HG0.out.trans hg)).ar (RN9.out.gr hg))
  simp only [List.zip_cons_cons, List.zip_nil_right, List.map_cons, List.map_nil, lF, lG] at HG
  clear hT T HF hg hf HG0 RN9 lx8
  have hd1 : 64 < mb := by first | exact ok | exact HW.out | exact HL5.out | exact HL6.out | exact HL2.out | exact HL4.out
  go_wp2
  refine hK.out _ _ ?_; clear hK K
  show Code.wp _ _ _ _ _
  refine fH (((((HG.out).er 6).er 5).er 4).er 3) fun Wx8 HF => ?_
  clear HG
  clear hd1
  refine wp_cond_true (by rfl) ?_
  have lx3 := HF.out.c 0 rfl
  refine kS fun K hK => ?_
  refine sq 5 [(true, 0), (true, 1), (true, 2), (true, 3), (true, 4)] fun T hT => ?_
  refine tk ?_
  refine ck Tryz.call63 (fun w' hw => fpow_lim (a) 4096 _ (by omega) (by have e0 := HBG.out; rw [HP1.out, HP2.out]; omega) om) ?_
  iterate 3 refine tk ?_
  refine nlS hT HF fun vw8 HG => ?_
  clear hT T HF lx3
  go_wp2
  refine hK.out _ _ ?_; clear hK K
  show Code.wp _ _ _ _ _
  refine fH ((HG.out).al (b := vw8.heap.size) (by first | rfl | simp) (by decide)) fun Wx9 HF => ?_
  clear HG
  generalize vw8.heap.size = gx10 at *
  have lx3 := HF.out.c 0 rfl
  refine kS fun K hK => ?_
  refine sq 5 [(true, 0), (true, 1), (true, 2), (true, 3), (true, 4)] fun T hT => ?_
  refine tk ?_
  refine ck Tryz.call63 (fun w' hw => fpow_neglim (a) 4096 _ (by omega) (by omega) (by exact HA0.out) (by have e0 := HBG.out; rw [HP1.out, HP2.out]; omega) om) ?_
  iterate 3 refine tk ?_
  refine nlS hT HF fun vw9 HG => ?_
  clear hT T HF lx3
  go_wp2
  refine hK.out _ _ ?_; clear hK K
  show Code.wp _ _ _ _ _
  refine fH ((HG.out).al (b := vw9.heap.size) (by first | rfl | simp) (by decide)) fun Wx10 HF => ?_
  clear HG
  generalize vw9.heap.size = gx11 at *
  have lx10 := HF.out.c 3 rfl
  have lx11 := HF.out.c 4 rfl
  refine kS fun K hK => ?_
  refine sq 16 [(true, 0), (true, 1), (true, 2), (true, 3), (true, 4), (true, 5), (true, 6), (true, 7), (true, 8), (true, 9), (true, 10), (true, 11), (true, 12), (true, 13), (true, 14), (true, 15)] fun T hT => ?_
  iterate 16 refine tk ?_
  refine nlS hT HF fun vw10 HG => ?_
  clear hT T HF lx10 lx11
  go_wp2
  refine hK.out _ _ ?_; clear hK K
  show Code.wp _ _ _ _ _
  refine fH (((HG.out).er 4).er 3) fun Wx11 HF => ?_
  clear HG
  refine wp_cond_false (by rfl) ?_
  refine wp_skip ?_
  show Code.wp _ _ _ _ _
  have HB := HPb HF
  have HZ6 : Hid (((1 : Int) : Rat) = (1 : Rat)) := Lib.hid (by decide +kernel)
  have su6 : sz ((1 : Rat)) ≤ 2 := sz_of (wl_le.2 (by decide +kernel)) (wl_le.2 (by decide +kernel))
  have HZ7 : Hid ((lo) + (1 : Rat) = hi) := Lib.hid (by first | exact ok | exact HW.out | exact HL5.out | exact HL6.out | exact HL2.out | exact HL4.out)
  have su7 : sz (hi) ≤ 15 := by have e := HZ7.out; first | omega | (rw [← e]; have := sz_add (lo) (1 : Rat); omega)
  have HZ8 : Hid (((1 : Int) : Rat) = (1 : Rat)) := Lib.hid (by decide +kernel)
  have su8 : sz ((1 : Rat)) ≤ 2 := sz_of (wl_le.2 (by decide +kernel)) (wl_le.2 (by decide +kernel))
  have HZ9 : Hid ((hi) - (1 : Rat) = lo) := Lib.hid (by first | exact ok | exact HW.out | exact HL5.out | exact HL6.out | exact HL2.out | exact HL4.out)
  have su9 : sz (lo) ≤ 15 := by have e := HZ9.out; first | omega | (rw [← e]; have := sz_sub (hi) (1 : Rat); omega)
  have hd2 : decide (lo = a) = false := decide_eq_false (by first | exact ok | exact HW.out | exact HL5.out | exact HL6.out | exact HL2.out | exact HL4.out)
  have hd3 : decide (hi = a) = false := decide_eq_false (by first | exact ok | exact HW.out | exact HL5.out | exact HL6.out | exact HL2.out | exact HL4.out)
  have lx3 := HF.out.c 0 rfl
  have lx4 := HF.out.c 1 rfl
  have lx5 := HF.out.c 2 rfl
  refine kS fun K hK => ?_
  refine pd 43 [(true, 0), (true, 1), (true, 2), (true, 3), (true, 4), (true, 5), (true, 8), (true, 6), (true, 7), (true, 9), (true, 10), (true, 11), (true, 12), (true, 13), (true, 14), (true, 15), (true, 16), (true, 17), (true, 18), (true, 19), (true, 22), (true, 20), (true, 21), (true, 23), (true, 24), (true, 25), (true, 26), (true, 27), (true, 28), (true, 29), (true, 30), (true, 31), (true, 32), (true, 33), (true, 34), (true, 35), (true, 36), (true, 37), (true, 38), (true, 39), (true, 40), (true, 41), (true, 42)] fun T hT => ?_
  iterate 2 refine tk ?_
  refine ck Tryz.call64 (fun w' hw => fcmp_any (lo) (a) (-1) _ (by have e9 : (lo) - (a) < (0 : Rat) := (by exact rsub_neg HL1.out); exact sgQ_neg e9) om om) ?_
  iterate 4 refine tk ?_
  refine ck Tryz.call66 (fun w' hw => fint_any (1) (1 : Rat) _ HZ6.out om om) ?_
  refine ck Tryz.call65 (fun w' hw => fadd_any (lo) (1 : Rat) (hi) _ HZ7.out om om) ?_
  refine ck Tryz.call64 (fun w' hw => fcmp_any (hi) (a) (1) _ (by have e9 : (0 : Rat) < (hi) - (a) := (by exact rsub_pos HL3.out); exact sgQ_pos e9) om om) ?_
  iterate 5 refine tk ?_
  refine ck Tryz.call64 (fun w' hw => fcmp_any (hi) (a) (1) _ (by have e9 : (0 : Rat) < (hi) - (a) := (by exact rsub_pos HL3.out); exact sgQ_pos e9) om om) ?_
  iterate 5 refine tk ?_
  refine ck Tryz.call66 (fun w' hw => fint_any (1) (1 : Rat) _ HZ8.out om om) ?_
  refine ck Tryz.call67 (fun w' hw => fsub_any (hi) (1 : Rat) (lo) _ HZ9.out om om) ?_
  refine ck Tryz.call64 (fun w' hw => fcmp_any (lo) (a) (-1) _ (by have e9 : (lo) - (a) < (0 : Rat) := (by exact rsub_neg HL1.out); exact sgQ_neg e9) om om) ?_
  iterate 17 refine tk ?_
  refine ck Tryz.call49 (fun w' hw => worksq_any _ (Lib.hid (HT.out.gr (Gr.trans HB.out hw)))) ?_
  refine tk ?_
  refine nlD hT HF fun vw11 HG => ?_
  clear hT T HF lx3 lx4 lx5 HB
  go_wp2
  refine hK.out _ _ ?_; clear hK K
  show Code.wp _ _ _ _ _
  refine fH ((((HG.out).er 2).er 1).er 0) fun Wx13 HF => ?_
  clear HG
  clear hd2 hd3
  refine wp_ret ?_
  try simp only [Exit.then, Exit.inBlock]
  exact bodyPost_ret (v := .bool true) (by simp [results, Tryz.results7, go_sem]) rfl ⟨rfl, HF.out.1⟩

set_option maxRecDepth 100000 in
set_option maxHeartbeats 8000000 in
theorem floorq_ns (bbxn : Bool) (vxn : Value) (kxn : Nat) (fxn : Nat → Nat) (mxn : Nat) (ixn : Int) (vxd : Value) (kxd : Nat) (fxd : Nat → Nat) (mxd : Nat) (a : Rat) (f c : Int) (p1 p2 : Nat) (mb : Int) (lo hi : Rat) (w : World) (HWxn : Hid (Wa w vxn kxn fxn)) (HFxn : Hid (∀ i, i < kxn → fxn i < 4294967296)) (HVxn : Hid (vl fxn kxn = mxn)) (HAxn : Hid ((if bbxn then -((mxn : Nat) : Int) else ((mxn : Nat) : Int)) = ixn)) (HWxd : Hid (Wa w vxd kxd fxd)) (HFxd : Hid (∀ i, i < kxd → fxd i < 4294967296)) (HVxd : Hid (vl fxd kxd = mxd)) (HQx : Hid (mkRat ixn (mxd + 1) = a)) (hkxn : kxn ≤ 10) (hkxd : kxd ≤ 10) (HFL : Hid ((a).floor = f)) (HCE : Hid ((a).ceil = c)) (HLO : Hid (((f : Int) : Rat) = lo)) (HHI : Hid (((c : Int) : Rat) = hi)) (HP1 : Hid (nb (Int.natAbs ((a).num)) = p1)) (HP2 : Hid (nb ((a).den) = p2)) (HMB : Hid (max ((p1 : Nat) : Int) ((p2 : Nat) : Int) = mb)) (HW : Hid (¬ ((a).den = 1))) (hmb : ¬ 64 < mb) (HL1 : Hid (lo < a)) (HL2 : Hid (lo + (1 : Rat) = hi)) (HL3 : Hid (a < hi)) (HL4 : Hid (hi - (1 : Rat) = lo)) (HL5 : Hid (¬ lo = a)) (HL6 : Hid (¬ hi = a)) (hslo : sz lo ≤ 20) (hshi : sz hi ≤ 20)  (HT : Hid (Tab w)) :
    Calls Tryz.prog 7 #[.agg #[.bool bbxn, vxn, vxd]] w fun e w' => e = .returned (.bool true) ∧ Below w.heap.size w w' := by
  obtain ⟨ao_xn, c_xn, rfl⟩ := HWxn.out.slice
  obtain ⟨ao_xd, c_xd, rfl⟩ := HWxd.out.slice
  have hm_xn : wl mxn ≤ 10 := by rw [← HVxn.out]; have := wl_le.2 (vl_lt HFxn.out); omega
  have hm_xd : wl mxd ≤ 10 := by rw [← HVxd.out]; have := wl_le.2 (vl_lt HFxd.out); omega
  have hi_x : wl (Int.natAbs ixn) ≤ 10 := by rw [zsize HAxn.out]; exact hm_xn
  have hs_x : sz a ≤ 11 := by rw [← HQx.out]; exact sz_great hi_x hm_xd
  have hr_x : rz a ≤ 33 := by rw [← HQx.out]; exact rz_great hi_x hm_xd (by decide)
  have hmx := HMB.out
  have hrn_ : tw (Int.natAbs ((a).num)) ≤ 33 := Nat.le_trans (rz_num a) hr_x
  go_enter Tryz.func7, Tryz.ntmps7
  have HF := Lib.hid (hp0 w)
  refine kS fun K hK => ?_
  refine wp_region_lit ?_
  go_wp2
  refine hK.out _ _ ?_; clear hK K
  show Code.wp _ _ _ _ _
  refine fH ((HF.out).al (b := w.heap.size) (by first | rfl | simp) (by decide)) fun Wx0 HG => ?_
  clear HF; have HF := HG; clear HG
  refine wp_seq ?_
  have lx0 := HF.out.c 0 rfl
  refine kS fun K hK => ?_
  have HG0 : Hid (Gr Wx0 Wx0) := Lib.hid (Gr.refl _)
  refine sq 4 [(true, 0), (false, 1), (true, 2), (true, 3)] fun T hT => ?_
  refine tk ?_
  refine wpPlan_slice (cs := #[.bool (bbxn), (.slice ao_xn kxn c_xn), (.slice ao_xd kxd c_xd)]) (E := 88) (n := 1) rfl (by rfl) (fun w' hw => ?_) (fun gx2 vv2 hg0 yx2 bx2 => ?_)
  · go_simp
  clear yx2
  replace HG0 := Lib.hid (HG0.out.trans hg0)
  have HGS := Lib.hid hg0; clear hg0
  clear HGS
  have BX2 := Lib.hid bx2; clear bx2
  clear lx0; have lx0 := fun w' (h : Gr _ w') => HF.out.c 0 rfl w' (HG0.out.trans h)
  simp only [Act.put, lA, lB, lC]
  refine ck Tryz.call53 (fun w' hw => qfew1_ok _ _ _ _ _ _ _ 10 gx2 _ (BX2.out.gr hw) (by omega) (by omega)) ?_
  refine tk ?_
  refine wpPlan_nil (hT.out _ _ ?_)
  intro vw1 hg
  simp only [puts, Act.put, lA, lB, lC, lD, lE, ↓reduceIte, Nat.reduceEqDiff]
  have HG := Lib.hid (HF.out.gr (HG0.out.trans hg))
  clear hT T HF hg HG0 BX2 lx0
  go_wp2
  refine hK.out _ _ ?_; clear hK K
  show Code.wp _ _ _ _ _
  have HF := HG; clear HG
  refine wp_cond_false (by rfl) ?_
  refine wp_skip ?_
  show Code.wp _ _ _ _ _
  have HB := HPb HF
  have lx0 := HF.out.c 0 rfl
  refine kS fun K hK => ?_
  refine sq 2 [(true, 0), (true, 1)] fun T hT => ?_
  refine tk ?_
  refine ck Tryz.call54 (fun w' hw => gof_any bbxn kxn fxn mxn ixn kxd fxd mxd a ao_xn c_xn ao_xd c_xd w' (Lib.hid (HWxn.out.gr (Gr.trans HB.out hw))) HFxn HVxn HAxn (Lib.hid (HWxd.out.gr (Gr.trans HB.out hw))) HFxd HVxd HQx om om om om) ?_
  refine nlS hT HF fun vw2 HG => ?_
  clear hT T HF lx0 HB
  go_wp2
  refine hK.out _ _ ?_; clear hK K
  show Code.wp _ _ _ _ _
  refine fH ((HG.out).al (b := vw2.heap.size) (by first | rfl | simp) (by decide)) fun Wx3 HF => ?_
  clear HG
  generalize vw2.heap.size = gx3 at *
  have HZ1 : Hid ((a).floor = f) := Lib.hid (HFL.out)
  have su1 : wl (Int.natAbs (f)) ≤ 12 := by have e := HZ1.out; first | omega | (rw [← e]; have := wl_floor (a); omega)
  have su_0_4 : wl 1 ≤ 1 := wl_le.2 (by decide +kernel)
  have HZ2 : Hid (mkRat (f) (1) = lo) := Lib.hid (by rw [mk_one]; exact HLO.out)
  have su2 : sz (lo) ≤ 12 := by have e := HZ2.out; first | omega | (rw [← e]; exact sz_mkRat (k := 12) om om (by decide))
  have lx3 := HF.out.c 1 rfl
  refine kS fun K hK => ?_
  refine sq 7 [(true, 0), (true, 1), (true, 2), (true, 3), (true, 4), (true, 5), (true, 6)] fun T hT => ?_
  refine tk ?_
  refine ck Tryz.call56 (fun w' hw => ffloor_any (a) (f) _ (Lib.hid HZ1.out) om) ?_
  refine ck Tryz.call57 (fun w' hw => nzof 1 _ (by decide)) ?_
  refine ck Tryz.call55 (fun w' hw => ffrom_ok (f) (1) (lo) _ (Lib.hid HZ2.out) (by first | exact ok | exact HW.out | exact HL5.out | exact HL6.out | exact HL2.out | exact HL4.out) om om) ?_
  iterate 3 refine tk ?_
  refine nlS hT HF fun vw3 HG => ?_
  clear hT T HF lx3
  go_wp2
  refine hK.out _ _ ?_; clear hK K
  show Code.wp _ _ _ _ _
  refine fH ((HG.out).al (b := vw3.heap.size) (by first | rfl | simp) (by decide)) fun Wx4 HF => ?_
  clear HG
  generalize vw3.heap.size = gx4 at *
  have HZ3 : Hid ((a).ceil = c) := Lib.hid (HCE.out)
  have su3 : wl (Int.natAbs (c)) ≤ 12 := by have e := HZ3.out; first | omega | (rw [← e]; have := wl_ceil (a); omega)
  have su_1_5 : wl 1 ≤ 1 := wl_le.2 (by decide +kernel)
  have HZ4 : Hid (mkRat (c) (1) = hi) := Lib.hid (by rw [mk_one]; exact HHI.out)
  have su4 : sz (hi) ≤ 12 := by have e := HZ4.out; first | omega | (rw [← e]; exact sz_mkRat (k := 12) om om (by decide))
  have lx3 := HF.out.c 1 rfl
  refine kS fun K hK => ?_
  refine sq 7 [(true, 0), (true, 1), (true, 2), (true, 3), (true, 4), (true, 5), (true, 6)] fun T hT => ?_
  refine tk ?_
  refine ck Tryz.call58 (fun w' hw => fceil_any (a) (c) _ (Lib.hid HZ3.out) om) ?_
  refine ck Tryz.call57 (fun w' hw => nzof 1 _ (by decide)) ?_
  refine ck Tryz.call55 (fun w' hw => ffrom_ok (c) (1) (hi) _ (Lib.hid HZ4.out) (by first | exact ok | exact HW.out | exact HL5.out | exact HL6.out | exact HL2.out | exact HL4.out) om om) ?_
  iterate 3 refine tk ?_
  refine nlS hT HF fun vw4 HG => ?_
  clear hT T HF lx3
  go_wp2
  refine hK.out _ _ ?_; clear hK K
  show Code.wp _ _ _ _ _
  refine fH ((HG.out).al (b := vw4.heap.size) (by first | rfl | simp) (by decide)) fun Wx5 HF => ?_
  clear HG
  generalize vw4.heap.size = gx5 at *
  have lx3 := HF.out.c 1 rfl
  refine kS fun K hK => ?_
  refine sq 3 [(true, 0), (true, 1), (true, 2)] fun T hT => ?_
  refine tk ?_
  refine ck Tryz.call59 (fun w' hw => fiswhole_any (a) false _ (decide_eq_false (by first | exact ok | exact HW.out | exact HL5.out | exact HL6.out | exact HL2.out | exact HL4.out))) ?_
  refine tk ?_
  refine nlS hT HF fun vw5 HG => ?_
  clear hT T HF lx3
  go_wp2
  refine hK.out _ _ ?_; clear hK K
  show Code.wp _ _ _ _ _
  have HF := HG; clear HG
  have HB := HPb HF
  have lx0 := HF.out.c 0 rfl
  refine kS fun K hK => ?_
  have HG0 : Hid (Gr vw5 vw5) := Lib.hid (Gr.refl _)
  refine sq 2 [(true, 0), (false, 1)] fun T hT => ?_
  refine tk ?_
  refine wpPlan_callE rfl (by rfl) Tryz.call60 (by rfl) (fun w' hw => ((gref_any bbxn kxn fxn mxn ixn kxd fxd mxd a ao_xn c_xn ao_xd c_xd w' (Lib.hid (HWxn.out.gr (Gr.trans HB.out hw))) HFxn HVxn HAxn (Lib.hid (HWxd.out.gr (Gr.trans HB.out hw))) HFxd HVxd HQx om om om om)).mono ?_)
  rintro e vv6 ⟨⟨rv1, rv2, rfl, bx6, bx7⟩, hg0⟩
  obtain ⟨ao1, nn1, cc1, rfl⟩ := Rn.sl bx6
  obtain ⟨ao2, nn2, cc2, rfl⟩ := Rn.sl bx7
  refine ⟨_, rfl, hg0, ?_⟩
  replace hg0 := Gr.trans hw hg0; clear hw
  replace HG0 := Lib.hid (HG0.out.trans hg0)
  have HGS := Lib.hid hg0; clear hg0
  replace HB := Lib.hid (HB.out.trans (HGS.out.mono HB.out.size))
  clear HGS
  have RN6 := Lib.hid bx6; clear bx6
  have RN7 := Lib.hid bx7; clear bx7
  clear lx0; have lx0 := fun w' (h : Gr _ w') => HF.out.c 0 rfl w' (HG0.out.trans h)
  simp only [Act.put, lA, lB, lC]
  refine wpPlan_nil (hT.out _ _ ?_)
  intro vw6 hg
  simp only [puts, Act.put, lA, lB, lC, lD, lE, ↓reduceIte, Nat.reduceEqDiff]
  have HG := Lib.hid (((HF.out.gr (HG0.out.trans hg)).ar (RN6.out.gr hg)).ar (RN7.out.gr hg))
  simp only [List.zip_cons_cons, List.zip_nil_right, List.map_cons, List.map_nil, lF, lG] at HG
  clear hT T HF hg HG0 RN6 RN7 lx0 HB
  go_wp2
  refine hK.out _ _ ?_; clear hK K
  show Code.wp _ _ _ _ _
  refine fH (((HG.out).al (b := vw6.heap.size) (by first | rfl | simp) (by decide)).er 0) fun Wx7 HF => ?_
  clear HG
  generalize vw6.heap.size = gx8 at *
  refine wp_seq ?_
  have HZ5 : Hid ((a).den = (a).den) := Lib.hid (rfl)
  have su5 : tw ((a).den) ≤ 33 := by exact Nat.le_trans (rz_den _) (by omega)
  have lx8 := HF.out.c 5 rfl
  refine kS fun K hK => ?_
  have HG0 : Hid (Gr Wx7 Wx7) := Lib.hid (Gr.refl _)
  refine pd 8 [(true, 0), (true, 1), (true, 2), (true, 4), (true, 3), (false, 5), (true, 6), (true, 7)] fun T hT => ?_
  iterate 4 refine tk ?_
  refine ck Tryz.call61 (fun w' hw => zrbits _ (Int.natAbs ((a).num)) p1 _ HP1.out (HF.out.r 3 rfl (HG0.out.trans hw)) (by omega)) ?_
  refine wpPlan_callE rfl (by rfl) Tryz.call62 (by rfl) (fun w' hw => (qDen_any (a) ((a).den) _ _ _ HZ5.out (by omega) (HF.out.r 3 rfl (HG0.out.trans hw)) (HF.out.r 4 rfl (HG0.out.trans hw))).mono ?_)
  rintro e vv9 ⟨⟨rv3, rfl, bx9⟩, hg0⟩
  obtain ⟨ao3, nn3, cc3, rfl⟩ := Rn.sl bx9
  refine ⟨_, rfl, hg0, ?_⟩
  replace hg0 := Gr.trans hw hg0; clear hw
  replace HG0 := Lib.hid (HG0.out.trans hg0)
  have HGS := Lib.hid hg0; clear hg0
  clear HGS
  have RN9 := Lib.hid bx9; clear bx9
  clear lx8; have lx8 := fun w' (h : Gr _ w') => HF.out.c 5 rfl w' (HG0.out.trans h)
  simp only [Act.put, lA, lB, lC]
  refine ck Tryz.call61 (fun w' hw => zrbits _ ((a).den) p2 _ HP2.out (RN9.out.gr hw) (by omega)) ?_
  refine tk ?_
  refine wpPlan_nil (hT.out _ _ ?_)
  intro G vw7 hg hf
  simp only [puts, Act.put, lA, lB, lC, lD, lE, ↓reduceIte, Nat.reduceEqDiff]
  have HG := Lib.hid ((HF.out.gr (HG0.out.trans hg)).ar (RN9.out.gr hg))
  simp only [List.zip_cons_cons, List.zip_nil_right, List.map_cons, List.map_nil, lF, lG] at HG
  clear hT T HF hg hf HG0 RN9 lx8
  have hd1 : ¬ (64 < mb) := by first | exact ok | exact HW.out | exact HL5.out | exact HL6.out | exact HL2.out | exact HL4.out
  go_wp2
  refine hK.out _ _ ?_; clear hK K
  show Code.wp _ _ _ _ _
  refine fH (((((HG.out).er 6).er 5).er 4).er 3) fun Wx8 HF => ?_
  clear HG
  clear hd1
  refine wp_cond_false (by rfl) ?_
  refine wp_skip ?_
  show Code.wp _ _ _ _ _
  have HB := HPb HF
  have HZ6 : Hid (((1 : Int) : Rat) = (1 : Rat)) := Lib.hid (by decide +kernel)
  have su6 : sz ((1 : Rat)) ≤ 2 := sz_of (wl_le.2 (by decide +kernel)) (wl_le.2 (by decide +kernel))
  have HZ7 : Hid ((lo) + (1 : Rat) = hi) := Lib.hid (by first | exact ok | exact HW.out | exact HL5.out | exact HL6.out | exact HL2.out | exact HL4.out)
  have su7 : sz (hi) ≤ 15 := by have e := HZ7.out; first | omega | (rw [← e]; have := sz_add (lo) (1 : Rat); omega)
  have HZ8 : Hid (((1 : Int) : Rat) = (1 : Rat)) := Lib.hid (by decide +kernel)
  have su8 : sz ((1 : Rat)) ≤ 2 := sz_of (wl_le.2 (by decide +kernel)) (wl_le.2 (by decide +kernel))
  have HZ9 : Hid ((hi) - (1 : Rat) = lo) := Lib.hid (by first | exact ok | exact HW.out | exact HL5.out | exact HL6.out | exact HL2.out | exact HL4.out)
  have su9 : sz (lo) ≤ 15 := by have e := HZ9.out; first | omega | (rw [← e]; have := sz_sub (hi) (1 : Rat); omega)
  have hd2 : decide (lo = a) = false := decide_eq_false (by first | exact ok | exact HW.out | exact HL5.out | exact HL6.out | exact HL2.out | exact HL4.out)
  have hd3 : decide (hi = a) = false := decide_eq_false (by first | exact ok | exact HW.out | exact HL5.out | exact HL6.out | exact HL2.out | exact HL4.out)
  have lx3 := HF.out.c 0 rfl
  have lx4 := HF.out.c 1 rfl
  have lx5 := HF.out.c 2 rfl
  refine kS fun K hK => ?_
  refine pd 43 [(true, 0), (true, 1), (true, 2), (true, 3), (true, 4), (true, 5), (true, 8), (true, 6), (true, 7), (true, 9), (true, 10), (true, 11), (true, 12), (true, 13), (true, 14), (true, 15), (true, 16), (true, 17), (true, 18), (true, 19), (true, 22), (true, 20), (true, 21), (true, 23), (true, 24), (true, 25), (true, 26), (true, 27), (true, 28), (true, 29), (true, 30), (true, 31), (true, 32), (true, 33), (true, 34), (true, 35), (true, 36), (true, 37), (true, 38), (true, 39), (true, 40), (true, 41), (true, 42)] fun T hT => ?_
  iterate 2 refine tk ?_
  refine ck Tryz.call64 (fun w' hw => fcmp_any (lo) (a) (-1) _ (by have e9 : (lo) - (a) < (0 : Rat) := (by exact rsub_neg HL1.out); exact sgQ_neg e9) om om) ?_
  iterate 4 refine tk ?_
  refine ck Tryz.call66 (fun w' hw => fint_any (1) (1 : Rat) _ HZ6.out om om) ?_
  refine ck Tryz.call65 (fun w' hw => fadd_any (lo) (1 : Rat) (hi) _ HZ7.out om om) ?_
  refine ck Tryz.call64 (fun w' hw => fcmp_any (hi) (a) (1) _ (by have e9 : (0 : Rat) < (hi) - (a) := (by exact rsub_pos HL3.out); exact sgQ_pos e9) om om) ?_
  iterate 5 refine tk ?_
  refine ck Tryz.call64 (fun w' hw => fcmp_any (hi) (a) (1) _ (by have e9 : (0 : Rat) < (hi) - (a) := (by exact rsub_pos HL3.out); exact sgQ_pos e9) om om) ?_
  iterate 5 refine tk ?_
  refine ck Tryz.call66 (fun w' hw => fint_any (1) (1 : Rat) _ HZ8.out om om) ?_
  refine ck Tryz.call67 (fun w' hw => fsub_any (hi) (1 : Rat) (lo) _ HZ9.out om om) ?_
  refine ck Tryz.call64 (fun w' hw => fcmp_any (lo) (a) (-1) _ (by have e9 : (lo) - (a) < (0 : Rat) := (by exact rsub_neg HL1.out); exact sgQ_neg e9) om om) ?_
  iterate 17 refine tk ?_
  refine ck Tryz.call49 (fun w' hw => worksq_any _ (Lib.hid (HT.out.gr (Gr.trans HB.out hw)))) ?_
  refine tk ?_
  refine nlD hT HF fun vw8 HG => ?_
  clear hT T HF lx3 lx4 lx5 HB
  go_wp2
  refine hK.out _ _ ?_; clear hK K
  show Code.wp _ _ _ _ _
  refine fH ((((HG.out).er 2).er 1).er 0) fun Wx13 HF => ?_
  clear HG
  clear hd2 hd3
  refine wp_ret ?_
  try simp only [Exit.then, Exit.inBlock]
  exact bodyPost_ret (v := .bool true) (by simp [results, Tryz.results7, go_sem]) rfl ⟨rfl, HF.out.1⟩

set_option maxRecDepth 100000 in
set_option maxHeartbeats 8000000 in
theorem floorq_big1 (bbxn : Bool) (vxn : Value) (kxn : Nat) (fxn : Nat → Nat) (mxn : Nat) (ixn : Int) (vxd : Value) (kxd : Nat) (fxd : Nat → Nat) (mxd : Nat) (a : Rat)  (w : World) (HWxn : Hid (Wa w vxn kxn fxn)) (HFxn : Hid (∀ i, i < kxn → fxn i < 4294967296)) (HVxn : Hid (vl fxn kxn = mxn)) (HAxn : Hid ((if bbxn then -((mxn : Nat) : Int) else ((mxn : Nat) : Int)) = ixn)) (HWxd : Hid (Wa w vxd kxd fxd)) (HFxd : Hid (∀ i, i < kxd → fxd i < 4294967296)) (HVxd : Hid (vl fxd kxd = mxd)) (HQx : Hid (mkRat ixn (mxd + 1) = a))  (hkxn : 10 < kxn) (HT : Hid (Tab w)) :
    Calls Tryz.prog 7 #[.agg #[.bool bbxn, vxn, vxd]] w fun e w' => e = .returned (.bool true) ∧ Below w.heap.size w w' := by
  obtain ⟨ao_xn, c_xn, rfl⟩ := HWxn.out.slice
  obtain ⟨ao_xd, c_xd, rfl⟩ := HWxd.out.slice
  go_enter Tryz.func7, Tryz.ntmps7
  have HF := Lib.hid (hp0 w)
  refine kS fun K hK => ?_
  refine wp_region_lit ?_
  go_wp2
  refine hK.out _ _ ?_; clear hK K
  show Code.wp _ _ _ _ _
  refine fH ((HF.out).al (b := w.heap.size) (by first | rfl | simp) (by decide)) fun Wx0 HG => ?_
  clear HF; have HF := HG; clear HG
  refine wp_seq ?_
  have lx0 := HF.out.c 0 rfl
  refine kS fun K hK => ?_
  have HG0 : Hid (Gr Wx0 Wx0) := Lib.hid (Gr.refl _)
  refine sq 4 [(true, 0), (false, 1), (true, 2), (true, 3)] fun T hT => ?_
  refine tk ?_
  refine wpPlan_slice (cs := #[.bool (bbxn), (.slice ao_xn kxn c_xn), (.slice ao_xd kxd c_xd)]) (E := 88) (n := 1) rfl (by rfl) (fun w' hw => ?_) (fun gx2 vv2 hg0 yx2 bx2 => ?_)
  · go_simp
  clear yx2
  replace HG0 := Lib.hid (HG0.out.trans hg0)
  have HGS := Lib.hid hg0; clear hg0
  clear HGS
  have BX2 := Lib.hid bx2; clear bx2
  clear lx0; have lx0 := fun w' (h : Gr _ w') => HF.out.c 0 rfl w' (HG0.out.trans h)
  simp only [Act.put, lA, lB, lC]
  refine ck Tryz.call53 (fun w' hw => qfew1_no0 _ _ _ _ _ _ _ 10 gx2 _ (BX2.out.gr hw) (by omega)) ?_
  refine tk ?_
  refine wpPlan_nil (hT.out _ _ ?_)
  intro vw1 hg
  simp only [puts, Act.put, lA, lB, lC, lD, lE, ↓reduceIte, Nat.reduceEqDiff]
  have HG := Lib.hid (HF.out.gr (HG0.out.trans hg))
  clear hT T HF hg HG0 BX2 lx0
  go_wp2
  refine hK.out _ _ ?_; clear hK K
  show Code.wp _ _ _ _ _
  have HF := HG; clear HG
  refine wp_cond_true (by rfl) ?_
  have HB := HPb HF
  refine kS fun K hK => ?_
  refine sq 2 [(true, 0), (true, 1)] fun T hT => ?_
  refine ck Tryz.call49 (fun w' hw => worksq_any _ (Lib.hid (HT.out.gr (Gr.trans HB.out hw)))) ?_
  refine tk ?_
  refine nlS hT HF fun vw2 HG => ?_
  clear hT T HF HB
  go_wp2
  refine hK.out _ _ ?_; clear hK K
  show Code.wp _ _ _ _ _
  have HF := HG; clear HG
  refine wp_ret ?_
  try simp only [Exit.then, Exit.inBlock]
  exact bodyPost_ret (v := .bool true) (by simp [results, Tryz.results7, go_sem]) rfl ⟨rfl, HF.out.1⟩

set_option maxRecDepth 100000 in
set_option maxHeartbeats 8000000 in
theorem floorq_big2 (bbxn : Bool) (vxn : Value) (kxn : Nat) (fxn : Nat → Nat) (mxn : Nat) (ixn : Int) (vxd : Value) (kxd : Nat) (fxd : Nat → Nat) (mxd : Nat) (a : Rat)  (w : World) (HWxn : Hid (Wa w vxn kxn fxn)) (HFxn : Hid (∀ i, i < kxn → fxn i < 4294967296)) (HVxn : Hid (vl fxn kxn = mxn)) (HAxn : Hid ((if bbxn then -((mxn : Nat) : Int) else ((mxn : Nat) : Int)) = ixn)) (HWxd : Hid (Wa w vxd kxd fxd)) (HFxd : Hid (∀ i, i < kxd → fxd i < 4294967296)) (HVxd : Hid (vl fxd kxd = mxd)) (HQx : Hid (mkRat ixn (mxd + 1) = a)) (hkxn : kxn ≤ 10) (hkxd : 10 < kxd) (HT : Hid (Tab w)) :
    Calls Tryz.prog 7 #[.agg #[.bool bbxn, vxn, vxd]] w fun e w' => e = .returned (.bool true) ∧ Below w.heap.size w w' := by
  obtain ⟨ao_xn, c_xn, rfl⟩ := HWxn.out.slice
  obtain ⟨ao_xd, c_xd, rfl⟩ := HWxd.out.slice
  go_enter Tryz.func7, Tryz.ntmps7
  have HF := Lib.hid (hp0 w)
  refine kS fun K hK => ?_
  refine wp_region_lit ?_
  go_wp2
  refine hK.out _ _ ?_; clear hK K
  show Code.wp _ _ _ _ _
  refine fH ((HF.out).al (b := w.heap.size) (by first | rfl | simp) (by decide)) fun Wx0 HG => ?_
  clear HF; have HF := HG; clear HG
  refine wp_seq ?_
  have lx0 := HF.out.c 0 rfl
  refine kS fun K hK => ?_
  have HG0 : Hid (Gr Wx0 Wx0) := Lib.hid (Gr.refl _)
  refine sq 4 [(true, 0), (false, 1), (true, 2), (true, 3)] fun T hT => ?_
  refine tk ?_
  refine wpPlan_slice (cs := #[.bool (bbxn), (.slice ao_xn kxn c_xn), (.slice ao_xd kxd c_xd)]) (E := 88) (n := 1) rfl (by rfl) (fun w' hw => ?_) (fun gx2 vv2 hg0 yx2 bx2 => ?_)
  · go_simp
  clear yx2
  replace HG0 := Lib.hid (HG0.out.trans hg0)
  have HGS := Lib.hid hg0; clear hg0
  clear HGS
  have BX2 := Lib.hid bx2; clear bx2
  clear lx0; have lx0 := fun w' (h : Gr _ w') => HF.out.c 0 rfl w' (HG0.out.trans h)
  simp only [Act.put, lA, lB, lC]
  refine ck Tryz.call53 (fun w' hw => qfew1_no1 _ _ _ _ _ _ _ 10 gx2 _ (BX2.out.gr hw) (by omega) (by omega)) ?_
  refine tk ?_
  refine wpPlan_nil (hT.out _ _ ?_)
  intro vw1 hg
  simp only [puts, Act.put, lA, lB, lC, lD, lE, ↓reduceIte, Nat.reduceEqDiff]
  have HG := Lib.hid (HF.out.gr (HG0.out.trans hg))
  clear hT T HF hg HG0 BX2 lx0
  go_wp2
  refine hK.out _ _ ?_; clear hK K
  show Code.wp _ _ _ _ _
  have HF := HG; clear HG
  refine wp_cond_true (by rfl) ?_
  have HB := HPb HF
  refine kS fun K hK => ?_
  refine sq 2 [(true, 0), (true, 1)] fun T hT => ?_
  refine ck Tryz.call49 (fun w' hw => worksq_any _ (Lib.hid (HT.out.gr (Gr.trans HB.out hw)))) ?_
  refine tk ?_
  refine nlS hT HF fun vw2 HG => ?_
  clear hT T HF HB
  go_wp2
  refine hK.out _ _ ?_; clear hK K
  show Code.wp _ _ _ _ _
  have HF := HG; clear HG
  refine wp_ret ?_
  try simp only [Exit.then, Exit.inBlock]
  exact bodyPost_ret (v := .bool true) (by simp [results, Tryz.results7, go_sem]) rfl ⟨rfl, HF.out.1⟩

theorem floorq_law (bbxn : Bool) (vxn : Value) (kxn : Nat) (fxn : Nat → Nat) (vxd : Value) (kxd : Nat) (fxd : Nat → Nat)  (w : World) (HWxn : Hid (Wa w vxn kxn fxn)) (HFxn : Hid (∀ i, i < kxn → fxn i < 4294967296)) (HWxd : Hid (Wa w vxd kxd fxd)) (HFxd : Hid (∀ i, i < kxd → fxd i < 4294967296))  (HT : Hid (Tab w)) :
    Calls Tryz.prog 7 #[.agg #[.bool bbxn, vxn, vxd]] w fun e w' => e = .returned (.bool true) ∧ Below w.heap.size w w' := by
  obtain ⟨ixn, HAxn⟩ : ∃ z, Hid ((if bbxn then -((vl fxn kxn : Nat) : Int) else ((vl fxn kxn : Nat) : Int)) = z) := ⟨_, Lib.hid rfl⟩
  obtain ⟨a, HQx⟩ : ∃ z, Hid (mkRat ixn (vl fxd kxd + 1) = z) := ⟨_, Lib.hid rfl⟩
  by_cases hkxn : kxn ≤ 10
  · skip
    by_cases hkxd : kxd ≤ 10
    · skip
      have hs : sz a ≤ 11 := by
        rw [← HQx.out]
        have hm1 : wl (vl fxn kxn) ≤ 10 := by have := wl_le.2 (vl_lt HFxn.out); omega
        exact sz_great (by rw [zsize HAxn.out]; exact hm1) (by have := wl_le.2 (vl_lt HFxd.out); omega)
      by_cases hw : a.den = 1
      · obtain ⟨e1, e2⟩ := fl_whole a hw
        by_cases hb : 64 < max ((nb (Int.natAbs (a.num)) : Nat) : Int) ((nb (a.den) : Nat) : Int)
        · have hb2 : 64 < nb (Int.natAbs (a.num)) ∨ 64 < nb (a.den) := by omega
          exact floorq_wb bbxn vxn kxn fxn _ ixn vxd kxd fxd _ a _ _ _ _ _ w HWxn HFxn (Lib.hid rfl) HAxn HWxd HFxd (Lib.hid rfl) HQx hkxn hkxd (Lib.hid rfl) (Lib.hid rfl) (Lib.hid e1) (Lib.hid e2) (Lib.hid rfl) (Lib.hid rfl) (Lib.hid rfl) (Lib.hid hw) hb (Lib.hid hb2) (Lib.hid (big_ne hb2)) HT
        · exact floorq_ws bbxn vxn kxn fxn _ ixn vxd kxd fxd _ a _ _ _ _ _ w HWxn HFxn (Lib.hid rfl) HAxn HWxd HFxd (Lib.hid rfl) HQx hkxn hkxd (Lib.hid rfl) (Lib.hid rfl) (Lib.hid e1) (Lib.hid e2) (Lib.hid rfl) (Lib.hid rfl) (Lib.hid rfl) (Lib.hid hw) hb HT
      · obtain ⟨e1, e2, e3, e4, e5, e6⟩ := fl_facts a hw
        obtain ⟨z1, z2⟩ := sz_fl a hs
        by_cases hb : 64 < max ((nb (Int.natAbs (a.num)) : Nat) : Int) ((nb (a.den) : Nat) : Int)
        · have hb2 : 64 < nb (Int.natAbs (a.num)) ∨ 64 < nb (a.den) := by omega
          exact floorq_nb bbxn vxn kxn fxn _ ixn vxd kxd fxd _ a _ _ _ _ _ _ _ w HWxn HFxn (Lib.hid rfl) HAxn HWxd HFxd (Lib.hid rfl) HQx hkxn hkxd (Lib.hid rfl) (Lib.hid rfl) (Lib.hid rfl) (Lib.hid rfl) (Lib.hid rfl) (Lib.hid rfl) (Lib.hid rfl) (Lib.hid hw) hb (Lib.hid hb2) (Lib.hid (big_ne hb2)) (Lib.hid e1) (Lib.hid e2) (Lib.hid e3) (Lib.hid e4) (Lib.hid e5) (Lib.hid e6) (by omega) (by omega) HT
        · exact floorq_ns bbxn vxn kxn fxn _ ixn vxd kxd fxd _ a _ _ _ _ _ _ _ w HWxn HFxn (Lib.hid rfl) HAxn HWxd HFxd (Lib.hid rfl) HQx hkxn hkxd (Lib.hid rfl) (Lib.hid rfl) (Lib.hid rfl) (Lib.hid rfl) (Lib.hid rfl) (Lib.hid rfl) (Lib.hid rfl) (Lib.hid hw) hb (Lib.hid e1) (Lib.hid e2) (Lib.hid e3) (Lib.hid e4) (Lib.hid e5) (Lib.hid e6) (by omega) (by omega) HT
    · exact floorq_big2 bbxn vxn kxn fxn _ ixn vxd kxd fxd _ a  w HWxn HFxn (Lib.hid rfl) HAxn HWxd HFxd (Lib.hid rfl) HQx  hkxn (by omega) HT
  · exact floorq_big1 bbxn vxn kxn fxn _ ixn vxd kxd fxd _ a  w HWxn HFxn (Lib.hid rfl) HAxn HWxd HFxd (Lib.hid rfl) HQx   (by omega) HT

end Go.Proofs.YtpcfncbcpknobaaGreatDoor
