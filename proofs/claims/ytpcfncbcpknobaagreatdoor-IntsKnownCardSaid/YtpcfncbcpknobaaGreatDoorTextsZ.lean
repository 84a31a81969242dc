
/- IntsTexts: the law's walk. -/
import Derived.Test.YtpcfncbcpknobaaGreatDoorWorksZ
namespace Go.Proofs.YtpcfncbcpknobaaGreatDoor
open Go.RowKit
set_option linter.unusedSimpArgs false
set_option linter.unusedVariables false
attribute [local go_sem ↓] Go.wp_at_zero Go.wp_at_succ
attribute [local go_sem ↓] eq_nat eq_nat_zero eq_int
theorem textz_facts (a : Int) (h : wl a.natAbs ≤ 20) : inum (itx a) = a ∧ icode (itx a) = 0 ∧ 1 ≤ (itx a).size ∧ (itx a).size ≤ 1000 ∧ Lib.nDigits a.natAbs ≤ 999 ∧ ((itx a).extract 0 1).toList = ((itx a).data.toList).take 1 := by
  have h1 := nDigits_nb a.natAbs
  have h2 := nb_wl a.natAbs
  have h3 := itx_size a
  have h4 : 0 < Lib.nDigits a.natAbs := by rw [← Lib.decDigits_length]; exact List.length_pos_iff.2 (dec_ne _)
  obtain ⟨p1, p2⟩ := parse_itx a (by omega)
  refine ⟨p2, p1, ?_, ?_, by omega, ?_⟩
  · rw [h3]; omega
  · rw [h3]; split <;> omega
  · rw [Lib.extract_toList]; simp [Lib.toList_data]
theorem textz_head (a : Int) (h : wl a.natAbs ≤ 20) : (((itx a).extract 0 1).toList == [45]) = decide (a < 0) := by
  rw [(textz_facts a h).2.2.2.2.2, itx_data]
  by_cases ha : a < 0
  · rw [if_pos ha, decide_eq_true ha]; rfl
  · rw [if_neg ha, decide_eq_false ha]
    cases hd : Lib.decDigits a.natAbs with
    | nil => exact absurd hd (dec_ne _)
    | cons c l =>
      have := dec_digits a.natAbs c (by rw [hd]; exact List.mem_cons_self ..)
      have hc : c ≠ 45 := fun e => by subst e; exact absurd this.1 (by decide)
      simpa using hc

set_option maxRecDepth 100000 in
set_option maxHeartbeats 4000000 in
theorem textz_neg (bbx : Bool) (vx : Value) (kx : Nat) (fx : Nat → Nat) (mx : Nat) (a : Int) (tx : ByteArray) (ty : ByteArray) (w : World) (HWx : Hid (Wa w vx kx fx)) (HFx : Hid (∀ i, i < kx → fx i < 4294967296)) (HVx : Hid (vl fx kx = mx)) (HAx : Hid ((if bbx then -((mx : Nat) : Int) else ((mx : Nat) : Int)) = a)) (hkx : kx ≤ 20) (HA0 : Hid (a < 0)) (HTX : Hid (itx a = tx)) (HPN : Hid (inum tx = a)) (HPC : Hid (icode tx = 0)) (h1 : 1 ≤ tx.size) (h2 : tx.size ≤ 1000) (HTY : Hid ((⟨(Lib.decDigits (Int.natAbs a)).toArray⟩ : ByteArray) = ty)) (HE : Hid (((tx.extract 0 1).toList == [45]) = true)) (HCT : Hid ((⟨#[45]⟩ : ByteArray) ++ ty = tx)) (hty : ty.size ≤ 1000) (HT : Hid (Tab w)) :
    Calls Tryz.prog 21 #[.agg #[.bool bbx, vx]] w fun e w' => e = .returned (.bool true) ∧ Below w.heap.size w w' := by
  obtain ⟨ao_x, c_x, rfl⟩ := HWx.out.slice
  have hm_x : wl mx ≤ 20 := by rw [← HVx.out]; have := wl_le.2 (vl_lt HFx.out); omega
  have hb_x : wl (Int.natAbs (a)) ≤ 20 := by rw [zsize HAx.out]; exact hm_x
  have ht_x : tw (Int.natAbs (a)) ≤ 60 := by have := tw_wl (Int.natAbs (a)); omega
  have h1i : (1 : Int) ≤ (tx.size : Int) := by omega
  go_enter Tryz.func21, Tryz.ntmps21
  have HF := Lib.hid (hp0 w)
  refine kS fun K hK => ?_
  refine wp_region_lit ?_
  go_wp2
  refine hK.out _ _ ?_; clear hK K
  show Code.wp _ _ _ _ _
  refine fH ((HF.out).al (b := w.heap.size) (by first | rfl | simp) (by decide)) fun Wx0 HG => ?_
  clear HF; have HF := HG; clear HG
  refine wp_seq ?_
  have lx0 := HF.out.c 0 rfl
  refine kS fun K hK => ?_
  have HG0 : Hid (Gr Wx0 Wx0) := Lib.hid (Gr.refl _)
  refine sq 4 [(true, 0), (false, 1), (true, 2), (true, 3)] fun T hT => ?_
  refine tk ?_
  refine wpPlan_slice (cs := #[.bool (bbx), (.slice ao_x kx c_x)]) (E := 25) (n := 1) rfl (by rfl) (fun w' hw => ?_) (fun gx2 vv2 hg0 yx2 bx2 => ?_)
  · go_simp
  clear yx2
  replace HG0 := Lib.hid (HG0.out.trans hg0)
  have HGS := Lib.hid hg0; clear hg0
  clear HGS
  have BX2 := Lib.hid bx2; clear bx2
  clear lx0; have lx0 := fun w' (h : Gr _ w') => HF.out.c 0 rfl w' (HG0.out.trans h)
  simp only [Act.put, lA, lB, lC]
  refine ck Tryz.call104 (fun w' hw => few1_ok _ _ _ _ 20 gx2 _ (BX2.out.gr hw) (by omega)) ?_
  refine tk ?_
  refine wpPlan_nil (hT.out _ _ ?_)
  intro vw1 hg
  simp only [puts, Act.put, lA, lB, lC, lD, lE, ↓reduceIte, Nat.reduceEqDiff]
  have HG := Lib.hid (HF.out.gr (HG0.out.trans hg))
  clear hT T HF hg HG0 BX2 lx0
  go_wp2
  refine hK.out _ _ ?_; clear hK K
  show Code.wp _ _ _ _ _
  have HF := HG; clear HG
  refine wp_cond_false (by rfl) ?_
  refine wp_skip ?_
  show Code.wp _ _ _ _ _
  have HB := HPb HF
  have lx0 := HF.out.c 0 rfl
  refine kS fun K hK => ?_
  refine sq 2 [(true, 0), (true, 1)] fun T hT => ?_
  refine tk ?_
  refine ck Tryz.call19 (fun w' hw => zlof bbx kx fx mx a ao_x c_x w' (Lib.hid (HWx.out.gr (Gr.trans HB.out hw))) HFx HVx HAx om om) ?_
  refine nlS hT HF fun vw2 HG => ?_
  clear hT T HF lx0 HB
  go_wp2
  refine hK.out _ _ ?_; clear hK K
  show Code.wp _ _ _ _ _
  refine fH (((HG.out).al (b := vw2.heap.size) (by first | rfl | simp) (by decide)).er 0) fun Wx3 HF => ?_
  clear HG
  generalize vw2.heap.size = gx3 at *
  have HB := HPb HF
  have lx3 := HF.out.c 0 rfl
  refine kS fun K hK => ?_
  refine sq 3 [(true, 0), (true, 1), (true, 2)] fun T hT => ?_
  refine tk ?_
  refine ck Tryz.call72 (fun w' hw => zitext (a) tx _ HTX.out om (Lib.hid (HT.out.gr (Gr.trans HB.out hw)))) ?_
  refine tk ?_
  refine nlS hT HF fun vw3 HG => ?_
  clear hT T HF lx3 HB
  go_wp2
  refine hK.out _ _ ?_; clear hK K
  show Code.wp _ _ _ _ _
  have HF := HG; clear HG
  refine kS fun K hK => ?_
  refine sq 5 [(true, 0), (true, 1), (true, 2), (true, 3), (true, 4)] fun T hT => ?_
  refine tk ?_
  refine ck Tryz.call123 (fun w' hw => ziparse tx (a) 0 _ HPN.out HPC.out (by omega)) ?_
  iterate 3 refine tk ?_
  refine nlS hT HF fun vw4 HG => ?_
  clear hT T HF
  go_wp2
  refine hK.out _ _ ?_; clear hK K
  show Code.wp _ _ _ _ _
  refine fH ((HG.out).al (b := vw4.heap.size) (by first | rfl | simp) (by decide)) fun Wx5 HF => ?_
  clear HG
  generalize vw4.heap.size = gx4 at *
  have HB := HPb HF
  have hd1 : 0 < ((tx.size : Int)) := by have ha0 := HA0.out; exact ok
  have hd2 : 0 < tx.size := by have e := hd1; omega
  have he1 : ((tx.extract 0 1).toList == [45]) = true := HE.out
  have hlen : ¬ (9223372036854775807 < 1 + ty.size) := by omega
  have hcat : (⟨#[45]⟩ : ByteArray) ++ ty = tx := HCT.out
  have lx3 := HF.out.c 0 rfl
  have lx4 := HF.out.c 1 rfl
  refine kS fun K hK => ?_
  refine pd 49 [(true, 0), (true, 1), (true, 2), (true, 3), (true, 4), (true, 5), (true, 6), (true, 7), (true, 8), (true, 9), (true, 10), (true, 11), (true, 12), (true, 13), (true, 14), (true, 15), (true, 16), (true, 17), (true, 18), (true, 19), (true, 20), (true, 21), (true, 22), (true, 23), (true, 24), (true, 25), (true, 26), (true, 27), (true, 28), (true, 29), (true, 30), (true, 31), (true, 32), (true, 33), (true, 34), (true, 35), (true, 36), (true, 37), (true, 38), (true, 39), (true, 40), (true, 41), (true, 42), (true, 43), (true, 44), (true, 45), (true, 46), (true, 47), (true, 48)] fun T hT => ?_
  iterate 17 refine tk ?_
  refine ck Tryz.call114 (fun w' hw => zisign (a) (-1) _ (by have e9 : (a) < (0 : Int) := (by have ha0 := HA0.out; exact ok); exact sgI_lt e9)) ?_
  iterate 5 refine tk ?_
  refine ck Tryz.call114 (fun w' hw => zisign (a) (-1) _ (by have e9 : (a) < (0 : Int) := (by have ha0 := HA0.out; exact ok); exact sgI_lt e9)) ?_
  iterate 4 refine tk ?_
  refine ck Tryz.call70 (fun w' hw => abs_any (a) _) ?_
  refine ck Tryz.call73 (fun w' hw => nztexts (Int.natAbs (a)) ty _ HTY.out om (Lib.hid (HT.out.gr (Gr.trans HB.out hw)))) ?_
  iterate 6 refine tk ?_
  refine ck Tryz.call114 (fun w' hw => zisign (a) (-1) _ (by have e9 : (a) < (0 : Int) := (by have ha0 := HA0.out; exact ok); exact sgI_lt e9)) ?_
  iterate 2 refine tk ?_
  iterate 5 refine sk ?_
  iterate 3 refine tk ?_
  refine ck Tryz.call23 (fun w' hw => worksz_any _ (Lib.hid (HT.out.gr (Gr.trans HB.out hw)))) ?_
  refine tk ?_
  refine nlD hT HF fun vw5 HG => ?_
  clear hT T HF lx3 lx4 HB
  go_wp2
  refine hK.out _ _ ?_; clear hK K
  show Code.wp _ _ _ _ _
  refine fH (((HG.out).er 1).er 0) fun Wx6 HF => ?_
  clear HG
  clear hd1 hd2 he1 hlen hcat
  refine wp_ret ?_
  try simp only [Exit.then, Exit.inBlock]
  exact bodyPost_ret (v := .bool true) (by simp [results, Tryz.results21, go_sem]) rfl ⟨rfl, HF.out.1⟩

set_option maxRecDepth 100000 in
set_option maxHeartbeats 4000000 in
theorem textz_pos (bbx : Bool) (vx : Value) (kx : Nat) (fx : Nat → Nat) (mx : Nat) (a : Int) (tx : ByteArray) (w : World) (HWx : Hid (Wa w vx kx fx)) (HFx : Hid (∀ i, i < kx → fx i < 4294967296)) (HVx : Hid (vl fx kx = mx)) (HAx : Hid ((if bbx then -((mx : Nat) : Int) else ((mx : Nat) : Int)) = a)) (hkx : kx ≤ 20) (HA0 : Hid (0 ≤ a)) (HTX : Hid (itx a = tx)) (HPN : Hid (inum tx = a)) (HPC : Hid (icode tx = 0)) (h1 : 1 ≤ tx.size) (h2 : tx.size ≤ 1000) (HTY : Hid ((⟨(Lib.decDigits (Int.natAbs a)).toArray⟩ : ByteArray) = tx)) (HE : Hid (((tx.extract 0 1).toList == [45]) = false)) (HT : Hid (Tab w)) :
    Calls Tryz.prog 21 #[.agg #[.bool bbx, vx]] w fun e w' => e = .returned (.bool true) ∧ Below w.heap.size w w' := by
  obtain ⟨ao_x, c_x, rfl⟩ := HWx.out.slice
  have hm_x : wl mx ≤ 20 := by rw [← HVx.out]; have := wl_le.2 (vl_lt HFx.out); omega
  have hb_x : wl (Int.natAbs (a)) ≤ 20 := by rw [zsize HAx.out]; exact hm_x
  have ht_x : tw (Int.natAbs (a)) ≤ 60 := by have := tw_wl (Int.natAbs (a)); omega
  have h1i : (1 : Int) ≤ (tx.size : Int) := by omega
  go_enter Tryz.func21, Tryz.ntmps21
  have HF := Lib.hid (hp0 w)
  refine kS fun K hK => ?_
  refine wp_region_lit ?_
  go_wp2
  refine hK.out _ _ ?_; clear hK K
  show Code.wp _ _ _ _ _
  refine fH ((HF.out).al (b := w.heap.size) (by first | rfl | simp) (by decide)) fun Wx0 HG => ?_
  clear HF; have HF := HG; clear HG
  refine wp_seq ?_
  have lx0 := HF.out.c 0 rfl
  refine kS fun K hK => ?_
  have HG0 : Hid (Gr Wx0 Wx0) := Lib.hid (Gr.refl _)
  refine sq 4 [(true, 0), (false, 1), (true, 2), (true, 3)] fun T hT => ?_
  refine tk ?_
  refine wpPlan_slice (cs := #[.bool (bbx), (.slice ao_x kx c_x)]) (E := 25) (n := 1) rfl (by rfl) (fun w' hw => ?_) (fun gx2 vv2 hg0 yx2 bx2 => ?_)
  · go_simp
  clear yx2
  replace HG0 := Lib.hid (HG0.out.trans hg0)
  have HGS := Lib.hid hg0; clear hg0
  clear HGS
  have BX2 := Lib.hid bx2; clear bx2
  clear lx0; have lx0 := fun w' (h : Gr _ w') => HF.out.c 0 rfl w' (HG0.out.trans h)
  simp only [Act.put, lA, lB, lC]
  refine ck Tryz.call104 (fun w' hw => few1_ok _ _ _ _ 20 gx2 _ (BX2.out.gr hw) (by omega)) ?_
  refine tk ?_
  refine wpPlan_nil (hT.out _ _ ?_)
  intro vw1 hg
  simp only [puts, Act.put, lA, lB, lC, lD, lE, ↓reduceIte, Nat.reduceEqDiff]
  have HG := Lib.hid (HF.out.gr (HG0.out.trans hg))
  clear hT T HF hg HG0 BX2 lx0
  go_wp2
  refine hK.out _ _ ?_; clear hK K
  show Code.wp _ _ _ _ _
  have HF := HG; clear HG
  refine wp_cond_false (by rfl) ?_
  refine wp_skip ?_
  show Code.wp _ _ _ _ _
  have HB := HPb HF
  have lx0 := HF.out.c 0 rfl
  refine kS fun K hK => ?_
  refine sq 2 [(true, 0), (true, 1)] fun T hT => ?_
  refine tk ?_
  refine ck Tryz.call19 (fun w' hw => zlof bbx kx fx mx a ao_x c_x w' (Lib.hid (HWx.out.gr (Gr.trans HB.out hw))) HFx HVx HAx om om) ?_
  refine nlS hT HF fun vw2 HG => ?_
  clear hT T HF lx0 HB
  go_wp2
  refine hK.out _ _ ?_; clear hK K
  show Code.wp _ _ _ _ _
  refine fH (((HG.out).al (b := vw2.heap.size) (by first | rfl | simp) (by decide)).er 0) fun Wx3 HF => ?_
  clear HG
  generalize vw2.heap.size = gx3 at *
  have HB := HPb HF
  have lx3 := HF.out.c 0 rfl
  refine kS fun K hK => ?_
  refine sq 3 [(true, 0), (true, 1), (true, 2)] fun T hT => ?_
  refine tk ?_
  refine ck Tryz.call72 (fun w' hw => zitext (a) tx _ HTX.out om (Lib.hid (HT.out.gr (Gr.trans HB.out hw)))) ?_
  refine tk ?_
  refine nlS hT HF fun vw3 HG => ?_
  clear hT T HF lx3 HB
  go_wp2
  refine hK.out _ _ ?_; clear hK K
  show Code.wp _ _ _ _ _
  have HF := HG; clear HG
  refine kS fun K hK => ?_
  refine sq 5 [(true, 0), (true, 1), (true, 2), (true, 3), (true, 4)] fun T hT => ?_
  refine tk ?_
  refine ck Tryz.call123 (fun w' hw => ziparse tx (a) 0 _ HPN.out HPC.out (by omega)) ?_
  iterate 3 refine tk ?_
  refine nlS hT HF fun vw4 HG => ?_
  clear hT T HF
  go_wp2
  refine hK.out _ _ ?_; clear hK K
  show Code.wp _ _ _ _ _
  refine fH ((HG.out).al (b := vw4.heap.size) (by first | rfl | simp) (by decide)) fun Wx5 HF => ?_
  clear HG
  generalize vw4.heap.size = gx4 at *
  have HB := HPb HF
  have hd1 : 0 < ((tx.size : Int)) := by have ha0 := HA0.out; exact ok
  have hd2 : 0 < tx.size := by have e := hd1; omega
  have he1 : ((tx.extract 0 1).toList == [45]) = false := HE.out
  obtain ⟨t1, HT1⟩ : ∃ z, Hid (sgI (a) = z) := ⟨_, Lib.hid rfl⟩
  have ht1 : 0 ≤ t1 := by rw [← HT1.out]; exact sgI_nonneg (by have ha0 := HA0.out; omega)
  have hd3 : ¬ (t1 < 0) := by have ha0 := HA0.out; exact ok
  obtain ⟨t2, HT2⟩ : ∃ z, Hid (sgI (a) = z) := ⟨_, Lib.hid rfl⟩
  have ht2 : 0 ≤ t2 := by rw [← HT2.out]; exact sgI_nonneg (by have ha0 := HA0.out; omega)
  have hd4 : 0 ≤ t2 := by have ha0 := HA0.out; exact ok
  obtain ⟨t3, HT3⟩ : ∃ z, Hid (sgI (a) = z) := ⟨_, Lib.hid rfl⟩
  have ht3 : 0 ≤ t3 := by rw [← HT3.out]; exact sgI_nonneg (by have ha0 := HA0.out; omega)
  have hd5 : ¬ (t3 < 0) := by have ha0 := HA0.out; exact ok
  have lx3 := HF.out.c 0 rfl
  have lx4 := HF.out.c 1 rfl
  refine kS fun K hK => ?_
  refine pd 49 [(true, 0), (true, 1), (true, 2), (true, 3), (true, 4), (true, 5), (true, 6), (true, 7), (true, 8), (true, 9), (true, 10), (true, 11), (true, 12), (true, 13), (true, 14), (true, 15), (true, 16), (true, 17), (true, 18), (true, 19), (true, 20), (true, 21), (true, 22), (true, 23), (true, 24), (true, 25), (true, 26), (true, 27), (true, 28), (true, 29), (true, 30), (true, 31), (true, 32), (true, 33), (true, 34), (true, 35), (true, 36), (true, 37), (true, 38), (true, 39), (true, 40), (true, 41), (true, 42), (true, 43), (true, 44), (true, 45), (true, 46), (true, 47), (true, 48)] fun T hT => ?_
  iterate 17 refine tk ?_
  refine ck Tryz.call114 (fun w' hw => zisign (a) (t1) _ HT1.out) ?_
  iterate 5 refine tk ?_
  refine ck Tryz.call114 (fun w' hw => zisign (a) (t2) _ HT2.out) ?_
  iterate 2 refine tk ?_
  iterate 6 refine sk ?_
  iterate 4 refine tk ?_
  refine ck Tryz.call114 (fun w' hw => zisign (a) (t3) _ HT3.out) ?_
  iterate 4 refine tk ?_
  refine ck Tryz.call70 (fun w' hw => abs_any (a) _) ?_
  refine ck Tryz.call73 (fun w' hw => nztexts (Int.natAbs (a)) tx _ HTY.out om (Lib.hid (HT.out.gr (Gr.trans HB.out hw)))) ?_
  iterate 4 refine tk ?_
  refine ck Tryz.call23 (fun w' hw => worksz_any _ (Lib.hid (HT.out.gr (Gr.trans HB.out hw)))) ?_
  refine tk ?_
  refine nlD hT HF fun vw5 HG => ?_
  clear hT T HF lx3 lx4 HB
  go_wp2
  refine hK.out _ _ ?_; clear hK K
  show Code.wp _ _ _ _ _
  refine fH (((HG.out).er 1).er 0) fun Wx6 HF => ?_
  clear HG
  clear hd1 hd2 he1 ht1 hd3 ht2 hd4 ht3 hd5
  refine wp_ret ?_
  try simp only [Exit.then, Exit.inBlock]
  exact bodyPost_ret (v := .bool true) (by simp [results, Tryz.results21, go_sem]) rfl ⟨rfl, HF.out.1⟩

set_option maxRecDepth 100000 in
set_option maxHeartbeats 4000000 in
theorem textz_big1 (bbx : Bool) (vx : Value) (kx : Nat) (fx : Nat → Nat) (mx : Nat) (a : Int)  (w : World) (HWx : Hid (Wa w vx kx fx)) (HFx : Hid (∀ i, i < kx → fx i < 4294967296)) (HVx : Hid (vl fx kx = mx)) (HAx : Hid ((if bbx then -((mx : Nat) : Int) else ((mx : Nat) : Int)) = a))  (hkx : 20 < kx) (HT : Hid (Tab w)) :
    Calls Tryz.prog 21 #[.agg #[.bool bbx, vx]] w fun e w' => e = .returned (.bool true) ∧ Below w.heap.size w w' := by
  obtain ⟨ao_x, c_x, rfl⟩ := HWx.out.slice
  go_enter Tryz.func21, Tryz.ntmps21
  have HF := Lib.hid (hp0 w)
  refine kS fun K hK => ?_
  refine wp_region_lit ?_
  go_wp2
  refine hK.out _ _ ?_; clear hK K
  show Code.wp _ _ _ _ _
  refine fH ((HF.out).al (b := w.heap.size) (by first | rfl | simp) (by decide)) fun Wx0 HG => ?_
  clear HF; have HF := HG; clear HG
  refine wp_seq ?_
  have lx0 := HF.out.c 0 rfl
  refine kS fun K hK => ?_
  have HG0 : Hid (Gr Wx0 Wx0) := Lib.hid (Gr.refl _)
  refine sq 4 [(true, 0), (false, 1), (true, 2), (true, 3)] fun T hT => ?_
  refine tk ?_
  refine wpPlan_slice (cs := #[.bool (bbx), (.slice ao_x kx c_x)]) (E := 25) (n := 1) rfl (by rfl) (fun w' hw => ?_) (fun gx2 vv2 hg0 yx2 bx2 => ?_)
  · go_simp
  clear yx2
  replace HG0 := Lib.hid (HG0.out.trans hg0)
  have HGS := Lib.hid hg0; clear hg0
  clear HGS
  have BX2 := Lib.hid bx2; clear bx2
  clear lx0; have lx0 := fun w' (h : Gr _ w') => HF.out.c 0 rfl w' (HG0.out.trans h)
  simp only [Act.put, lA, lB, lC]
  refine ck Tryz.call104 (fun w' hw => few1_no0 _ _ _ _ 20 gx2 _ (BX2.out.gr hw) (by omega)) ?_
  refine tk ?_
  refine wpPlan_nil (hT.out _ _ ?_)
  intro vw1 hg
  simp only [puts, Act.put, lA, lB, lC, lD, lE, ↓reduceIte, Nat.reduceEqDiff]
  have HG := Lib.hid (HF.out.gr (HG0.out.trans hg))
  clear hT T HF hg HG0 BX2 lx0
  go_wp2
  refine hK.out _ _ ?_; clear hK K
  show Code.wp _ _ _ _ _
  have HF := HG; clear HG
  refine wp_cond_true (by rfl) ?_
  have HB := HPb HF
  refine kS fun K hK => ?_
  refine sq 2 [(true, 0), (true, 1)] fun T hT => ?_
  refine ck Tryz.call23 (fun w' hw => worksz_any _ (Lib.hid (HT.out.gr (Gr.trans HB.out hw)))) ?_
  refine tk ?_
  refine nlS hT HF fun vw2 HG => ?_
  clear hT T HF HB
  go_wp2
  refine hK.out _ _ ?_; clear hK K
  show Code.wp _ _ _ _ _
  have HF := HG; clear HG
  refine wp_ret ?_
  try simp only [Exit.then, Exit.inBlock]
  exact bodyPost_ret (v := .bool true) (by simp [results, Tryz.results21, go_sem]) rfl ⟨rfl, HF.out.1⟩

theorem textz_law (bbx : Bool) (vx : Value) (kx : Nat) (fx : Nat → Nat) (w : World) (HWx : Hid (Wa w vx kx fx)) (HFx : Hid (∀ i, i < kx → fx i < 4294967296)) (HT : Hid (Tab w)) :
    Calls Tryz.prog 21 #[.agg #[.bool bbx, vx]] w fun e w' => e = .returned (.bool true) ∧ Below w.heap.size w w' := by
  obtain ⟨a, ha⟩ : ∃ z, Hid ((if bbx then -((vl fx kx : Nat) : Int) else ((vl fx kx : Nat) : Int)) = z) := ⟨_, Lib.hid rfl⟩
  by_cases hkx : kx ≤ 20
  · skip
    have hm : wl (vl fx kx) ≤ 20 := by have := wl_le.2 (vl_lt HFx.out); omega
    have hw : wl a.natAbs ≤ 20 := by rw [zsize ha.out]; exact hm
    obtain ⟨f1, f2, f3, f4, f5, f6⟩ := textz_facts a hw
    have fh := textz_head a hw
    by_cases h : a < 0
    · rw [decide_eq_true h] at fh
      exact textz_neg bbx vx kx fx _ a _ _ w HWx HFx (Lib.hid rfl) ha hkx (Lib.hid h) (Lib.hid rfl) (Lib.hid f1) (Lib.hid f2) f3 f4 (Lib.hid rfl) (Lib.hid fh) (Lib.hid (if_pos h).symm) (by rw [size_mk, Lib.decDigits_length]; omega) HT
    · rw [decide_eq_false h] at fh
      exact textz_pos bbx vx kx fx _ a _ w HWx HFx (Lib.hid rfl) ha hkx (Lib.hid (by omega)) (Lib.hid rfl) (Lib.hid f1) (Lib.hid f2) f3 f4 (Lib.hid (if_neg h).symm) (Lib.hid fh) HT
  · exact textz_big1 bbx vx kx fx _ a w HWx HFx (Lib.hid rfl) ha  (by omega) HT

end Go.Proofs.YtpcfncbcpknobaaGreatDoor
