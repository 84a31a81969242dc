
/- IntsTexts: the law's walk. -/
import Derived.Test.YtflhpdlecpehkaaDoorSh
import Derived.Test.YtflhpdlecpehkaaDoorWorksZ
namespace Go.Proofs.YtflhpdlecpehkaaDoor
open Go.RowKit
set_option linter.unusedSimpArgs false
set_option linter.unusedVariables false
attribute [local go_sem ↓] Go.wp_at_zero Go.wp_at_succ
attribute [local go_sem ↓] eq_nat eq_nat_zero eq_int
theorem textz_facts (a : Int) (h : wl a.natAbs ≤ 20) : inum (itx a) = a ∧ icode (itx a) = 0 ∧ 1 ≤ (itx a).size ∧ (itx a).size ≤ 1000 ∧ Lib.nDigits a.natAbs ≤ 999 ∧ ((itx a).extract 0 1).toList = ((itx a).data.toList).take 1 := by
  have h1 := nDigits_nb a.natAbs
  have h2 := nb_wl a.natAbs
  have h3 := itx_size a
  have h4 : 0 < Lib.nDigits a.natAbs := by rw [← Lib.decDigits_length]; exact List.length_pos_iff.2 (dec_ne _)
  obtain ⟨p1, p2⟩ := parse_itx a (by omega)
  refine ⟨p2, p1, ?_, ?_, by omega, ?_⟩
  · rw [h3]; omega
  · rw [h3]; split <;> omega
  · rw [Lib.extract_toList]; simp [Lib.toList_data]
theorem textz_head (a : Int) (h : wl a.natAbs ≤ 20) : (((itx a).extract 0 1).toList == [45]) = decide (a < 0) := by
  rw [(textz_facts a h).2.2.2.2.2, itx_data]
  by_cases ha : a < 0
  · rw [if_pos ha, decide_eq_true ha]; rfl
  · rw [if_neg ha, decide_eq_false ha]
    cases hd : Lib.decDigits a.natAbs with
    | nil => exact absurd hd (dec_ne _)
    | cons c l =>
      have := dec_digits a.natAbs c (by rw [hd]; exact List.mem_cons_self ..)
      have hc : c ≠ 45 := fun e => by subst e; exact absurd this.1 (by decide)
      simpa using hc

set_option maxRecDepth 100000 in
set_option maxHeartbeats 4000000 in
theorem textz_neg (bbx : Bool) (vx : Value) (kx : Nat) (fx : Nat → Nat) (mx : Nat) (a : Int) (tx : ByteArray) (ty : ByteArray) (w : World) (HWx : Hid (Wa w vx kx fx)) (HFx : Hid (∀ i, i < kx → fx i < 4294967296)) (HVx : Hid (vl fx kx = mx)) (HAx : Hid ((if bbx then -((mx : Nat) : Int) else ((mx : Nat) : Int)) = a)) (hkx : kx ≤ 20) (HA0 : Hid (a < 0)) (HTX : Hid (itx a = tx)) (HPN : Hid (inum tx = a)) (HPC : Hid (icode tx = 0)) (h1 : 1 ≤ tx.size) (h2 : tx.size ≤ 1000) (HTY : Hid ((⟨(Lib.decDigits (Int.natAbs a)).toArray⟩ : ByteArray) = ty)) (HE : Hid (((tx.extract 0 1).toList == [45]) = true)) (HCT : Hid ((⟨#[45]⟩ : ByteArray) ++ ty = tx)) (hty : ty.size ≤ 1000) (HT : Hid (Tab w)) :
    Calls Tryd.prog 4 #[.agg #[.bool bbx, vx]] w fun e w' => e = .returned (.bool true) ∧ Below w.heap.size w w' := by
  obtain ⟨ao_x, c_x, rfl⟩ := HWx.out.slice
  have hm_x : wl mx ≤ 20 := by rw [← HVx.out]; have := wl_le.2 (vl_lt HFx.out); omega
  have hb_x : wl (Int.natAbs (a)) ≤ 20 := by rw [zsize HAx.out]; exact hm_x
  have ht_x : tw (Int.natAbs (a)) ≤ 60 := by have := tw_wl (Int.natAbs (a)); omega
  have h1i : (1 : Int) ≤ (tx.size : Int) := by omega
  go_enter Tryd.func4, Tryd.ntmps4
  refine sK fun K hK => ?_
  refine wp_region_lit ?_
  go_wp2
  refine hK.out _ _ ?_; clear hK K
  show Code.wp _ _ _ _ _
  refine forgetW (fun w2 => Bx w2 (w.heap.size) 45 #[.bool (bbx), (.slice ao_x kx c_x)] ∧ Below w.heap.size w w2) ⟨Bx.at rfl, (Below.refl _ _).alloc (Nat.le_refl _) _⟩ ?_
  rintro Wx ⟨bx0, HB⟩
  replace HB := Lib.hid HB
  refine wp_seq ?_
  have lx0 := bx0.cells
  have BX0 := Lib.hid bx0
  clear bx0
  refine sK fun K hK => ?_
  have HS0 := Lib.hid (HB.out.size)
  have MX0 : w.heap.size < Wx.heap.size := BX0.out.lt
  refine wp_region_seqplan 4 [(true, 0), (false, 1), (true, 2), (true, 3)] (by rfl) (by simp) (fun T hT => ?_)
  refine wpPlan_takeL (v := ?_) rfl (by rfl) (fun w' hw => ?_) ?_; rotate_left; go_simp; with_reducible rfl; simp only [Act.put, rA, rB, rC]
  refine wpPlan_slice (cs := #[.bool (bbx), (.slice ao_x kx c_x)]) (E := 45) (n := 1) rfl (by rfl) (fun w' hw => ?_) (fun gx1 vv1 hg0 yx1 bx1 => ?_)
  · go_simp
  have HG0 := Lib.hid hg0; clear hg0
  replace yx1 : w.heap.size ≤ gx1 := by first | exact Nat.le_trans HS0.out yx1 | exact Nat.le_trans HB.out.size yx1
  have BX1 := Lib.hid bx1; clear bx1
  replace BX0 := bG BX0 HG0
  replace HB := Lib.hid (HB.out.trans (HG0.out.mono HB.out.size))
  clear HG0
  clear lx0; have lx0 := BX0.out.cells
  simp only [Act.put, rA, rB, rC]
  refine wpPlan_callL rfl (by rfl) Tryd.call14 (fun w' hw => few1_ok _ _ _ _ 20 gx1 _ (BX1.out.gr hw) (by omega)) (by rfl) ?_
  simp only [Act.put, rA, rB, rC]
  refine wpPlan_takeL (v := ?_) rfl (by rfl) (fun w' hw => ?_) ?_; rotate_left; go_simp; with_reducible rfl; simp only [Act.put, rA, rB, rC]
  refine wpPlan_nil (hT.out _ _ ?_); clear hT T
  intro vw1 hg
  simp only [puts, Act.put, rA, rB, rC, rD, rE, ↓reduceIte, Nat.reduceEqDiff]
  clear lx0
  clear BX1
  have HG := Lib.hid (hg)
  clear hg
  replace BX0 := bG BX0 HG
  have r0 := Gr.refl vw1
  go_wp2
  refine hK.out _ _ ?_; clear hK K
  show Code.wp _ _ _ _ _
  clear r0
  refine forgetW (fun w2 => Bx w2 (w.heap.size) 45 #[.bool (bbx), (.slice ao_x kx c_x)] ∧ Below w.heap.size w w2) ⟨BX0.out, HB.out.trans (HG.out.mono HB.out.size)⟩ ?_
  clear HB HG BX0
  rintro Wx1 ⟨bx0, HB⟩
  replace HB := Lib.hid HB
  refine wp_cond_false (by rfl) ?_
  refine wp_skip ?_
  show Code.wp _ _ _ _ _
  have lx0 := bx0.cells
  have BX0 := Lib.hid bx0
  clear bx0
  refine sK fun K hK => ?_
  refine wp_region_seqplan 2 [(true, 0), (true, 1)] (by rfl) (by simp) (fun T hT => ?_)
  refine wpPlan_takeL (v := ?_) rfl (by rfl) (fun w' hw => ?_) ?_; rotate_left; go_simp; with_reducible rfl; simp only [Act.put, rA, rB, rC]
  refine wpPlan_callL rfl (by rfl) Tryd.call15 (fun w' hw => zlof bbx kx fx mx a ao_x c_x w' (Lib.hid (HWx.out.gr (Gr.trans HB.out hw))) HFx HVx HAx (by first | omega | exact wlc (by decide)) (by first | omega | exact wlc (by decide))) (by rfl) ?_
  simp only [Act.put, rA, rB, rC]
  refine wpPlan_nil (hT.out _ _ ?_); clear hT T
  intro vw2 hg
  simp only [puts, Act.put, rA, rB, rC, rD, rE, ↓reduceIte, Nat.reduceEqDiff]
  clear lx0
  have HG := Lib.hid (hg)
  clear hg
  replace BX0 := bG BX0 HG
  have r0 := Gr.refl vw2
  go_wp2
  refine hK.out _ _ ?_; clear hK K
  show Code.wp _ _ _ _ _
  clear r0
  have hsz : w.heap.size ≤ vw2.heap.size := Nat.le_trans HB.out.size HG.out.size
  have mx0 : w.heap.size < vw2.heap.size := BX0.out.lt
  refine forgetW (fun w2 => Bx w2 (vw2.heap.size) 29 #[.int .u64 (lo (Int.natAbs (a))), .string (bg (Int.natAbs (a))), .bool (decide ((a) < 0))] ∧ Below w.heap.size w w2) ⟨(Bx.at (by simp) : Bx _ (vw2.heap.size) _ _), (HB.out.trans (HG.out.mono HB.out.size)).alloc (by first | omega | (simp; omega)) _⟩ ?_
  clear HB HG BX0
  rintro Wx3 ⟨bx2, HB⟩
  replace HB := Lib.hid HB
  have yx2 : w.heap.size ≤ vw2.heap.size := by omega
  have qx0_2 : w.heap.size < vw2.heap.size := by omega
  generalize hx2 : vw2.heap.size = gx2 at *
  clear hx2
  clear hsz mx0
  have lx2 := bx2.cells
  have BX2 := Lib.hid bx2
  clear bx2
  refine sK fun K hK => ?_
  refine wp_region_seqplan 3 [(true, 0), (true, 1), (true, 2)] (by rfl) (by simp) (fun T hT => ?_)
  refine wpPlan_takeL (v := ?_) rfl (by rfl) (fun w' hw => ?_) ?_; rotate_left; go_simp; with_reducible rfl; simp only [Act.put, rA, rB, rC]
  refine wpPlan_callL rfl (by rfl) Tryd.call11 (fun w' hw => zitext (a) tx _ HTX.out (by first | omega | exact wlc (by decide)) (Lib.hid (HT.out.gr (Gr.trans HB.out hw)))) (by rfl) ?_
  simp only [Act.put, rA, rB, rC]
  refine wpPlan_takeL (v := ?_) rfl (by rfl) (fun w' hw => ?_) ?_; rotate_left; go_simp; with_reducible rfl; simp only [Act.put, rA, rB, rC]
  refine wpPlan_nil (hT.out _ _ ?_); clear hT T
  intro vw3 hg
  simp only [puts, Act.put, rA, rB, rC, rD, rE, ↓reduceIte, Nat.reduceEqDiff]
  clear lx2
  have HG := Lib.hid (hg)
  clear hg
  replace BX2 := bG BX2 HG
  have r0 := Gr.refl vw3
  go_wp2
  refine hK.out _ _ ?_; clear hK K
  show Code.wp _ _ _ _ _
  clear r0
  refine forgetW (fun w2 => Bx w2 gx2 29 #[.int .u64 (lo (Int.natAbs (a))), .string (bg (Int.natAbs (a))), .bool (decide ((a) < 0))] ∧ Below w.heap.size w w2) ⟨BX2.out, HB.out.trans (HG.out.mono HB.out.size)⟩ ?_
  clear HB HG BX2
  rintro Wx4 ⟨bx2, HB⟩
  replace HB := Lib.hid HB
  have BX2 := Lib.hid bx2
  clear bx2
  refine sK fun K hK => ?_
  refine wp_region_seqplan 5 [(true, 0), (true, 1), (true, 2), (true, 3), (true, 4)] (by rfl) (by simp) (fun T hT => ?_)
  refine wpPlan_takeL (v := ?_) rfl (by rfl) (fun w' hw => ?_) ?_; rotate_left; go_simp; with_reducible rfl; simp only [Act.put, rA, rB, rC]
  refine wpPlan_callL rfl (by rfl) Tryd.call9 (fun w' hw => ziparse tx (a) 0 _ HPN.out HPC.out (by omega)) (by rfl) ?_
  simp only [Act.put, rA, rB, rC]
  iterate 3 (refine wpPlan_takeL (v := ?_) rfl (by rfl) (fun w' hw => ?_) ?_; rotate_left; go_simp; with_reducible rfl; simp only [Act.put, rA, rB, rC])
  refine wpPlan_nil (hT.out _ _ ?_); clear hT T
  intro vw4 hg
  simp only [puts, Act.put, rA, rB, rC, rD, rE, ↓reduceIte, Nat.reduceEqDiff]
  have HG := Lib.hid (hg)
  clear hg
  replace BX2 := bG BX2 HG
  have r0 := Gr.refl vw4
  go_wp2
  refine hK.out _ _ ?_; clear hK K
  show Code.wp _ _ _ _ _
  clear r0
  have hsz : w.heap.size ≤ vw4.heap.size := Nat.le_trans HB.out.size HG.out.size
  have mx2 : gx2 < vw4.heap.size := BX2.out.lt
  refine forgetW (fun w2 => Bx w2 gx2 29 #[.int .u64 (lo (Int.natAbs (a))), .string (bg (Int.natAbs (a))), .bool (decide ((a) < 0))] ∧ Bx w2 (vw4.heap.size) 29 #[.int .u64 (lo (Int.natAbs (a))), .string (bg (Int.natAbs (a))), .bool (decide ((a) < 0))] ∧ Below w.heap.size w w2) ⟨(BX2.out).alloc _, (Bx.at (by simp) : Bx _ (vw4.heap.size) _ _), (HB.out.trans (HG.out.mono HB.out.size)).alloc (by first | omega | (simp; omega)) _⟩ ?_
  clear HB HG BX2
  rintro Wx5 ⟨bx2, bx3, HB⟩
  replace HB := Lib.hid HB
  have yx3 : w.heap.size ≤ vw4.heap.size := by omega
  have qx2_3 : gx2 < vw4.heap.size := by omega
  generalize hx3 : vw4.heap.size = gx3 at *
  clear hx3
  clear hsz mx2
  have hd1 : 0 < ((tx.size : Int)) := by have ha0 := HA0.out; omega
  have hd2 : 0 < tx.size := by have e := hd1; omega
  have he1 : ((tx.extract 0 1).toList == [45]) = true := HE.out
  have hlen : ¬ (9223372036854775807 < 1 + ty.size) := by omega
  have hcat : (⟨#[45]⟩ : ByteArray) ++ ty = tx := HCT.out
  have lx2 := bx2.cells
  have lx3 := bx3.cells
  have BX2 := Lib.hid bx2
  have BX3 := Lib.hid bx3
  clear bx2 bx3
  refine sK fun K hK => ?_
  refine wp_region_plan 49 [] [] (fun _ => 0) (fun _ => .cells #[] 0) [(true, 0), (true, 1), (true, 2), (true, 3), (true, 4), (true, 5), (true, 6), (true, 7), (true, 8), (true, 9), (true, 10), (true, 11), (true, 12), (true, 13), (true, 14), (true, 15), (true, 16), (true, 17), (true, 18), (true, 19), (true, 20), (true, 21), (true, 22), (true, 23), (true, 24), (true, 25), (true, 26), (true, 27), (true, 28), (true, 29), (true, 30), (true, 31), (true, 32), (true, 33), (true, 34), (true, 35), (true, 36), (true, 37), (true, 38), (true, 39), (true, 40), (true, 41), (true, 42), (true, 43), (true, 44), (true, 45), (true, 46), (true, 47), (true, 48)] (by kernel_rfl) (by kernel_rfl) (fun i hi => by cases hi) (fun i hi => by cases hi) (fun _ _ _ _ _ h => h) (fun T hT => ?_)
  iterate 17 (refine wpPlan_takeL (v := ?_) rfl (by rfl) (fun w' hw => ?_) ?_; rotate_left; go_simp; with_reducible rfl; simp only [Act.put, rA, rB, rC])
  refine wpPlan_callL rfl (by rfl) Tryd.call16 (fun w' hw => zisign (a) (-1) _ (by have e9 : (a) < (0 : Int) := (by have ha0 := HA0.out; first | rfl | omega | (simp; done) | grind); exact sgI_lt e9)) (by rfl) ?_
  simp only [Act.put, rA, rB, rC]
  iterate 5 (refine wpPlan_takeL (v := ?_) rfl (by rfl) (fun w' hw => ?_) ?_; rotate_left; go_simp; with_reducible rfl; simp only [Act.put, rA, rB, rC])
  refine wpPlan_callL rfl (by rfl) Tryd.call16 (fun w' hw => zisign (a) (-1) _ (by have e9 : (a) < (0 : Int) := (by have ha0 := HA0.out; first | rfl | omega | (simp; done) | grind); exact sgI_lt e9)) (by rfl) ?_
  simp only [Act.put, rA, rB, rC]
  iterate 4 (refine wpPlan_takeL (v := ?_) rfl (by rfl) (fun w' hw => ?_) ?_; rotate_left; go_simp; with_reducible rfl; simp only [Act.put, rA, rB, rC])
  refine wpPlan_callL rfl (by rfl) Tryd.call18 (fun w' hw => abs_any (a) _) (by rfl) ?_
  simp only [Act.put, rA, rB, rC]
  refine wpPlan_callL rfl (by rfl) Tryd.call17 (fun w' hw => nztexts (Int.natAbs (a)) ty _ HTY.out (by first | omega | exact wlc (by decide)) (Lib.hid (HT.out.gr (Gr.trans HB.out hw)))) (by rfl) ?_
  simp only [Act.put, rA, rB, rC]
  iterate 6 (refine wpPlan_takeL (v := ?_) rfl (by rfl) (fun w' hw => ?_) ?_; rotate_left; go_simp; with_reducible rfl; simp only [Act.put, rA, rB, rC])
  refine wpPlan_callL rfl (by rfl) Tryd.call16 (fun w' hw => zisign (a) (-1) _ (by have e9 : (a) < (0 : Int) := (by have ha0 := HA0.out; first | rfl | omega | (simp; done) | grind); exact sgI_lt e9)) (by rfl) ?_
  simp only [Act.put, rA, rB, rC]
  iterate 2 (refine wpPlan_takeL (v := ?_) rfl (by rfl) (fun w' hw => ?_) ?_; rotate_left; go_simp; with_reducible rfl; simp only [Act.put, rA, rB, rC])
  iterate 5 (refine wpPlan_skipL rfl (by rfl) ?_; simp only [Act.put, rA, rB, rC])
  iterate 3 (refine wpPlan_takeL (v := ?_) rfl (by rfl) (fun w' hw => ?_) ?_; rotate_left; go_simp; with_reducible rfl; simp only [Act.put, rA, rB, rC])
  refine wpPlan_callL rfl (by rfl) Tryd.call8 (fun w' hw => worksz_any _ (Lib.hid (HT.out.gr (Gr.trans HB.out hw)))) (by rfl) ?_
  simp only [Act.put, rA, rB, rC]
  refine wpPlan_takeL (v := ?_) rfl (by rfl) (fun w' hw => ?_) ?_; rotate_left; go_simp; with_reducible rfl; simp only [Act.put, rA, rB, rC]
  refine wpPlan_nil (hT.out _ _ ?_); clear hT T
  intro G vw5 hg hf
  simp only [puts, Act.put, rA, rB, rC, rD, rE, ↓reduceIte, Nat.reduceEqDiff]
  clear lx2 lx3
  have HG := Lib.hid (hg)
  clear hg
  replace BX2 := bG BX2 HG
  replace BX3 := bG BX3 HG
  have r0 := Gr.refl vw5
  go_wp2
  refine hK.out _ _ ?_; clear hK K
  show Code.wp _ _ _ _ _
  clear r0
  refine forgetW (fun w2 => Below w.heap.size w w2) (HB.out.trans (HG.out.mono HB.out.size)) ?_
  clear HB HG BX2 BX3
  rintro Wx6 HB
  replace HB := Lib.hid HB
  clear hd1 hd2 he1 hlen hcat
  refine wp_ret ?_
  try simp only [Exit.then, Exit.inBlock]
  have r0 := Gr.refl Wx6
  exact bodyPost_ret (v := .bool true) (by simp [results, Tryd.results4, go_sem]) rfl ⟨rfl, HB.out⟩

set_option maxRecDepth 100000 in
set_option maxHeartbeats 4000000 in
theorem textz_pos (bbx : Bool) (vx : Value) (kx : Nat) (fx : Nat → Nat) (mx : Nat) (a : Int) (tx : ByteArray) (w : World) (HWx : Hid (Wa w vx kx fx)) (HFx : Hid (∀ i, i < kx → fx i < 4294967296)) (HVx : Hid (vl fx kx = mx)) (HAx : Hid ((if bbx then -((mx : Nat) : Int) else ((mx : Nat) : Int)) = a)) (hkx : kx ≤ 20) (HA0 : Hid (0 ≤ a)) (HTX : Hid (itx a = tx)) (HPN : Hid (inum tx = a)) (HPC : Hid (icode tx = 0)) (h1 : 1 ≤ tx.size) (h2 : tx.size ≤ 1000) (HTY : Hid ((⟨(Lib.decDigits (Int.natAbs a)).toArray⟩ : ByteArray) = tx)) (HE : Hid (((tx.extract 0 1).toList == [45]) = false)) (HT : Hid (Tab w)) :
    Calls Tryd.prog 4 #[.agg #[.bool bbx, vx]] w fun e w' => e = .returned (.bool true) ∧ Below w.heap.size w w' := by
  obtain ⟨ao_x, c_x, rfl⟩ := HWx.out.slice
  have hm_x : wl mx ≤ 20 := by rw [← HVx.out]; have := wl_le.2 (vl_lt HFx.out); omega
  have hb_x : wl (Int.natAbs (a)) ≤ 20 := by rw [zsize HAx.out]; exact hm_x
  have ht_x : tw (Int.natAbs (a)) ≤ 60 := by have := tw_wl (Int.natAbs (a)); omega
  have h1i : (1 : Int) ≤ (tx.size : Int) := by omega
  go_enter Tryd.func4, Tryd.ntmps4
  refine sK fun K hK => ?_
  refine wp_region_lit ?_
  go_wp2
  refine hK.out _ _ ?_; clear hK K
  show Code.wp _ _ _ _ _
  refine forgetW (fun w2 => Bx w2 (w.heap.size) 45 #[.bool (bbx), (.slice ao_x kx c_x)] ∧ Below w.heap.size w w2) ⟨Bx.at rfl, (Below.refl _ _).alloc (Nat.le_refl _) _⟩ ?_
  rintro Wx ⟨bx0, HB⟩
  replace HB := Lib.hid HB
  refine wp_seq ?_
  have lx0 := bx0.cells
  have BX0 := Lib.hid bx0
  clear bx0
  refine sK fun K hK => ?_
  have HS0 := Lib.hid (HB.out.size)
  have MX0 : w.heap.size < Wx.heap.size := BX0.out.lt
  refine wp_region_seqplan 4 [(true, 0), (false, 1), (true, 2), (true, 3)] (by rfl) (by simp) (fun T hT => ?_)
  refine wpPlan_takeL (v := ?_) rfl (by rfl) (fun w' hw => ?_) ?_; rotate_left; go_simp; with_reducible rfl; simp only [Act.put, rA, rB, rC]
  refine wpPlan_slice (cs := #[.bool (bbx), (.slice ao_x kx c_x)]) (E := 45) (n := 1) rfl (by rfl) (fun w' hw => ?_) (fun gx1 vv1 hg0 yx1 bx1 => ?_)
  · go_simp
  have HG0 := Lib.hid hg0; clear hg0
  replace yx1 : w.heap.size ≤ gx1 := by first | exact Nat.le_trans HS0.out yx1 | exact Nat.le_trans HB.out.size yx1
  have BX1 := Lib.hid bx1; clear bx1
  replace BX0 := bG BX0 HG0
  replace HB := Lib.hid (HB.out.trans (HG0.out.mono HB.out.size))
  clear HG0
  clear lx0; have lx0 := BX0.out.cells
  simp only [Act.put, rA, rB, rC]
  refine wpPlan_callL rfl (by rfl) Tryd.call14 (fun w' hw => few1_ok _ _ _ _ 20 gx1 _ (BX1.out.gr hw) (by omega)) (by rfl) ?_
  simp only [Act.put, rA, rB, rC]
  refine wpPlan_takeL (v := ?_) rfl (by rfl) (fun w' hw => ?_) ?_; rotate_left; go_simp; with_reducible rfl; simp only [Act.put, rA, rB, rC]
  refine wpPlan_nil (hT.out _ _ ?_); clear hT T
  intro vw1 hg
  simp only [puts, Act.put, rA, rB, rC, rD, rE, ↓reduceIte, Nat.reduceEqDiff]
  clear lx0
  clear BX1
  have HG := Lib.hid (hg)
  clear hg
  replace BX0 := bG BX0 HG
  have r0 := Gr.refl vw1
  go_wp2
  refine hK.out _ _ ?_; clear hK K
  show Code.wp _ _ _ _ _
  clear r0
  refine forgetW (fun w2 => Bx w2 (w.heap.size) 45 #[.bool (bbx), (.slice ao_x kx c_x)] ∧ Below w.heap.size w w2) ⟨BX0.out, HB.out.trans (HG.out.mono HB.out.size)⟩ ?_
  clear HB HG BX0
  rintro Wx1 ⟨bx0, HB⟩
  replace HB := Lib.hid HB
  refine wp_cond_false (by rfl) ?_
  refine wp_skip ?_
  show Code.wp _ _ _ _ _
  have lx0 := bx0.cells
  have BX0 := Lib.hid bx0
  clear bx0
  refine sK fun K hK => ?_
  refine wp_region_seqplan 2 [(true, 0), (true, 1)] (by rfl) (by simp) (fun T hT => ?_)
  refine wpPlan_takeL (v := ?_) rfl (by rfl) (fun w' hw => ?_) ?_; rotate_left; go_simp; with_reducible rfl; simp only [Act.put, rA, rB, rC]
  refine wpPlan_callL rfl (by rfl) Tryd.call15 (fun w' hw => zlof bbx kx fx mx a ao_x c_x w' (Lib.hid (HWx.out.gr (Gr.trans HB.out hw))) HFx HVx HAx (by first | omega | exact wlc (by decide)) (by first | omega | exact wlc (by decide))) (by rfl) ?_
  simp only [Act.put, rA, rB, rC]
  refine wpPlan_nil (hT.out _ _ ?_); clear hT T
  intro vw2 hg
  simp only [puts, Act.put, rA, rB, rC, rD, rE, ↓reduceIte, Nat.reduceEqDiff]
  clear lx0
  have HG := Lib.hid (hg)
  clear hg
  replace BX0 := bG BX0 HG
  have r0 := Gr.refl vw2
  go_wp2
  refine hK.out _ _ ?_; clear hK K
  show Code.wp _ _ _ _ _
  clear r0
  have hsz : w.heap.size ≤ vw2.heap.size := Nat.le_trans HB.out.size HG.out.size
  have mx0 : w.heap.size < vw2.heap.size := BX0.out.lt
  refine forgetW (fun w2 => Bx w2 (vw2.heap.size) 29 #[.int .u64 (lo (Int.natAbs (a))), .string (bg (Int.natAbs (a))), .bool (decide ((a) < 0))] ∧ Below w.heap.size w w2) ⟨(Bx.at (by simp) : Bx _ (vw2.heap.size) _ _), (HB.out.trans (HG.out.mono HB.out.size)).alloc (by first | omega | (simp; omega)) _⟩ ?_
  clear HB HG BX0
  rintro Wx3 ⟨bx2, HB⟩
  replace HB := Lib.hid HB
  have yx2 : w.heap.size ≤ vw2.heap.size := by omega
  have qx0_2 : w.heap.size < vw2.heap.size := by omega
  generalize hx2 : vw2.heap.size = gx2 at *
  clear hx2
  clear hsz mx0
  have lx2 := bx2.cells
  have BX2 := Lib.hid bx2
  clear bx2
  refine sK fun K hK => ?_
  refine wp_region_seqplan 3 [(true, 0), (true, 1), (true, 2)] (by rfl) (by simp) (fun T hT => ?_)
  refine wpPlan_takeL (v := ?_) rfl (by rfl) (fun w' hw => ?_) ?_; rotate_left; go_simp; with_reducible rfl; simp only [Act.put, rA, rB, rC]
  refine wpPlan_callL rfl (by rfl) Tryd.call11 (fun w' hw => zitext (a) tx _ HTX.out (by first | omega | exact wlc (by decide)) (Lib.hid (HT.out.gr (Gr.trans HB.out hw)))) (by rfl) ?_
  simp only [Act.put, rA, rB, rC]
  refine wpPlan_takeL (v := ?_) rfl (by rfl) (fun w' hw => ?_) ?_; rotate_left; go_simp; with_reducible rfl; simp only [Act.put, rA, rB, rC]
  refine wpPlan_nil (hT.out _ _ ?_); clear hT T
  intro vw3 hg
  simp only [puts, Act.put, rA, rB, rC, rD, rE, ↓reduceIte, Nat.reduceEqDiff]
  clear lx2
  have HG := Lib.hid (hg)
  clear hg
  replace BX2 := bG BX2 HG
  have r0 := Gr.refl vw3
  go_wp2
  refine hK.out _ _ ?_; clear hK K
  show Code.wp _ _ _ _ _
  clear r0
  refine forgetW (fun w2 => Bx w2 gx2 29 #[.int .u64 (lo (Int.natAbs (a))), .string (bg (Int.natAbs (a))), .bool (decide ((a) < 0))] ∧ Below w.heap.size w w2) ⟨BX2.out, HB.out.trans (HG.out.mono HB.out.size)⟩ ?_
  clear HB HG BX2
  rintro Wx4 ⟨bx2, HB⟩
  replace HB := Lib.hid HB
  have BX2 := Lib.hid bx2
  clear bx2
  refine sK fun K hK => ?_
  refine wp_region_seqplan 5 [(true, 0), (true, 1), (true, 2), (true, 3), (true, 4)] (by rfl) (by simp) (fun T hT => ?_)
  refine wpPlan_takeL (v := ?_) rfl (by rfl) (fun w' hw => ?_) ?_; rotate_left; go_simp; with_reducible rfl; simp only [Act.put, rA, rB, rC]
  refine wpPlan_callL rfl (by rfl) Tryd.call9 (fun w' hw => ziparse tx (a) 0 _ HPN.out HPC.out (by omega)) (by rfl) ?_
  simp only [Act.put, rA, rB, rC]
  iterate 3 (refine wpPlan_takeL (v := ?_) rfl (by rfl) (fun w' hw => ?_) ?_; rotate_left; go_simp; with_reducible rfl; simp only [Act.put, rA, rB, rC])
  refine wpPlan_nil (hT.out _ _ ?_); clear hT T
  intro vw4 hg
  simp only [puts, Act.put, rA, rB, rC, rD, rE, ↓reduceIte, Nat.reduceEqDiff]
  have HG := Lib.hid (hg)
  clear hg
  replace BX2 := bG BX2 HG
  have r0 := Gr.refl vw4
  go_wp2
  refine hK.out _ _ ?_; clear hK K
  show Code.wp _ _ _ _ _
  clear r0
  have hsz : w.heap.size ≤ vw4.heap.size := Nat.le_trans HB.out.size HG.out.size
  have mx2 : gx2 < vw4.heap.size := BX2.out.lt
  refine forgetW (fun w2 => Bx w2 gx2 29 #[.int .u64 (lo (Int.natAbs (a))), .string (bg (Int.natAbs (a))), .bool (decide ((a) < 0))] ∧ Bx w2 (vw4.heap.size) 29 #[.int .u64 (lo (Int.natAbs (a))), .string (bg (Int.natAbs (a))), .bool (decide ((a) < 0))] ∧ Below w.heap.size w w2) ⟨(BX2.out).alloc _, (Bx.at (by simp) : Bx _ (vw4.heap.size) _ _), (HB.out.trans (HG.out.mono HB.out.size)).alloc (by first | omega | (simp; omega)) _⟩ ?_
  clear HB HG BX2
  rintro Wx5 ⟨bx2, bx3, HB⟩
  replace HB := Lib.hid HB
  have yx3 : w.heap.size ≤ vw4.heap.size := by omega
  have qx2_3 : gx2 < vw4.heap.size := by omega
  generalize hx3 : vw4.heap.size = gx3 at *
  clear hx3
  clear hsz mx2
  have hd1 : 0 < ((tx.size : Int)) := by have ha0 := HA0.out; omega
  have hd2 : 0 < tx.size := by have e := hd1; omega
  have he1 : ((tx.extract 0 1).toList == [45]) = false := HE.out
  obtain ⟨t1, HT1⟩ : ∃ z, Hid (sgI (a) = z) := ⟨_, Lib.hid rfl⟩
  have ht1 : 0 ≤ t1 := by rw [← HT1.out]; exact sgI_nonneg (by have ha0 := HA0.out; omega)
  have hd3 : ¬ (t1 < 0) := by have ha0 := HA0.out; omega
  obtain ⟨t2, HT2⟩ : ∃ z, Hid (sgI (a) = z) := ⟨_, Lib.hid rfl⟩
  have ht2 : 0 ≤ t2 := by rw [← HT2.out]; exact sgI_nonneg (by have ha0 := HA0.out; omega)
  have hd4 : 0 ≤ t2 := by have ha0 := HA0.out; omega
  obtain ⟨t3, HT3⟩ : ∃ z, Hid (sgI (a) = z) := ⟨_, Lib.hid rfl⟩
  have ht3 : 0 ≤ t3 := by rw [← HT3.out]; exact sgI_nonneg (by have ha0 := HA0.out; omega)
  have hd5 : ¬ (t3 < 0) := by have ha0 := HA0.out; omega
  have lx2 := bx2.cells
  have lx3 := bx3.cells
  have BX2 := Lib.hid bx2
  have BX3 := Lib.hid bx3
  clear bx2 bx3
  refine sK fun K hK => ?_
  refine wp_region_plan 49 [] [] (fun _ => 0) (fun _ => .cells #[] 0) [(true, 0), (true, 1), (true, 2), (true, 3), (true, 4), (true, 5), (true, 6), (true, 7), (true, 8), (true, 9), (true, 10), (true, 11), (true, 12), (true, 13), (true, 14), (true, 15), (true, 16), (true, 17), (true, 18), (true, 19), (true, 20), (true, 21), (true, 22), (true, 23), (true, 24), (true, 25), (true, 26), (true, 27), (true, 28), (true, 29), (true, 30), (true, 31), (true, 32), (true, 33), (true, 34), (true, 35), (true, 36), (true, 37), (true, 38), (true, 39), (true, 40), (true, 41), (true, 42), (true, 43), (true, 44), (true, 45), (true, 46), (true, 47), (true, 48)] (by kernel_rfl) (by kernel_rfl) (fun i hi => by cases hi) (fun i hi => by cases hi) (fun _ _ _ _ _ h => h) (fun T hT => ?_)
  iterate 17 (refine wpPlan_takeL (v := ?_) rfl (by rfl) (fun w' hw => ?_) ?_; rotate_left; go_simp; with_reducible rfl; simp only [Act.put, rA, rB, rC])
  refine wpPlan_callL rfl (by rfl) Tryd.call16 (fun w' hw => zisign (a) (t1) _ HT1.out) (by rfl) ?_
  simp only [Act.put, rA, rB, rC]
  iterate 5 (refine wpPlan_takeL (v := ?_) rfl (by rfl) (fun w' hw => ?_) ?_; rotate_left; go_simp; with_reducible rfl; simp only [Act.put, rA, rB, rC])
  refine wpPlan_callL rfl (by rfl) Tryd.call16 (fun w' hw => zisign (a) (t2) _ HT2.out) (by rfl) ?_
  simp only [Act.put, rA, rB, rC]
  iterate 2 (refine wpPlan_takeL (v := ?_) rfl (by rfl) (fun w' hw => ?_) ?_; rotate_left; go_simp; with_reducible rfl; simp only [Act.put, rA, rB, rC])
  iterate 6 (refine wpPlan_skipL rfl (by rfl) ?_; simp only [Act.put, rA, rB, rC])
  iterate 4 (refine wpPlan_takeL (v := ?_) rfl (by rfl) (fun w' hw => ?_) ?_; rotate_left; go_simp; with_reducible rfl; simp only [Act.put, rA, rB, rC])
  refine wpPlan_callL rfl (by rfl) Tryd.call16 (fun w' hw => zisign (a) (t3) _ HT3.out) (by rfl) ?_
  simp only [Act.put, rA, rB, rC]
  iterate 4 (refine wpPlan_takeL (v := ?_) rfl (by rfl) (fun w' hw => ?_) ?_; rotate_left; go_simp; with_reducible rfl; simp only [Act.put, rA, rB, rC])
  refine wpPlan_callL rfl (by rfl) Tryd.call18 (fun w' hw => abs_any (a) _) (by rfl) ?_
  simp only [Act.put, rA, rB, rC]
  refine wpPlan_callL rfl (by rfl) Tryd.call17 (fun w' hw => nztexts (Int.natAbs (a)) tx _ HTY.out (by first | omega | exact wlc (by decide)) (Lib.hid (HT.out.gr (Gr.trans HB.out hw)))) (by rfl) ?_
  simp only [Act.put, rA, rB, rC]
  iterate 4 (refine wpPlan_takeL (v := ?_) rfl (by rfl) (fun w' hw => ?_) ?_; rotate_left; go_simp; with_reducible rfl; simp only [Act.put, rA, rB, rC])
  refine wpPlan_callL rfl (by rfl) Tryd.call8 (fun w' hw => worksz_any _ (Lib.hid (HT.out.gr (Gr.trans HB.out hw)))) (by rfl) ?_
  simp only [Act.put, rA, rB, rC]
  refine wpPlan_takeL (v := ?_) rfl (by rfl) (fun w' hw => ?_) ?_; rotate_left; go_simp; with_reducible rfl; simp only [Act.put, rA, rB, rC]
  refine wpPlan_nil (hT.out _ _ ?_); clear hT T
  intro G vw5 hg hf
  simp only [puts, Act.put, rA, rB, rC, rD, rE, ↓reduceIte, Nat.reduceEqDiff]
  clear lx2 lx3
  have HG := Lib.hid (hg)
  clear hg
  replace BX2 := bG BX2 HG
  replace BX3 := bG BX3 HG
  have r0 := Gr.refl vw5
  go_wp2
  refine hK.out _ _ ?_; clear hK K
  show Code.wp _ _ _ _ _
  clear r0
  refine forgetW (fun w2 => Below w.heap.size w w2) (HB.out.trans (HG.out.mono HB.out.size)) ?_
  clear HB HG BX2 BX3
  rintro Wx6 HB
  replace HB := Lib.hid HB
  clear hd1 hd2 he1 ht1 hd3 ht2 hd4 ht3 hd5
  refine wp_ret ?_
  try simp only [Exit.then, Exit.inBlock]
  have r0 := Gr.refl Wx6
  exact bodyPost_ret (v := .bool true) (by simp [results, Tryd.results4, go_sem]) rfl ⟨rfl, HB.out⟩

set_option maxRecDepth 100000 in
set_option maxHeartbeats 4000000 in
theorem textz_big1 (bbx : Bool) (vx : Value) (kx : Nat) (fx : Nat → Nat) (mx : Nat) (a : Int)  (w : World) (HWx : Hid (Wa w vx kx fx)) (HFx : Hid (∀ i, i < kx → fx i < 4294967296)) (HVx : Hid (vl fx kx = mx)) (HAx : Hid ((if bbx then -((mx : Nat) : Int) else ((mx : Nat) : Int)) = a))  (hkx : 20 < kx) (HT : Hid (Tab w)) :
    Calls Tryd.prog 4 #[.agg #[.bool bbx, vx]] w fun e w' => e = .returned (.bool true) ∧ Below w.heap.size w w' := by
  obtain ⟨ao_x, c_x, rfl⟩ := HWx.out.slice
  go_enter Tryd.func4, Tryd.ntmps4
  refine sK fun K hK => ?_
  refine wp_region_lit ?_
  go_wp2
  refine hK.out _ _ ?_; clear hK K
  show Code.wp _ _ _ _ _
  refine forgetW (fun w2 => Bx w2 (w.heap.size) 45 #[.bool (bbx), (.slice ao_x kx c_x)] ∧ Below w.heap.size w w2) ⟨Bx.at rfl, (Below.refl _ _).alloc (Nat.le_refl _) _⟩ ?_
  rintro Wx ⟨bx0, HB⟩
  replace HB := Lib.hid HB
  refine wp_seq ?_
  have lx0 := bx0.cells
  have BX0 := Lib.hid bx0
  clear bx0
  refine sK fun K hK => ?_
  have HS0 := Lib.hid (HB.out.size)
  have MX0 : w.heap.size < Wx.heap.size := BX0.out.lt
  refine wp_region_seqplan 4 [(true, 0), (false, 1), (true, 2), (true, 3)] (by rfl) (by simp) (fun T hT => ?_)
  refine wpPlan_takeL (v := ?_) rfl (by rfl) (fun w' hw => ?_) ?_; rotate_left; go_simp; with_reducible rfl; simp only [Act.put, rA, rB, rC]
  refine wpPlan_slice (cs := #[.bool (bbx), (.slice ao_x kx c_x)]) (E := 45) (n := 1) rfl (by rfl) (fun w' hw => ?_) (fun gx1 vv1 hg0 yx1 bx1 => ?_)
  · go_simp
  have HG0 := Lib.hid hg0; clear hg0
  replace yx1 : w.heap.size ≤ gx1 := by first | exact Nat.le_trans HS0.out yx1 | exact Nat.le_trans HB.out.size yx1
  have BX1 := Lib.hid bx1; clear bx1
  replace BX0 := bG BX0 HG0
  replace HB := Lib.hid (HB.out.trans (HG0.out.mono HB.out.size))
  clear HG0
  clear lx0; have lx0 := BX0.out.cells
  simp only [Act.put, rA, rB, rC]
  refine wpPlan_callL rfl (by rfl) Tryd.call14 (fun w' hw => few1_no0 _ _ _ _ 20 gx1 _ (BX1.out.gr hw) (by omega)) (by rfl) ?_
  simp only [Act.put, rA, rB, rC]
  refine wpPlan_takeL (v := ?_) rfl (by rfl) (fun w' hw => ?_) ?_; rotate_left; go_simp; with_reducible rfl; simp only [Act.put, rA, rB, rC]
  refine wpPlan_nil (hT.out _ _ ?_); clear hT T
  intro vw1 hg
  simp only [puts, Act.put, rA, rB, rC, rD, rE, ↓reduceIte, Nat.reduceEqDiff]
  clear lx0
  clear BX1
  have HG := Lib.hid (hg)
  clear hg
  replace BX0 := bG BX0 HG
  have r0 := Gr.refl vw1
  go_wp2
  refine hK.out _ _ ?_; clear hK K
  show Code.wp _ _ _ _ _
  clear r0
  refine forgetW (fun w2 => Bx w2 (w.heap.size) 45 #[.bool (bbx), (.slice ao_x kx c_x)] ∧ Below w.heap.size w w2) ⟨BX0.out, HB.out.trans (HG.out.mono HB.out.size)⟩ ?_
  clear HB HG BX0
  rintro Wx1 ⟨bx0, HB⟩
  replace HB := Lib.hid HB
  refine wp_cond_true (by rfl) ?_
  have BX0 := Lib.hid bx0
  clear bx0
  refine sK fun K hK => ?_
  refine wp_region_seqplan 2 [(true, 0), (true, 1)] (by rfl) (by simp) (fun T hT => ?_)
  refine wpPlan_callL rfl (by rfl) Tryd.call8 (fun w' hw => worksz_any _ (Lib.hid (HT.out.gr (Gr.trans HB.out hw)))) (by rfl) ?_
  simp only [Act.put, rA, rB, rC]
  refine wpPlan_takeL (v := ?_) rfl (by rfl) (fun w' hw => ?_) ?_; rotate_left; go_simp; with_reducible rfl; simp only [Act.put, rA, rB, rC]
  refine wpPlan_nil (hT.out _ _ ?_); clear hT T
  intro vw2 hg
  simp only [puts, Act.put, rA, rB, rC, rD, rE, ↓reduceIte, Nat.reduceEqDiff]
  have HG := Lib.hid (hg)
  clear hg
  replace BX0 := bG BX0 HG
  have r0 := Gr.refl vw2
  go_wp2
  refine hK.out _ _ ?_; clear hK K
  show Code.wp _ _ _ _ _
  clear r0
  refine forgetW (fun w2 => Bx w2 (w.heap.size) 45 #[.bool (bbx), (.slice ao_x kx c_x)] ∧ Below w.heap.size w w2) ⟨BX0.out, HB.out.trans (HG.out.mono HB.out.size)⟩ ?_
  clear HB HG BX0
  rintro Wx2 ⟨bx0, HB⟩
  replace HB := Lib.hid HB
  refine wp_ret ?_
  try simp only [Exit.then, Exit.inBlock]
  have r0 := Gr.refl Wx2
  exact bodyPost_ret (v := .bool true) (by simp [results, Tryd.results4, go_sem]) rfl ⟨rfl, HB.out⟩

theorem textz_law (bbx : Bool) (vx : Value) (kx : Nat) (fx : Nat → Nat) (w : World) (HWx : Hid (Wa w vx kx fx)) (HFx : Hid (∀ i, i < kx → fx i < 4294967296)) (HT : Hid (Tab w)) :
    Calls Tryd.prog 4 #[.agg #[.bool bbx, vx]] w fun e w' => e = .returned (.bool true) ∧ Below w.heap.size w w' := by
  obtain ⟨a, ha⟩ : ∃ z, Hid ((if bbx then -((vl fx kx : Nat) : Int) else ((vl fx kx : Nat) : Int)) = z) := ⟨_, Lib.hid rfl⟩
  by_cases hkx : kx ≤ 20
  · skip
    have hm : wl (vl fx kx) ≤ 20 := by have := wl_le.2 (vl_lt HFx.out); omega
    have hw : wl a.natAbs ≤ 20 := by rw [zsize ha.out]; exact hm
    obtain ⟨f1, f2, f3, f4, f5, f6⟩ := textz_facts a hw
    have fh := textz_head a hw
    by_cases h : a < 0
    · rw [decide_eq_true h] at fh
      exact textz_neg bbx vx kx fx _ a _ _ w HWx HFx (Lib.hid rfl) ha hkx (Lib.hid h) (Lib.hid rfl) (Lib.hid f1) (Lib.hid f2) f3 f4 (Lib.hid rfl) (Lib.hid fh) (Lib.hid (if_pos h).symm) (by rw [size_mk, Lib.decDigits_length]; omega) HT
    · rw [decide_eq_false h] at fh
      exact textz_pos bbx vx kx fx _ a _ w HWx HFx (Lib.hid rfl) ha hkx (Lib.hid (by omega)) (Lib.hid rfl) (Lib.hid f1) (Lib.hid f2) f3 f4 (Lib.hid (if_neg h).symm) (Lib.hid fh) HT
  · exact textz_big1 bbx vx kx fx _ a w HWx HFx (Lib.hid rfl) ha  (by omega) HT

end Go.Proofs.YtflhpdlecpehkaaDoor
