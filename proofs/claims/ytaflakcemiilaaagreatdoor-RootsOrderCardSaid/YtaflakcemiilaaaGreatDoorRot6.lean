
/- gussetlaw05.works. -/
import Derived.Test.YtaflakcemiilaaaGreatDoorRot5
import Derived.Test.YtaflakcemiilaaaGreatDoorEqQ
import Derived.Test.YtaflakcemiilaaaGreatDoorPJ
import Derived.Test.YtaflakcemiilaaaGreatDoorPlanQ
namespace Go.Proofs.YtaflakcemiilaaaGreatDoor
open Go.RowKit
set_option linter.unusedSimpArgs false
set_option linter.unusedVariables false
attribute [local go_sem ↓] Go.wp_at_zero Go.wp_at_succ
attribute [local go_sem ↓] eq_nat eq_nat_zero eq_int
attribute [local go_sem ↓] eq_frac eq_frac_zero eq_nat eq_nat_zero
set_option maxRecDepth 100000 in
set_option maxHeartbeats 16000000 in
theorem works5_any  (w : World)  (HT : Hid (Tab w)) :
    Calls Tryz.prog 22 #[] w fun e w' => e = .returned (.bool true) ∧ Below w.heap.size w w' := by
  go_enter Tryz.func22, Tryz.ntmps22
  have HF := Lib.hid (hp0 w)
  refine kS fun K hK => ?_
  refine wp_region_lit ?_
  go_wp2
  refine hK.out _ _ ?_; clear hK K
  show Code.wp _ _ _ _ _
  refine fH (HF.out) fun Wx0 HG => ?_
  clear HF; have HF := HG; clear HG
  have HZ1 : Hid (((1 : Int) : Rat) / ((4 : Int) : Rat) = (1/4 : Rat)) := Lib.hid (by decide +kernel)
  have su1 : sz ((1/4 : Rat)) ≤ 4 := sz_of (wl_le.2 (by decide +kernel)) (wl_le.2 (by decide +kernel))
  refine kS fun K hK => ?_
  refine sq 1 [(true, 0)] fun T hT => ?_
  refine ck Tryz.call88 (fun w' hw => of5_any (1) (4) (1/4 : Rat) _ (Lib.hid HZ1.out) (by decide) om om om om) ?_
  refine nlS hT HF fun vw1 HG => ?_
  clear hT T HF
  go_wp2
  refine hK.out _ _ ?_; clear hK K
  show Code.wp _ _ _ _ _
  refine fH ((HG.out).al (b := vw1.heap.size) (by first | rfl | simp) (by decide)) fun Wx1 HF => ?_
  clear HG
  generalize vw1.heap.size = gx1 at *
  refine wp_seq ?_
  have HB := HPb HF
  have HZ2 : Hid (((2 : Int) : Rat) = (2 : Rat)) := Lib.hid (by decide +kernel)
  have su2 : sz ((2 : Rat)) ≤ 2 := sz_of (wl_le.2 (by decide +kernel)) (wl_le.2 (by decide +kernel))
  have HZ3 : Hid (((2 : Int) : Rat) = (2 : Rat)) := Lib.hid (by decide +kernel)
  have su3 : sz ((2 : Rat)) ≤ 2 := sz_of (wl_le.2 (by decide +kernel)) (wl_le.2 (by decide +kernel))
  have HZ4 : Hid (((0 : Int) : Rat) = (0 : Rat)) := Lib.hid (by decide +kernel)
  have su4 : sz ((0 : Rat)) ≤ 2 := sz_of (wl_le.2 (by decide +kernel)) (wl_le.2 (by decide +kernel))
  have lx1 := HF.out.c 0 rfl
  refine kS fun K hK => ?_
  refine sq 23 [(true, 0), (true, 1), (true, 2), (true, 3), (true, 4), (true, 5), (true, 6), (true, 7), (true, 8), (true, 9), (true, 10), (true, 11), (true, 12), (true, 13), (true, 14), (true, 15), (true, 16), (true, 17), (true, 18), (true, 19), (true, 20), (true, 21), (true, 22)] fun T hT => ?_
  refine ck Tryz.call32 (fun w' hw => fint_any (2) (2 : Rat) _ HZ2.out om om) ?_
  refine ck Tryz.call89 (fun w' hw => both5_any (2 : Rat) (1 : Rat) (2 : Rat) 0 ⟨#[49]⟩ ⟨#[50]⟩ ⟨#[49, 32]⟩ ⟨#[49, 32, 50]⟩ _ (Lib.hid (by decide +kernel)) (Lib.hid (by decide +kernel)) (Lib.hid (by decide +kernel)) (by decide) om (Lib.hid (by decide +kernel)) (Lib.hid (by decide +kernel)) (Lib.hid (by decide +kernel)) (Lib.hid (by decide +kernel)) (by decide) (by decide) (by decide) (Lib.hid (HT.out.gr (Gr.trans HB.out hw)))) ?_
  iterate 2 refine tk ?_
  refine ck Tryz.call32 (fun w' hw => fint_any (2) (2 : Rat) _ HZ3.out om om) ?_
  refine ck Tryz.call89 (fun w' hw => both5_any (2 : Rat) (11/8 : Rat) (3/2 : Rat) 3 ⟨#[49, 49, 47, 56]⟩ ⟨#[51, 47, 50]⟩ ⟨#[49, 49, 47, 56, 32]⟩ ⟨#[49, 49, 47, 56, 32, 51, 47, 50]⟩ _ (Lib.hid (by decide +kernel)) (Lib.hid (by decide +kernel)) (Lib.hid (by decide +kernel)) (by decide) om (Lib.hid (by decide +kernel)) (Lib.hid (by decide +kernel)) (Lib.hid (by decide +kernel)) (Lib.hid (by decide +kernel)) (by decide) (by decide) (by decide) (Lib.hid (HT.out.gr (Gr.trans HB.out hw)))) ?_
  iterate 4 refine tk ?_
  refine ck Tryz.call89 (fun w' hw => both5_any (1/4 : Rat) (1/2 : Rat) (1/2 : Rat) 1 ⟨#[49, 47, 50]⟩ ⟨#[49, 47, 50]⟩ ⟨#[49, 47, 50, 32]⟩ ⟨#[49, 47, 50, 32, 49, 47, 50]⟩ _ (Lib.hid (by decide +kernel)) (Lib.hid (by decide +kernel)) (Lib.hid (by decide +kernel)) (by decide) om (Lib.hid (by decide +kernel)) (Lib.hid (by decide +kernel)) (Lib.hid (by decide +kernel)) (Lib.hid (by decide +kernel)) (by decide) (by decide) (by decide) (Lib.hid (HT.out.gr (Gr.trans HB.out hw)))) ?_
  iterate 4 refine tk ?_
  refine ck Tryz.call89 (fun w' hw => both5_any (1/4 : Rat) (0 : Rat) (1 : Rat) 0 ⟨#[48]⟩ ⟨#[49]⟩ ⟨#[48, 32]⟩ ⟨#[48, 32, 49]⟩ _ (Lib.hid (by decide +kernel)) (Lib.hid (by decide +kernel)) (Lib.hid (by decide +kernel)) (by decide) om (Lib.hid (by decide +kernel)) (Lib.hid (by decide +kernel)) (Lib.hid (by decide +kernel)) (Lib.hid (by decide +kernel)) (by decide) (by decide) (by decide) (Lib.hid (HT.out.gr (Gr.trans HB.out hw)))) ?_
  iterate 3 refine tk ?_
  refine ck Tryz.call32 (fun w' hw => fint_any (0) (0 : Rat) _ HZ4.out om om) ?_
  refine ck Tryz.call89 (fun w' hw => both5_any (0 : Rat) (0 : Rat) (0 : Rat) 5 ⟨#[48]⟩ ⟨#[48]⟩ ⟨#[48, 32]⟩ ⟨#[48, 32, 48]⟩ _ (Lib.hid (by decide +kernel)) (Lib.hid (by decide +kernel)) (Lib.hid (by decide +kernel)) (by decide) om (Lib.hid (by decide +kernel)) (Lib.hid (by decide +kernel)) (Lib.hid (by decide +kernel)) (Lib.hid (by decide +kernel)) (by decide) (by decide) (by decide) (Lib.hid (HT.out.gr (Gr.trans HB.out hw)))) ?_
  iterate 2 refine tk ?_
  refine nlS hT HF fun vw2 HG => ?_
  clear hT T HF lx1 HB
  go_wp2
  refine hK.out _ _ ?_; clear hK K
  show Code.wp _ _ _ _ _
  refine fH ((HG.out).er 0) fun Wx2 HF => ?_
  clear HG
  refine wp_cond_false (by rfl) ?_
  refine wp_skip ?_
  show Code.wp _ _ _ _ _
  have HZ5 : Hid (((9 : Int) : Rat) / ((4 : Int) : Rat) = (9/4 : Rat)) := Lib.hid (by decide +kernel)
  have su5 : sz ((9/4 : Rat)) ≤ 4 := sz_of (wl_le.2 (by decide +kernel)) (wl_le.2 (by decide +kernel))
  have HZ6 : Hid (exq (9/4 : Rat) = (3/2 : Rat)) := Lib.hid (by decide +kernel)
  have su6 : sz ((3/2 : Rat)) ≤ 4 := sz_of (wl_le.2 (by decide +kernel)) (wl_le.2 (by decide +kernel))
  refine kS fun K hK => ?_
  refine sq 5 [(true, 0), (true, 1), (true, 2), (true, 3), (true, 4)] fun T hT => ?_
  refine ck Tryz.call88 (fun w' hw => of5_any (9) (4) (9/4 : Rat) _ (Lib.hid HZ5.out) (by decide) om om om om) ?_
  refine ck Tryz.call33 (fun w' hw => zexact_y (9/4 : Rat) (3/2 : Rat) _ HZ6.out (by first | exact ok | decide +kernel) om) ?_
  iterate 3 refine tk ?_
  refine nlS hT HF fun vw3 HG => ?_
  clear hT T HF
  go_wp2
  refine hK.out _ _ ?_; clear hK K
  show Code.wp _ _ _ _ _
  refine fH ((HG.out).al (b := vw3.heap.size) (by first | rfl | simp) (by decide)) fun Wx4 HF => ?_
  clear HG
  generalize vw3.heap.size = gx2 at *
  have HZ7 : Hid (((2 : Int) : Rat) = (2 : Rat)) := Lib.hid (by decide +kernel)
  have su7 : sz ((2 : Rat)) ≤ 2 := sz_of (wl_le.2 (by decide +kernel)) (wl_le.2 (by decide +kernel))
  refine kS fun K hK => ?_
  refine sq 5 [(true, 0), (true, 1), (true, 2), (true, 3), (true, 4)] fun T hT => ?_
  refine ck Tryz.call32 (fun w' hw => fint_any (2) (2 : Rat) _ HZ7.out om om) ?_
  refine ck Tryz.call33 (fun w' hw => zexact_n (2 : Rat) _ _ rfl (by first | exact ok | decide +kernel) om) ?_
  iterate 3 refine tk ?_
  refine nlS hT HF fun vw4 HG => ?_
  clear hT T HF
  go_wp2
  refine hK.out _ _ ?_; clear hK K
  show Code.wp _ _ _ _ _
  refine fH (((HG.out).al (b := vw4.heap.size) (by first | rfl | simp) (by decide)).er 1) fun Wx5 HF => ?_
  clear HG
  generalize vw4.heap.size = gx3 at *
  have HZ8 : Hid (((0 : Int) : Rat) = (0 : Rat)) := Lib.hid (by decide +kernel)
  have su8 : sz ((0 : Rat)) ≤ 2 := sz_of (wl_le.2 (by decide +kernel)) (wl_le.2 (by decide +kernel))
  have HZ9 : Hid (exq (0 : Rat) = (0 : Rat)) := Lib.hid (by decide +kernel)
  have su9 : sz ((0 : Rat)) ≤ 2 := sz_of (wl_le.2 (by decide +kernel)) (wl_le.2 (by decide +kernel))
  refine kS fun K hK => ?_
  refine sq 5 [(true, 0), (true, 1), (true, 2), (true, 3), (true, 4)] fun T hT => ?_
  refine ck Tryz.call32 (fun w' hw => fint_any (0) (0 : Rat) _ HZ8.out om om) ?_
  refine ck Tryz.call33 (fun w' hw => zexact_y (0 : Rat) (0 : Rat) _ HZ9.out (by first | exact ok | decide +kernel) om) ?_
  iterate 3 refine tk ?_
  refine nlS hT HF fun vw5 HG => ?_
  clear hT T HF
  go_wp2
  refine hK.out _ _ ?_; clear hK K
  show Code.wp _ _ _ _ _
  refine fH ((HG.out).al (b := vw5.heap.size) (by first | rfl | simp) (by decide)) fun Wx6 HF => ?_
  clear HG
  generalize vw5.heap.size = gx4 at *
  have HZ10 : Hid (((-4 : Int) : Rat) = (-4 : Rat)) := Lib.hid (by decide +kernel)
  have su10 : sz ((-4 : Rat)) ≤ 2 := sz_of (wl_le.2 (by decide +kernel)) (wl_le.2 (by decide +kernel))
  refine kS fun K hK => ?_
  refine sq 5 [(true, 0), (true, 1), (true, 2), (true, 3), (true, 4)] fun T hT => ?_
  refine ck Tryz.call32 (fun w' hw => fint_any (-4) (-4 : Rat) _ HZ10.out om om) ?_
  refine ck Tryz.call33 (fun w' hw => zexact_n (-4 : Rat) _ _ rfl (by first | exact ok | decide +kernel) om) ?_
  iterate 3 refine tk ?_
  refine nlS hT HF fun vw6 HG => ?_
  clear hT T HF
  go_wp2
  refine hK.out _ _ ?_; clear hK K
  show Code.wp _ _ _ _ _
  refine fH (((HG.out).al (b := vw6.heap.size) (by first | rfl | simp) (by decide)).er 2) fun Wx7 HF => ?_
  clear HG
  generalize vw6.heap.size = gx5 at *
  have HB := HPb HF
  have lx2 := HF.out.c 0 rfl
  have lx4 := HF.out.c 1 rfl
  refine kS fun K hK => ?_
  have HG0 : Hid (Gr Wx7 Wx7) := Lib.hid (Gr.refl _)
  refine sq 45 [(true, 0), (true, 1), (true, 2), (true, 3), (true, 4), (true, 5), (true, 6), (true, 7), (true, 8), (true, 9), (true, 10), (true, 11), (true, 12), (true, 13), (true, 14), (true, 15), (true, 16), (true, 17), (true, 18), (true, 19), (true, 20), (false, 21), (true, 22), (true, 23), (true, 24), (true, 25), (false, 26), (true, 27), (true, 28), (true, 29), (true, 30), (false, 31), (true, 32), (true, 33), (true, 34), (true, 35), (true, 36), (true, 37), (true, 38), (true, 39), (false, 40), (true, 41), (true, 42), (true, 43), (true, 44)] fun T hT => ?_
  refine tk ?_
  refine ck Tryz.call90 (fun w' hw => ftext5c_any (3/2 : Rat) ⟨#[51, 47, 50]⟩ true _ (Lib.hid (by decide +kernel)) om (Lib.hid (HT.out.gr (Gr.trans HB.out hw)))) ?_
  iterate 9 refine tk ?_
  refine ck Tryz.call90 (fun w' hw => ftext5c_any (0 : Rat) ⟨#[48]⟩ true _ (Lib.hid (by decide +kernel)) om (Lib.hid (HT.out.gr (Gr.trans HB.out hw)))) ?_
  iterate 9 refine tk ?_
  refine wpPlan_slice (cs := #[.int .i64 4]) (E := 2) (n := 1) rfl (by rfl) (fun w' hw => ?_) (fun gx6 vv6 hg0 yx6 bx6 => ?_)
  · go_simp
  clear yx6
  replace HG0 := Lib.hid (HG0.out.trans hg0)
  have HGS := Lib.hid hg0; clear hg0
  replace HB := Lib.hid (HB.out.trans (HGS.out.mono HB.out.size))
  clear HGS
  have BX6 := Lib.hid bx6; clear bx6
  clear lx2; have lx2 := fun w' (h : Gr _ w') => HF.out.c 0 rfl w' (HG0.out.trans h)
  clear lx4; have lx4 := fun w' (h : Gr _ w') => HF.out.c 1 rfl w' (HG0.out.trans h)
  simp only [Act.put, lA, lB, lC]
  refine ck Tryz.call91 (fun w' hw => ordd1_c 1 1 4 (1 : Rat) (1 : Rat) (4 : Rat) (0) gx6 _ (Lib.hid (by decide +kernel)) (Lib.hid (by decide +kernel)) (by decide) (by decide) (by decide) (by decide) (Lib.hid (by decide +kernel)) (Lib.hid (by decide +kernel)) (Lib.hid (by decide +kernel)) (Lib.hid (by decide +kernel)) (by decide) (by decide) (sz_of (wl_le.2 (by decide +kernel)) (wl_le.2 (by decide +kernel))) (Lib.hid (by decide +kernel)) (BX6.out.gr hw) (Lib.hid (by decide +kernel))) ?_
  iterate 3 refine tk ?_
  refine wpPlan_slice (cs := #[.int .i64 5]) (E := 2) (n := 1) rfl (by rfl) (fun w' hw => ?_) (fun gx7 vv7 hg0 yx7 bx7 => ?_)
  · go_simp
  clear yx7
  replace HG0 := Lib.hid (HG0.out.trans hg0)
  have HGS := Lib.hid hg0; clear hg0
  replace BX6 := Lib.hid (BX6.out.gr HGS.out)
  replace HB := Lib.hid (HB.out.trans (HGS.out.mono HB.out.size))
  clear HGS
  have BX7 := Lib.hid bx7; clear bx7
  clear lx2; have lx2 := fun w' (h : Gr _ w') => HF.out.c 0 rfl w' (HG0.out.trans h)
  clear lx4; have lx4 := fun w' (h : Gr _ w') => HF.out.c 1 rfl w' (HG0.out.trans h)
  simp only [Act.put, lA, lB, lC]
  refine ck Tryz.call91 (fun w' hw => ordd1_c 2 3 5 (2 : Rat) (3 : Rat) (5 : Rat) (1) gx7 _ (Lib.hid (by decide +kernel)) (Lib.hid (by decide +kernel)) (by decide) (by decide) (by decide) (by decide) (Lib.hid (by decide +kernel)) (Lib.hid (by decide +kernel)) (Lib.hid (by decide +kernel)) (Lib.hid (by decide +kernel)) (by decide) (by decide) (sz_of (wl_le.2 (by decide +kernel)) (wl_le.2 (by decide +kernel))) (Lib.hid (by decide +kernel)) (BX7.out.gr hw) (Lib.hid (by decide +kernel))) ?_
  iterate 3 refine tk ?_
  refine wpPlan_slice (cs := #[.int .i64 10]) (E := 2) (n := 1) rfl (by rfl) (fun w' hw => ?_) (fun gx8 vv8 hg0 yx8 bx8 => ?_)
  · go_simp
  clear yx8
  replace HG0 := Lib.hid (HG0.out.trans hg0)
  have HGS := Lib.hid hg0; clear hg0
  replace BX6 := Lib.hid (BX6.out.gr HGS.out)
  replace BX7 := Lib.hid (BX7.out.gr HGS.out)
  replace HB := Lib.hid (HB.out.trans (HGS.out.mono HB.out.size))
  clear HGS
  have BX8 := Lib.hid bx8; clear bx8
  clear lx2; have lx2 := fun w' (h : Gr _ w') => HF.out.c 0 rfl w' (HG0.out.trans h)
  clear lx4; have lx4 := fun w' (h : Gr _ w') => HF.out.c 1 rfl w' (HG0.out.trans h)
  simp only [Act.put, lA, lB, lC]
  refine ck Tryz.call91 (fun w' hw => ordd1_c 2 3 10 (2 : Rat) (3 : Rat) (10 : Rat) (-1) gx8 _ (Lib.hid (by decide +kernel)) (Lib.hid (by decide +kernel)) (by decide) (by decide) (by decide) (by decide) (Lib.hid (by decide +kernel)) (Lib.hid (by decide +kernel)) (Lib.hid (by decide +kernel)) (Lib.hid (by decide +kernel)) (by decide) (by decide) (sz_of (wl_le.2 (by decide +kernel)) (wl_le.2 (by decide +kernel))) (Lib.hid (by decide +kernel)) (BX8.out.gr hw) (Lib.hid (by decide +kernel))) ?_
  iterate 3 refine tk ?_
  refine ck Tryz.call91 (fun w' hw => ordd0_0 1 0 (1 : Rat) (0 : Rat) _ (Lib.hid (by decide +kernel)) (Lib.hid (by decide +kernel)) (by decide) (by decide) (by decide) (by decide) (Lib.hid (by decide +kernel)) (Lib.hid (by decide +kernel)) (Lib.hid (by decide +kernel))) ?_
  iterate 3 refine tk ?_
  refine wpPlan_slice (cs := #[.int .i64 8]) (E := 2) (n := 1) rfl (by rfl) (fun w' hw => ?_) (fun gx9 vv9 hg0 yx9 bx9 => ?_)
  · go_simp
  clear yx9
  replace HG0 := Lib.hid (HG0.out.trans hg0)
  have HGS := Lib.hid hg0; clear hg0
  replace BX6 := Lib.hid (BX6.out.gr HGS.out)
  replace BX7 := Lib.hid (BX7.out.gr HGS.out)
  replace BX8 := Lib.hid (BX8.out.gr HGS.out)
  replace HB := Lib.hid (HB.out.trans (HGS.out.mono HB.out.size))
  clear HGS
  have BX9 := Lib.hid bx9; clear bx9
  clear lx2; have lx2 := fun w' (h : Gr _ w') => HF.out.c 0 rfl w' (HG0.out.trans h)
  clear lx4; have lx4 := fun w' (h : Gr _ w') => HF.out.c 1 rfl w' (HG0.out.trans h)
  simp only [Act.put, lA, lB, lC]
  refine ck Tryz.call91 (fun w' hw => ordd1_c 2 2 8 (2 : Rat) (2 : Rat) (8 : Rat) (0) gx9 _ (Lib.hid (by decide +kernel)) (Lib.hid (by decide +kernel)) (by decide) (by decide) (by decide) (by decide) (Lib.hid (by decide +kernel)) (Lib.hid (by decide +kernel)) (Lib.hid (by decide +kernel)) (Lib.hid (by decide +kernel)) (by decide) (by decide) (sz_of (wl_le.2 (by decide +kernel)) (wl_le.2 (by decide +kernel))) (Lib.hid (by decide +kernel)) (BX9.out.gr hw) (Lib.hid (by decide +kernel))) ?_
  iterate 3 refine tk ?_
  refine wpPlan_nil (hT.out _ _ ?_)
  intro vw7 hg
  simp only [puts, Act.put, lA, lB, lC, lD, lE, ↓reduceIte, Nat.reduceEqDiff]
  have HG := Lib.hid (HF.out.gr (HG0.out.trans hg))
  clear hT T HF hg HG0 BX6 BX7 BX8 BX9 lx2 lx4 HB
  go_wp2
  refine hK.out _ _ ?_; clear hK K
  show Code.wp _ _ _ _ _
  refine fH (((HG.out).er 1).er 0) fun Wx8 HF => ?_
  clear HG
  refine wp_ret ?_
  try simp only [Exit.then, Exit.inBlock]
  exact bodyPost_ret (v := .bool true) (by simp [results, Tryz.results22, go_sem]) rfl ⟨rfl, HF.out.1⟩

end Go.Proofs.YtaflakcemiilaaaGreatDoor
