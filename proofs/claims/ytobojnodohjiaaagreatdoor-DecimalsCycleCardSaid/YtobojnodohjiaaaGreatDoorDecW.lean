
/- gussetlaw04: works. -/
import Derived.Test.YtobojnodohjiaaaGreatDoorDecW0
import Derived.Test.YtobojnodohjiaaaGreatDoorIntE
import Derived.Test.YtobojnodohjiaaaGreatDoorPJ
namespace Go.Proofs.YtobojnodohjiaaaGreatDoor
open Go.RowKit
set_option linter.unusedSimpArgs false
set_option linter.unusedVariables false
attribute [local go_sem ↓] Go.wp_at_zero Go.wp_at_succ
attribute [local go_sem ↓] eq_nat eq_nat_zero eq_int
attribute [local go_sem ↓] eq_frac eq_frac_zero eq_nat eq_nat_zero
set_option maxRecDepth 100000 in
set_option maxHeartbeats 16000000 in
theorem worksd_any  (w : World)  (HT : Hid (Tab w)) :
    Calls Tryz.prog 64 #[] w fun e w' => e = .returned (.bool true) ∧ Below w.heap.size w w' := by
  go_enter Tryz.func64, Tryz.ntmps64
  have HF := Lib.hid (hp0 w)
  refine kS fun K hK => ?_
  refine wp_region_lit ?_
  go_wp2
  refine hK.out _ _ ?_; clear hK K
  show Code.wp _ _ _ _ _
  refine fH (HF.out) fun Wx0 HG => ?_
  clear HF; have HF := HG; clear HG
  have HZ1 : Hid (((1 : Int) : Rat) / ((8 : Int) : Rat) = (1/8 : Rat)) := Lib.hid (by decide +kernel)
  have su1 : sz ((1/8 : Rat)) ≤ 4 := sz_of (wl_le.2 (by decide +kernel)) (wl_le.2 (by decide +kernel))
  refine kS fun K hK => ?_
  refine sq 1 [(true, 0)] fun T hT => ?_
  refine ck Tryz.call166 (fun w' hw => ofd_any (1) (8) (1/8 : Rat) _ (Lib.hid HZ1.out) (by decide) om om om om) ?_
  refine nlS hT HF fun vw1 HG => ?_
  clear hT T HF
  go_wp2
  refine hK.out _ _ ?_; clear hK K
  show Code.wp _ _ _ _ _
  refine fH ((HG.out).al (b := vw1.heap.size) (by first | rfl | simp) (by decide)) fun Wx1 HF => ?_
  clear HG
  generalize vw1.heap.size = gx1 at *
  refine wp_seq ?_
  have HB := HPb HF
  have HZ2 : Hid (((3 : Int) : Rat) / ((8 : Int) : Rat) = (3/8 : Rat)) := Lib.hid (by decide +kernel)
  have su2 : sz ((3/8 : Rat)) ≤ 4 := sz_of (wl_le.2 (by decide +kernel)) (wl_le.2 (by decide +kernel))
  have HZ3 : Hid (((-1 : Int) : Rat) / ((8 : Int) : Rat) = (-1/8 : Rat)) := Lib.hid (by decide +kernel)
  have su3 : sz ((-1/8 : Rat)) ≤ 4 := sz_of (wl_le.2 (by decide +kernel)) (wl_le.2 (by decide +kernel))
  have HZ4 : Hid (((-1 : Int) : Rat) / ((8 : Int) : Rat) = (-1/8 : Rat)) := Lib.hid (by decide +kernel)
  have su4 : sz ((-1/8 : Rat)) ≤ 4 := sz_of (wl_le.2 (by decide +kernel)) (wl_le.2 (by decide +kernel))
  have HZ5 : Hid (((-1 : Int) : Rat) / ((1000 : Int) : Rat) = (-1/1000 : Rat)) := Lib.hid (by decide +kernel)
  have su5 : sz ((-1/1000 : Rat)) ≤ 4 := sz_of (wl_le.2 (by decide +kernel)) (wl_le.2 (by decide +kernel))
  have HZ6 : Hid (((5 : Int) : Rat) / ((2 : Int) : Rat) = (5/2 : Rat)) := Lib.hid (by decide +kernel)
  have su6 : sz ((5/2 : Rat)) ≤ 4 := sz_of (wl_le.2 (by decide +kernel)) (wl_le.2 (by decide +kernel))
  have lx1 := HF.out.c 0 rfl
  refine kS fun K hK => ?_
  refine sq 38 [(true, 0), (true, 1), (true, 2), (true, 3), (true, 4), (true, 5), (true, 6), (true, 7), (true, 8), (true, 9), (true, 10), (true, 11), (true, 12), (true, 13), (true, 14), (true, 15), (true, 16), (true, 17), (true, 18), (true, 19), (true, 20), (true, 21), (true, 22), (true, 23), (true, 24), (true, 25), (true, 26), (true, 27), (true, 28), (true, 29), (true, 30), (true, 31), (true, 32), (true, 33), (true, 34), (true, 35), (true, 36), (true, 37)] fun T hT => ?_
  refine tk ?_
  refine ck Tryz.call167 (fun w' hw => ltext_any (1/8 : Rat) 2 (1) ⟨#[48, 46, 49, 50]⟩ _ (Lib.hid (by rw [show rnd (1) ((1/8 : Rat) * (((10 ^ 2 : Nat) : Int) : Rat)) = (12) from by decide +kernel]; exact dtx_lit (l := [49, 50]) (dec_lit 2 (by decide +kernel) (by decide +kernel)) (by decide +kernel))) (by decide) (by decide) (by decide) om (Lib.hid (HT.out.gr (Gr.trans HB.out hw)))) ?_
  iterate 3 refine tk ?_
  refine ck Tryz.call167 (fun w' hw => ltext_any (1/8 : Rat) 2 (2) ⟨#[48, 46, 49, 51]⟩ _ (Lib.hid (by rw [show rnd (2) ((1/8 : Rat) * (((10 ^ 2 : Nat) : Int) : Rat)) = (13) from by decide +kernel]; exact dtx_lit (l := [49, 51]) (dec_lit 2 (by decide +kernel) (by decide +kernel)) (by decide +kernel))) (by decide) (by decide) (by decide) om (Lib.hid (HT.out.gr (Gr.trans HB.out hw)))) ?_
  iterate 4 refine tk ?_
  refine ck Tryz.call167 (fun w' hw => ltext_any (1/8 : Rat) 2 (3) ⟨#[48, 46, 49, 50]⟩ _ (Lib.hid (by rw [show rnd (3) ((1/8 : Rat) * (((10 ^ 2 : Nat) : Int) : Rat)) = (12) from by decide +kernel]; exact dtx_lit (l := [49, 50]) (dec_lit 2 (by decide +kernel) (by decide +kernel)) (by decide +kernel))) (by decide) (by decide) (by decide) om (Lib.hid (HT.out.gr (Gr.trans HB.out hw)))) ?_
  iterate 3 refine tk ?_
  refine ck Tryz.call166 (fun w' hw => ofd_any (3) (8) (3/8 : Rat) _ (Lib.hid HZ2.out) (by decide) om om om om) ?_
  refine ck Tryz.call167 (fun w' hw => ltext_any (3/8 : Rat) 2 (3) ⟨#[48, 46, 51, 56]⟩ _ (Lib.hid (by rw [show rnd (3) ((3/8 : Rat) * (((10 ^ 2 : Nat) : Int) : Rat)) = (38) from by decide +kernel]; exact dtx_lit (l := [51, 56]) (dec_lit 2 (by decide +kernel) (by decide +kernel)) (by decide +kernel))) (by decide) (by decide) (by decide) om (Lib.hid (HT.out.gr (Gr.trans HB.out hw)))) ?_
  iterate 3 refine tk ?_
  refine ck Tryz.call166 (fun w' hw => ofd_any (-1) (8) (-1/8 : Rat) _ (Lib.hid HZ3.out) (by decide) om om om om) ?_
  refine ck Tryz.call167 (fun w' hw => ltext_any (-1/8 : Rat) 2 (1) ⟨#[45, 48, 46, 49, 51]⟩ _ (Lib.hid (by rw [show rnd (1) ((-1/8 : Rat) * (((10 ^ 2 : Nat) : Int) : Rat)) = (-13) from by decide +kernel]; exact dtx_lit (l := [49, 51]) (dec_lit 2 (by decide +kernel) (by decide +kernel)) (by decide +kernel))) (by decide) (by decide) (by decide) om (Lib.hid (HT.out.gr (Gr.trans HB.out hw)))) ?_
  iterate 3 refine tk ?_
  refine ck Tryz.call166 (fun w' hw => ofd_any (-1) (8) (-1/8 : Rat) _ (Lib.hid HZ4.out) (by decide) om om om om) ?_
  refine ck Tryz.call167 (fun w' hw => ltext_any (-1/8 : Rat) 2 (2) ⟨#[45, 48, 46, 49, 50]⟩ _ (Lib.hid (by rw [show rnd (2) ((-1/8 : Rat) * (((10 ^ 2 : Nat) : Int) : Rat)) = (-12) from by decide +kernel]; exact dtx_lit (l := [49, 50]) (dec_lit 2 (by decide +kernel) (by decide +kernel)) (by decide +kernel))) (by decide) (by decide) (by decide) om (Lib.hid (HT.out.gr (Gr.trans HB.out hw)))) ?_
  iterate 3 refine tk ?_
  refine ck Tryz.call166 (fun w' hw => ofd_any (-1) (1000) (-1/1000 : Rat) _ (Lib.hid HZ5.out) (by decide) om om om om) ?_
  refine ck Tryz.call167 (fun w' hw => ltext_any (-1/1000 : Rat) 2 (2) ⟨#[48, 46, 48, 48]⟩ _ (Lib.hid (by rw [show rnd (2) ((-1/1000 : Rat) * (((10 ^ 2 : Nat) : Int) : Rat)) = (0) from by decide +kernel]; exact dtx_lit (l := [48]) (dec_lit 1 (by decide +kernel) (by decide +kernel)) (by decide +kernel))) (by decide) (by decide) (by decide) om (Lib.hid (HT.out.gr (Gr.trans HB.out hw)))) ?_
  iterate 3 refine tk ?_
  refine ck Tryz.call166 (fun w' hw => ofd_any (5) (2) (5/2 : Rat) _ (Lib.hid HZ6.out) (by decide) om om om om) ?_
  refine ck Tryz.call167 (fun w' hw => ltext_any (5/2 : Rat) 0 (3) ⟨#[50]⟩ _ (Lib.hid (by rw [show rnd (3) ((5/2 : Rat) * (((10 ^ 0 : Nat) : Int) : Rat)) = (2) from by decide +kernel]; exact dtx_lit (l := [50]) (dec_lit 1 (by decide +kernel) (by decide +kernel)) (by decide +kernel))) (by decide) (by decide) (by decide) om (Lib.hid (HT.out.gr (Gr.trans HB.out hw)))) ?_
  iterate 2 refine tk ?_
  refine nlS hT HF fun vw2 HG => ?_
  clear hT T HF lx1 HB
  go_wp2
  refine hK.out _ _ ?_; clear hK K
  show Code.wp _ _ _ _ _
  refine fH ((HG.out).er 0) fun Wx2 HF => ?_
  clear HG
  refine wp_cond_false (by rfl) ?_
  refine wp_skip ?_
  show Code.wp _ _ _ _ _
  have HZ7 : Hid (((2 : Int) : Rat) / ((3 : Int) : Rat) = (2/3 : Rat)) := Lib.hid (by decide +kernel)
  have su7 : sz ((2/3 : Rat)) ≤ 4 := sz_of (wl_le.2 (by decide +kernel)) (wl_le.2 (by decide +kernel))
  have HZ8 : Hid (rdd (2) (2/3 : Rat) 1 = (7/10 : Rat)) := Lib.hid (by decide +kernel)
  have su8 : sz ((7/10 : Rat)) ≤ 17 := sz_of (wl_le.2 (by decide +kernel)) (wl_le.2 (by decide +kernel))
  refine kS fun K hK => ?_
  refine sq 5 [(true, 0), (true, 1), (true, 2), (true, 3), (true, 4)] fun T hT => ?_
  refine ck Tryz.call166 (fun w' hw => ofd_any (2) (3) (2/3 : Rat) _ (Lib.hid HZ7.out) (by decide) om om om om) ?_
  refine ck Tryz.call168 (fun w' hw => dround (2) (2/3 : Rat) 1 (7/10 : Rat) _ HZ8.out (by omega) (by omega) (by omega) om) ?_
  iterate 3 refine tk ?_
  refine nlS hT HF fun vw3 HG => ?_
  clear hT T HF
  go_wp2
  refine hK.out _ _ ?_; clear hK K
  show Code.wp _ _ _ _ _
  refine fH ((HG.out).al (b := vw3.heap.size) (by first | rfl | simp) (by decide)) fun Wx4 HF => ?_
  clear HG
  generalize vw3.heap.size = gx2 at *
  have HZ9 : Hid (((-1 : Int) : Rat) / ((3 : Int) : Rat) = (-1/3 : Rat)) := Lib.hid (by decide +kernel)
  have su9 : sz ((-1/3 : Rat)) ≤ 4 := sz_of (wl_le.2 (by decide +kernel)) (wl_le.2 (by decide +kernel))
  have HZ10 : Hid (rdd 1 (-1/3 : Rat) 1 = (-2/5 : Rat)) := Lib.hid (by decide +kernel)
  have su10 : sz ((-2/5 : Rat)) ≤ 17 := sz_of (wl_le.2 (by decide +kernel)) (wl_le.2 (by decide +kernel))
  have HZ11 : Hid (rdd 2 (-1/3 : Rat) 1 = (-3/10 : Rat)) := Lib.hid (by decide +kernel)
  have su11 : sz ((-3/10 : Rat)) ≤ 17 := sz_of (wl_le.2 (by decide +kernel)) (wl_le.2 (by decide +kernel))
  refine kS fun K hK => ?_
  refine sq 6 [(true, 0), (true, 1), (true, 2), (true, 3), (true, 4), (true, 5)] fun T hT => ?_
  refine ck Tryz.call166 (fun w' hw => ofd_any (-1) (3) (-1/3 : Rat) _ (Lib.hid HZ9.out) (by decide) om om om om) ?_
  refine ck Tryz.call169 (fun w' hw => dbtw_any (-1/3 : Rat) (-2/5 : Rat) (-3/10 : Rat) 1 _ (Lib.hid HZ10.out) (Lib.hid HZ11.out) (by omega) om) ?_
  iterate 4 refine tk ?_
  refine nlS hT HF fun vw4 HG => ?_
  clear hT T HF
  go_wp2
  refine hK.out _ _ ?_; clear hK K
  show Code.wp _ _ _ _ _
  refine fH (((HG.out).al (b := vw4.heap.size) (by first | rfl | simp) (by decide)).al (b := vw4.heap.size + 1) (by first | rfl | simp) (by decide)) fun Wx5 HF => ?_
  clear HG
  generalize vw4.heap.size + 1 = gx4 at *
  generalize vw4.heap.size = gx3 at *
  have HZ12 : Hid (((1 : Int) : Rat) = (1 : Rat)) := Lib.hid (by decide +kernel)
  have su12 : sz ((1 : Rat)) ≤ 2 := sz_of (wl_le.2 (by decide +kernel)) (wl_le.2 (by decide +kernel))
  refine kS fun K hK => ?_
  refine sq 7 [(true, 0), (true, 1), (true, 2), (true, 3), (true, 4), (true, 5), (true, 6)] fun T hT => ?_
  refine ck Tryz.call147 (fun w' hw => fint_any (1) (1 : Rat) _ HZ12.out om om) ?_
  refine ck Tryz.call170 (fun w' hw => dtext_bad (1 : Rat) (101) (1) (3) _ (by decide) (by decide) om) ?_
  iterate 5 refine tk ?_
  refine nlS hT HF fun vw5 HG => ?_
  clear hT T HF
  go_wp2
  refine hK.out _ _ ?_; clear hK K
  show Code.wp _ _ _ _ _
  have HF := HG; clear HG
  have HZ13 : Hid (((1 : Int) : Rat) = (1 : Rat)) := Lib.hid (by decide +kernel)
  have su13 : sz ((1 : Rat)) ≤ 2 := sz_of (wl_le.2 (by decide +kernel)) (wl_le.2 (by decide +kernel))
  refine kS fun K hK => ?_
  refine sq 7 [(true, 0), (true, 1), (true, 2), (true, 3), (true, 4), (true, 5), (true, 6)] fun T hT => ?_
  refine ck Tryz.call147 (fun w' hw => fint_any (1) (1 : Rat) _ HZ13.out om om) ?_
  refine ck Tryz.call170 (fun w' hw => dtext_bad (1 : Rat) (0) (4) (1) _ (by decide) (by decide) om) ?_
  iterate 5 refine tk ?_
  refine nlS hT HF fun vw6 HG => ?_
  clear hT T HF
  go_wp2
  refine hK.out _ _ ?_; clear hK K
  show Code.wp _ _ _ _ _
  have HF := HG; clear HG
  refine wp_seq ?_
  have HZ14 : Hid (((7 : Int) : Rat) / ((10 : Int) : Rat) = (7/10 : Rat)) := Lib.hid (by decide +kernel)
  have su14 : sz ((7/10 : Rat)) ≤ 4 := sz_of (wl_le.2 (by decide +kernel)) (wl_le.2 (by decide +kernel))
  have HZ15 : Hid (((-2 : Int) : Rat) / ((5 : Int) : Rat) = (-2/5 : Rat)) := Lib.hid (by decide +kernel)
  have su15 : sz ((-2/5 : Rat)) ≤ 4 := sz_of (wl_le.2 (by decide +kernel)) (wl_le.2 (by decide +kernel))
  have HZ16 : Hid (((-3 : Int) : Rat) / ((10 : Int) : Rat) = (-3/10 : Rat)) := Lib.hid (by decide +kernel)
  have su16 : sz ((-3/10 : Rat)) ≤ 4 := sz_of (wl_le.2 (by decide +kernel)) (wl_le.2 (by decide +kernel))
  have lx2 := HF.out.c 0 rfl
  have lx3 := HF.out.c 1 rfl
  have lx4 := HF.out.c 2 rfl
  refine kS fun K hK => ?_
  refine pd 24 [(true, 0), (true, 1), (true, 2), (true, 3), (true, 4), (true, 5), (true, 6), (true, 7), (true, 8), (true, 9), (true, 10), (true, 11), (true, 12), (true, 13), (true, 14), (true, 15), (true, 16), (true, 17), (true, 18), (true, 19), (true, 20), (true, 21), (true, 22), (true, 23)] fun T hT => ?_
  refine tk ?_
  refine ck Tryz.call166 (fun w' hw => ofd_any (7) (10) (7/10 : Rat) _ (Lib.hid HZ14.out) (by decide) om om om om) ?_
  iterate 3 refine tk ?_
  refine ck Tryz.call166 (fun w' hw => ofd_any (-2) (5) (-2/5 : Rat) _ (Lib.hid HZ15.out) (by decide) om om om om) ?_
  iterate 4 refine tk ?_
  refine ck Tryz.call166 (fun w' hw => ofd_any (-3) (10) (-3/10 : Rat) _ (Lib.hid HZ16.out) (by decide) om om om om) ?_
  iterate 13 refine tk ?_
  refine nlD hT HF fun vw7 HG => ?_
  clear hT T HF lx2 lx3 lx4
  go_wp2
  refine hK.out _ _ ?_; clear hK K
  show Code.wp _ _ _ _ _
  refine fH ((((HG.out).er 2).er 1).er 0) fun Wx8 HF => ?_
  clear HG
  refine wp_cond_false (by rfl) ?_
  refine wp_skip ?_
  show Code.wp _ _ _ _ _
  refine wp_seq ?_
  have HB := HPb HF
  refine kS fun K hK => ?_
  refine sq 22 [(true, 0), (true, 1), (true, 2), (true, 3), (true, 4), (true, 5), (true, 6), (true, 7), (true, 8), (true, 9), (true, 10), (true, 11), (true, 12), (true, 13), (true, 14), (true, 15), (true, 16), (true, 17), (true, 18), (true, 19), (true, 20), (true, 21)] fun T hT => ?_
  refine ck Tryz.call171 (fun w' hw => dread_ok ⟨#[45, 49, 46, 50, 53]⟩ ⟨#[45, 53, 47, 52]⟩ (-5/4 : Rat) _ (Lib.hid (by decide +kernel)) (Lib.hid (by decide +kernel)) (Lib.hid (by decide +kernel)) (by decide) (sz_of (wl_le.2 (by decide +kernel)) (wl_le.2 (by decide +kernel))) (Lib.hid (HT.out.gr (Gr.trans HB.out hw)))) ?_
  iterate 2 refine tk ?_
  refine ck Tryz.call171 (fun w' hw => dread_no ⟨#[48, 48, 55]⟩ _ (Lib.hid (by decide +kernel)) (Lib.hid (by decide +kernel)) (by decide) (Lib.hid (HT.out.gr (Gr.trans HB.out hw)))) ?_
  iterate 3 refine tk ?_
  refine ck Tryz.call171 (fun w' hw => dread_no ⟨#[49, 46]⟩ _ (Lib.hid (by decide +kernel)) (Lib.hid (by decide +kernel)) (by decide) (Lib.hid (HT.out.gr (Gr.trans HB.out hw)))) ?_
  iterate 3 refine tk ?_
  refine ck Tryz.call171 (fun w' hw => dread_no ⟨#[46, 53]⟩ _ (Lib.hid (by decide +kernel)) (Lib.hid (by decide +kernel)) (by decide) (Lib.hid (HT.out.gr (Gr.trans HB.out hw)))) ?_
  iterate 3 refine tk ?_
  refine ck Tryz.call171 (fun w' hw => dread_no ⟨#[45, 48, 46, 48]⟩ _ (Lib.hid (by decide +kernel)) (Lib.hid (by decide +kernel)) (by decide) (Lib.hid (HT.out.gr (Gr.trans HB.out hw)))) ?_
  iterate 3 refine tk ?_
  refine ck Tryz.call171 (fun w' hw => dread_ok ⟨#[51, 46, 49, 48]⟩ ⟨#[51, 49, 47, 49, 48]⟩ (31/10 : Rat) _ (Lib.hid (by decide +kernel)) (Lib.hid (by decide +kernel)) (Lib.hid (by decide +kernel)) (by decide) (sz_of (wl_le.2 (by decide +kernel)) (wl_le.2 (by decide +kernel))) (Lib.hid (HT.out.gr (Gr.trans HB.out hw)))) ?_
  iterate 2 refine tk ?_
  refine nlS hT HF fun vw8 HG => ?_
  clear hT T HF HB
  go_wp2
  refine hK.out _ _ ?_; clear hK K
  show Code.wp _ _ _ _ _
  have HF := HG; clear HG
  refine wp_cond_false (by rfl) ?_
  refine wp_skip ?_
  show Code.wp _ _ _ _ _
  have HZ17 : Hid (((1 : Int) : Rat) / ((109 : Int) : Rat) = (1/109 : Rat)) := Lib.hid (by decide +kernel)
  have su17 : sz ((1/109 : Rat)) ≤ 4 := sz_of (wl_le.2 (by decide +kernel)) (wl_le.2 (by decide +kernel))
  refine kS fun K hK => ?_
  refine sq 9 [(true, 0), (true, 1), (true, 2), (true, 3), (true, 4), (true, 5), (true, 6), (true, 7), (true, 8)] fun T hT => ?_
  refine ck Tryz.call166 (fun w' hw => ofd_any (1) (109) (1/109 : Rat) _ (Lib.hid HZ17.out) (by decide) om om om om) ?_
  refine ck Tryz.call67 (fun w' hw => cycle_any (1/109 : Rat) 0 0 3 _ (by decide +kernel) om) ?_
  iterate 7 refine tk ?_
  refine nlS hT HF fun vw9 HG => ?_
  clear hT T HF
  go_wp2
  refine hK.out _ _ ?_; clear hK K
  show Code.wp _ _ _ _ _
  have HF := HG; clear HG
  have HZ18 : Hid (((1 : Int) : Rat) / ((6 : Int) : Rat) = (1/6 : Rat)) := Lib.hid (by decide +kernel)
  have su18 : sz ((1/6 : Rat)) ≤ 4 := sz_of (wl_le.2 (by decide +kernel)) (wl_le.2 (by decide +kernel))
  have HZ19 : Hid (((1 : Int) : Rat) / ((7 : Int) : Rat) = (1/7 : Rat)) := Lib.hid (by decide +kernel)
  have su19 : sz ((1/7 : Rat)) ≤ 4 := sz_of (wl_le.2 (by decide +kernel)) (wl_le.2 (by decide +kernel))
  have HZ20 : Hid (((-1 : Int) : Rat) / ((8 : Int) : Rat) = (-1/8 : Rat)) := Lib.hid (by decide +kernel)
  have su20 : sz ((-1/8 : Rat)) ≤ 4 := sz_of (wl_le.2 (by decide +kernel)) (wl_le.2 (by decide +kernel))
  have HZ21 : Hid (((3 : Int) : Rat) = (3 : Rat)) := Lib.hid (by decide +kernel)
  have su21 : sz ((3 : Rat)) ≤ 2 := sz_of (wl_le.2 (by decide +kernel)) (wl_le.2 (by decide +kernel))
  refine kS fun K hK => ?_
  refine sq 19 [(true, 0), (true, 1), (true, 2), (true, 3), (true, 4), (true, 5), (true, 6), (true, 7), (true, 8), (true, 9), (true, 10), (true, 11), (true, 12), (true, 13), (true, 14), (true, 15), (true, 16), (true, 17), (true, 18)] fun T hT => ?_
  refine ck Tryz.call166 (fun w' hw => ofd_any (1) (6) (1/6 : Rat) _ (Lib.hid HZ18.out) (by decide) om om om om) ?_
  refine ck Tryz.call172 (fun w' hw => dcycles_any (1/6 : Rat) (1) (1) _ (Lib.hid (by decide +kernel)) om) ?_
  refine tk ?_
  refine ck Tryz.call166 (fun w' hw => ofd_any (1) (7) (1/7 : Rat) _ (Lib.hid HZ19.out) (by decide) om om om om) ?_
  refine ck Tryz.call172 (fun w' hw => dcycles_any (1/7 : Rat) (0) (6) _ (Lib.hid (by decide +kernel)) om) ?_
  iterate 2 refine tk ?_
  refine ck Tryz.call166 (fun w' hw => ofd_any (-1) (8) (-1/8 : Rat) _ (Lib.hid HZ20.out) (by decide) om om om om) ?_
  refine ck Tryz.call172 (fun w' hw => dcycles_any (-1/8 : Rat) (3) (0) _ (Lib.hid (by decide +kernel)) om) ?_
  iterate 2 refine tk ?_
  refine ck Tryz.call147 (fun w' hw => fint_any (3) (3 : Rat) _ HZ21.out om om) ?_
  refine ck Tryz.call172 (fun w' hw => dcycles_any (3 : Rat) (0) (0) _ (Lib.hid (by decide +kernel)) om) ?_
  iterate 6 refine tk ?_
  refine nlS hT HF fun vw10 HG => ?_
  clear hT T HF
  go_wp2
  refine hK.out _ _ ?_; clear hK K
  show Code.wp _ _ _ _ _
  have HF := HG; clear HG
  refine wp_ret ?_
  try simp only [Exit.then, Exit.inBlock]
  exact bodyPost_ret (v := .bool true) (by simp [results, Tryz.results64, go_sem]) rfl ⟨rfl, HF.out.1⟩

end Go.Proofs.YtobojnodohjiaaaGreatDoor
