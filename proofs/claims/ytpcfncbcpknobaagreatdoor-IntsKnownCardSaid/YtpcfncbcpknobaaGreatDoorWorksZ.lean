
/- gussetlaw02.works: the examples of the chapter. -/
import Derived.Test.YtpcfncbcpknobaaGreatDoorLawZ2
namespace Go.Proofs.YtpcfncbcpknobaaGreatDoor
open Go.RowKit
set_option linter.unusedSimpArgs false
set_option linter.unusedVariables false
attribute [local go_sem ↓] Go.wp_at_zero Go.wp_at_succ
attribute [local go_sem ↓] eq_nat eq_nat_zero eq_int
set_option maxRecDepth 100000 in
set_option maxHeartbeats 4000000 in
theorem worksz_any   (w : World)   (HT : Hid (Tab w)) :
    Calls Tryz.prog 23 #[] w fun e w' => e = .returned (.bool true) ∧ Below w.heap.size w w' := by
  go_enter Tryz.func23, Tryz.ntmps23
  have HF := Lib.hid (hp0 w)
  refine kS fun K hK => ?_
  refine wp_region_lit ?_
  go_wp2
  refine hK.out _ _ ?_; clear hK K
  show Code.wp _ _ _ _ _
  refine fH (HF.out) fun Wx0 HG => ?_
  clear HF; have HF := HG; clear HG
  have su1 : wl (Int.natAbs (-7)) ≤ 1 := wl_le.2 (by decide +kernel)
  have su2 : wl (Int.natAbs (2)) ≤ 1 := wl_le.2 (by decide +kernel)
  have HZ3 : Hid ((-7) / (2) = -4) := Lib.hid (by decide +kernel)
  have su3 : wl (Int.natAbs (-4)) ≤ 2 := wl_le.2 (by decide +kernel)
  have HZ4 : Hid ((-7) % (2) = 1) := Lib.hid (by decide +kernel)
  have su4 : wl (Int.natAbs (1)) ≤ 1 := wl_le.2 (by decide +kernel)
  refine kS fun K hK => ?_
  refine sq 7 [(true, 0), (true, 1), (true, 2), (true, 3), (true, 4), (true, 5), (true, 6)] fun T hT => ?_
  refine ck Tryz.call93 (fun w' hw => iof_any (-7) _ (by decide) (by decide)) ?_
  refine ck Tryz.call93 (fun w' hw => iof_any (2) _ (by decide) (by decide)) ?_
  refine ck Tryz.call103 (fun w' hw => zidiv (-7) (2) (-4) (1) _ HZ3.out HZ4.out (ok) om om) ?_
  iterate 4 refine tk ?_
  refine nlS hT HF fun vw1 HG => ?_
  clear hT T HF
  go_wp2
  refine hK.out _ _ ?_; clear hK K
  show Code.wp _ _ _ _ _
  refine fH (((HG.out).al (b := vw1.heap.size) (by first | rfl | simp) (by decide)).al (b := vw1.heap.size + 1) (by first | rfl | simp) (by decide)) fun Wx1 HF => ?_
  clear HG
  generalize vw1.heap.size + 1 = gx2 at *
  generalize vw1.heap.size = gx1 at *
  have su5 : wl (Int.natAbs (7)) ≤ 1 := wl_le.2 (by decide +kernel)
  have su6 : wl (Int.natAbs (-2)) ≤ 1 := wl_le.2 (by decide +kernel)
  have HZ7 : Hid ((7) / (-2) = -3) := Lib.hid (by decide +kernel)
  have su7 : wl (Int.natAbs (-3)) ≤ 2 := wl_le.2 (by decide +kernel)
  have HZ8 : Hid ((7) % (-2) = 1) := Lib.hid (by decide +kernel)
  have su8 : wl (Int.natAbs (1)) ≤ 1 := wl_le.2 (by decide +kernel)
  refine kS fun K hK => ?_
  refine sq 7 [(true, 0), (true, 1), (true, 2), (true, 3), (true, 4), (true, 5), (true, 6)] fun T hT => ?_
  refine ck Tryz.call93 (fun w' hw => iof_any (7) _ (by decide) (by decide)) ?_
  refine ck Tryz.call93 (fun w' hw => iof_any (-2) _ (by decide) (by decide)) ?_
  refine ck Tryz.call103 (fun w' hw => zidiv (7) (-2) (-3) (1) _ HZ7.out HZ8.out (ok) om om) ?_
  iterate 4 refine tk ?_
  refine nlS hT HF fun vw2 HG => ?_
  clear hT T HF
  go_wp2
  refine hK.out _ _ ?_; clear hK K
  show Code.wp _ _ _ _ _
  refine fH (((HG.out).al (b := vw2.heap.size) (by first | rfl | simp) (by decide)).al (b := vw2.heap.size + 1) (by first | rfl | simp) (by decide)) fun Wx2 HF => ?_
  clear HG
  generalize vw2.heap.size + 1 = gx4 at *
  generalize vw2.heap.size = gx3 at *
  have su9 : wl (Int.natAbs (-7)) ≤ 1 := wl_le.2 (by decide +kernel)
  have su10 : wl (Int.natAbs (-2)) ≤ 1 := wl_le.2 (by decide +kernel)
  have HZ11 : Hid ((-7) / (-2) = 4) := Lib.hid (by decide +kernel)
  have su11 : wl (Int.natAbs (4)) ≤ 2 := wl_le.2 (by decide +kernel)
  have HZ12 : Hid ((-7) % (-2) = 1) := Lib.hid (by decide +kernel)
  have su12 : wl (Int.natAbs (1)) ≤ 1 := wl_le.2 (by decide +kernel)
  refine kS fun K hK => ?_
  refine sq 7 [(true, 0), (true, 1), (true, 2), (true, 3), (true, 4), (true, 5), (true, 6)] fun T hT => ?_
  refine ck Tryz.call93 (fun w' hw => iof_any (-7) _ (by decide) (by decide)) ?_
  refine ck Tryz.call93 (fun w' hw => iof_any (-2) _ (by decide) (by decide)) ?_
  refine ck Tryz.call103 (fun w' hw => zidiv (-7) (-2) (4) (1) _ HZ11.out HZ12.out (ok) om om) ?_
  iterate 4 refine tk ?_
  refine nlS hT HF fun vw3 HG => ?_
  clear hT T HF
  go_wp2
  refine hK.out _ _ ?_; clear hK K
  show Code.wp _ _ _ _ _
  refine fH (((HG.out).al (b := vw3.heap.size) (by first | rfl | simp) (by decide)).al (b := vw3.heap.size + 1) (by first | rfl | simp) (by decide)) fun Wx3 HF => ?_
  clear HG
  generalize vw3.heap.size + 1 = gx6 at *
  generalize vw3.heap.size = gx5 at *
  have su13 : wl (Int.natAbs (7)) ≤ 1 := wl_le.2 (by decide +kernel)
  have su14 : wl (Int.natAbs (0)) ≤ 1 := wl_le.2 (by decide +kernel)
  refine kS fun K hK => ?_
  refine sq 7 [(true, 0), (true, 1), (true, 2), (true, 3), (true, 4), (true, 5), (true, 6)] fun T hT => ?_
  refine ck Tryz.call93 (fun w' hw => iof_any (7) _ (by decide) (by decide)) ?_
  refine ck Tryz.call93 (fun w' hw => iof_any (0) _ (by decide) (by decide)) ?_
  refine ck Tryz.call103 (fun w' hw => zidivno (7) (0) _ (ok) om om) ?_
  iterate 4 refine tk ?_
  refine nlS hT HF fun vw4 HG => ?_
  clear hT T HF
  go_wp2
  refine hK.out _ _ ?_; clear hK K
  show Code.wp _ _ _ _ _
  refine fH (((((HG.out).al (b := vw4.heap.size) (by first | rfl | simp) (by decide)).al (b := vw4.heap.size + 1) (by first | rfl | simp) (by decide)).er 7).er 6) fun Wx4 HF => ?_
  clear HG
  generalize vw4.heap.size + 1 = gx8 at *
  generalize vw4.heap.size = gx7 at *
  refine wp_seq ?_
  have lx1 := HF.out.c 0 rfl
  have lx2 := HF.out.c 1 rfl
  have lx3 := HF.out.c 2 rfl
  have lx4 := HF.out.c 3 rfl
  have lx5 := HF.out.c 4 rfl
  have lx6 := HF.out.c 5 rfl
  refine kS fun K hK => ?_
  refine sq 35 [(true, 0), (true, 1), (true, 2), (true, 3), (true, 4), (true, 5), (true, 6), (true, 7), (true, 8), (true, 9), (true, 10), (true, 11), (true, 12), (true, 13), (true, 14), (true, 15), (true, 16), (true, 17), (true, 18), (true, 19), (true, 20), (true, 21), (true, 22), (true, 23), (true, 24), (true, 25), (true, 26), (true, 27), (true, 28), (true, 29), (true, 30), (true, 31), (true, 32), (true, 33), (true, 34)] fun T hT => ?_
  refine tk ?_
  refine ck Tryz.call119 (fun w' hw => is_any (-4) (-4) true _ (Lib.hid (decide_eq_true (by decide))) (by decide) (by decide)) ?_
  iterate 3 refine tk ?_
  refine ck Tryz.call119 (fun w' hw => is_any (1) (1) true _ (Lib.hid (decide_eq_true (by decide))) (by decide) (by decide)) ?_
  iterate 8 refine tk ?_
  refine ck Tryz.call119 (fun w' hw => is_any (-3) (-3) true _ (Lib.hid (decide_eq_true (by decide))) (by decide) (by decide)) ?_
  iterate 4 refine tk ?_
  refine ck Tryz.call119 (fun w' hw => is_any (1) (1) true _ (Lib.hid (decide_eq_true (by decide))) (by decide) (by decide)) ?_
  iterate 4 refine tk ?_
  refine ck Tryz.call119 (fun w' hw => is_any (4) (4) true _ (Lib.hid (decide_eq_true (by decide))) (by decide) (by decide)) ?_
  iterate 4 refine tk ?_
  refine ck Tryz.call119 (fun w' hw => is_any (1) (1) true _ (Lib.hid (decide_eq_true (by decide))) (by decide) (by decide)) ?_
  iterate 5 refine tk ?_
  refine nlS hT HF fun vw5 HG => ?_
  clear hT T HF lx1 lx2 lx3 lx4 lx5 lx6
  go_wp2
  refine hK.out _ _ ?_; clear hK K
  show Code.wp _ _ _ _ _
  refine fH (((((((HG.out).er 5).er 4).er 3).er 2).er 1).er 0) fun Wx5 HF => ?_
  clear HG
  refine wp_cond_false (by rfl) ?_
  refine wp_skip ?_
  show Code.wp _ _ _ _ _
  have su15 : wl (Int.natAbs (12)) ≤ 1 := wl_le.2 (by decide +kernel)
  have su16 : wl (Int.natAbs (18)) ≤ 1 := wl_le.2 (by decide +kernel)
  have HZ17 : Hid ((egcd (12) (18)).1 = 6) := Lib.hid (by rw [show egcd (12) (18) = (6, -1, 1) from by first | (simp [egcd_zero, sgI]; done) | (simp [egcd_step, egcd_zero, sgI]; done)])
  have su17 : wl (Int.natAbs (6)) ≤ 5 := by have e := HZ17.out; first | omega | (rw [← e]; have := wl_egcd (a := 12) (b := 18) (M := 1) om om (by decide); omega)
  have HZ18 : Hid ((egcd (12) (18)).2.1 = (-1)) := Lib.hid (by rw [show egcd (12) (18) = (6, -1, 1) from by first | (simp [egcd_zero, sgI]; done) | (simp [egcd_step, egcd_zero, sgI]; done)])
  have su18 : wl (Int.natAbs ((-1))) ≤ 5 := by have e := HZ18.out; first | omega | (rw [← e]; have := wl_egcd (a := 12) (b := 18) (M := 1) om om (by decide); omega)
  have HZ19 : Hid ((egcd (12) (18)).2.2 = 1) := Lib.hid (by rw [show egcd (12) (18) = (6, -1, 1) from by first | (simp [egcd_zero, sgI]; done) | (simp [egcd_step, egcd_zero, sgI]; done)])
  have su19 : wl (Int.natAbs (1)) ≤ 5 := by have e := HZ19.out; first | omega | (rw [← e]; have := wl_egcd (a := 12) (b := 18) (M := 1) om om (by decide); omega)
  refine kS fun K hK => ?_
  refine sq 7 [(true, 0), (true, 1), (true, 2), (true, 3), (true, 4), (true, 5), (true, 6)] fun T hT => ?_
  refine ck Tryz.call93 (fun w' hw => iof_any (12) _ (by decide) (by decide)) ?_
  refine ck Tryz.call93 (fun w' hw => iof_any (18) _ (by decide) (by decide)) ?_
  refine ck Tryz.call117 (fun w' hw => zigcd (12) (18) (6) (-1) (1) _ HZ17.out HZ18.out HZ19.out om om) ?_
  iterate 4 refine tk ?_
  refine nlS hT HF fun vw6 HG => ?_
  clear hT T HF
  go_wp2
  refine hK.out _ _ ?_; clear hK K
  show Code.wp _ _ _ _ _
  refine fH ((((HG.out).al (b := vw6.heap.size) (by first | rfl | simp) (by decide)).al (b := vw6.heap.size + 1) (by first | rfl | simp) (by decide)).al (b := vw6.heap.size + 1 + 1) (by first | rfl | simp) (by decide)) fun Wx7 HF => ?_
  clear HG
  generalize vw6.heap.size + 1 + 1 = gx11 at *
  generalize vw6.heap.size + 1 = gx10 at *
  generalize vw6.heap.size = gx9 at *
  have su20 : wl (Int.natAbs (-5)) ≤ 1 := wl_le.2 (by decide +kernel)
  have su21 : wl (Int.natAbs (0)) ≤ 1 := wl_le.2 (by decide +kernel)
  have HZ22 : Hid ((egcd (-5) (0)).1 = 5) := Lib.hid (by rw [show egcd (-5) (0) = (5, -1, 0) from by first | (simp [egcd_zero, sgI]; done) | (simp [egcd_step, egcd_zero, sgI]; done)])
  have su22 : wl (Int.natAbs (5)) ≤ 5 := by have e := HZ22.out; first | omega | (rw [← e]; have := wl_egcd (a := -5) (b := 0) (M := 1) om om (by decide); omega)
  have HZ23 : Hid ((egcd (-5) (0)).2.1 = (-1)) := Lib.hid (by rw [show egcd (-5) (0) = (5, -1, 0) from by first | (simp [egcd_zero, sgI]; done) | (simp [egcd_step, egcd_zero, sgI]; done)])
  have su23 : wl (Int.natAbs ((-1))) ≤ 5 := by have e := HZ23.out; first | omega | (rw [← e]; have := wl_egcd (a := -5) (b := 0) (M := 1) om om (by decide); omega)
  have HZ24 : Hid ((egcd (-5) (0)).2.2 = 0) := Lib.hid (by rw [show egcd (-5) (0) = (5, -1, 0) from by first | (simp [egcd_zero, sgI]; done) | (simp [egcd_step, egcd_zero, sgI]; done)])
  have su24 : wl (Int.natAbs (0)) ≤ 5 := by have e := HZ24.out; first | omega | (rw [← e]; have := wl_egcd (a := -5) (b := 0) (M := 1) om om (by decide); omega)
  refine kS fun K hK => ?_
  refine sq 7 [(true, 0), (true, 1), (true, 2), (true, 3), (true, 4), (true, 5), (true, 6)] fun T hT => ?_
  refine ck Tryz.call93 (fun w' hw => iof_any (-5) _ (by decide) (by decide)) ?_
  refine ck Tryz.call93 (fun w' hw => iof_any (0) _ (by decide) (by decide)) ?_
  refine ck Tryz.call117 (fun w' hw => zigcd (-5) (0) (5) (-1) (0) _ HZ22.out HZ23.out HZ24.out om om) ?_
  iterate 4 refine tk ?_
  refine nlS hT HF fun vw7 HG => ?_
  clear hT T HF
  go_wp2
  refine hK.out _ _ ?_; clear hK K
  show Code.wp _ _ _ _ _
  refine fH ((((HG.out).al (b := vw7.heap.size) (by first | rfl | simp) (by decide)).al (b := vw7.heap.size + 1) (by first | rfl | simp) (by decide)).al (b := vw7.heap.size + 1 + 1) (by first | rfl | simp) (by decide)) fun Wx8 HF => ?_
  clear HG
  generalize vw7.heap.size + 1 + 1 = gx14 at *
  generalize vw7.heap.size + 1 = gx13 at *
  generalize vw7.heap.size = gx12 at *
  have su25 : wl (Int.natAbs (0)) ≤ 1 := wl_le.2 (by decide +kernel)
  have su26 : wl (Int.natAbs (0)) ≤ 1 := wl_le.2 (by decide +kernel)
  have HZ27 : Hid ((egcd (0) (0)).1 = 0) := Lib.hid (by rw [show egcd (0) (0) = (0, 0, 0) from by first | (simp [egcd_zero, sgI]; done) | (simp [egcd_step, egcd_zero, sgI]; done)])
  have su27 : wl (Int.natAbs (0)) ≤ 5 := by have e := HZ27.out; first | omega | (rw [← e]; have := wl_egcd (a := 0) (b := 0) (M := 1) om om (by decide); omega)
  have HZ28 : Hid ((egcd (0) (0)).2.1 = 0) := Lib.hid (by rw [show egcd (0) (0) = (0, 0, 0) from by first | (simp [egcd_zero, sgI]; done) | (simp [egcd_step, egcd_zero, sgI]; done)])
  have su28 : wl (Int.natAbs (0)) ≤ 5 := by have e := HZ28.out; first | omega | (rw [← e]; have := wl_egcd (a := 0) (b := 0) (M := 1) om om (by decide); omega)
  have HZ29 : Hid ((egcd (0) (0)).2.2 = 0) := Lib.hid (by rw [show egcd (0) (0) = (0, 0, 0) from by first | (simp [egcd_zero, sgI]; done) | (simp [egcd_step, egcd_zero, sgI]; done)])
  have su29 : wl (Int.natAbs (0)) ≤ 5 := by have e := HZ29.out; first | omega | (rw [← e]; have := wl_egcd (a := 0) (b := 0) (M := 1) om om (by decide); omega)
  refine kS fun K hK => ?_
  refine sq 7 [(true, 0), (true, 1), (true, 2), (true, 3), (true, 4), (true, 5), (true, 6)] fun T hT => ?_
  refine ck Tryz.call93 (fun w' hw => iof_any (0) _ (by decide) (by decide)) ?_
  refine ck Tryz.call93 (fun w' hw => iof_any (0) _ (by decide) (by decide)) ?_
  refine ck Tryz.call117 (fun w' hw => zigcd (0) (0) (0) (0) (0) _ HZ27.out HZ28.out HZ29.out om om) ?_
  iterate 4 refine tk ?_
  refine nlS hT HF fun vw8 HG => ?_
  clear hT T HF
  go_wp2
  refine hK.out _ _ ?_; clear hK K
  show Code.wp _ _ _ _ _
  refine fH ((((HG.out).al (b := vw8.heap.size) (by first | rfl | simp) (by decide)).al (b := vw8.heap.size + 1) (by first | rfl | simp) (by decide)).al (b := vw8.heap.size + 1 + 1) (by first | rfl | simp) (by decide)) fun Wx9 HF => ?_
  clear HG
  generalize vw8.heap.size + 1 + 1 = gx17 at *
  generalize vw8.heap.size + 1 = gx16 at *
  generalize vw8.heap.size = gx15 at *
  have su30 : wl (Int.natAbs (-9223372036854775808)) ≤ 2 := wl_le.2 (by decide +kernel)
  refine kS fun K hK => ?_
  refine sq 1 [(true, 0)] fun T hT => ?_
  refine ck Tryz.call93 (fun w' hw => iof_any (-9223372036854775808) _ (by decide) (by decide)) ?_
  refine nlS hT HF fun vw9 HG => ?_
  clear hT T HF
  go_wp2
  refine hK.out _ _ ?_; clear hK K
  show Code.wp _ _ _ _ _
  refine fH ((HG.out).al (b := vw9.heap.size) (by first | rfl | simp) (by decide)) fun Wx10 HF => ?_
  clear HG
  generalize vw9.heap.size = gx18 at *
  refine wp_seq ?_
  have HB := HPb HF
  have HZ31 : Hid ((-9223372036854775808 : Int) * (-9223372036854775808) = 85070591730234615865843651857942052864) := Lib.hid (by decide +kernel)
  have su31 : wl (Int.natAbs (85070591730234615865843651857942052864)) ≤ 4 := wl_le.2 (by decide +kernel)
  have lx9 := HF.out.c 0 rfl
  have lx10 := HF.out.c 1 rfl
  have lx11 := HF.out.c 2 rfl
  have lx12 := HF.out.c 3 rfl
  have lx13 := HF.out.c 4 rfl
  have lx14 := HF.out.c 5 rfl
  have lx15 := HF.out.c 6 rfl
  have lx16 := HF.out.c 7 rfl
  have lx17 := HF.out.c 8 rfl
  have lx18 := HF.out.c 9 rfl
  refine kS fun K hK => ?_
  refine sq 50 [(true, 0), (true, 1), (true, 2), (true, 3), (true, 4), (true, 5), (true, 6), (true, 7), (true, 8), (true, 9), (true, 10), (true, 11), (true, 12), (true, 13), (true, 14), (true, 15), (true, 16), (true, 17), (true, 18), (true, 19), (true, 20), (true, 21), (true, 22), (true, 23), (true, 24), (true, 25), (true, 26), (true, 27), (true, 28), (true, 29), (true, 30), (true, 31), (true, 32), (true, 33), (true, 34), (true, 35), (true, 36), (true, 37), (true, 38), (true, 39), (true, 40), (true, 41), (true, 42), (true, 43), (true, 44), (true, 45), (true, 46), (true, 47), (true, 48), (true, 49)] fun T hT => ?_
  refine tk ?_
  refine ck Tryz.call119 (fun w' hw => is_any (6) (6) true _ (Lib.hid (decide_eq_true (by decide))) (by decide) (by decide)) ?_
  iterate 3 refine tk ?_
  refine ck Tryz.call119 (fun w' hw => is_any (-1) (-1) true _ (Lib.hid (decide_eq_true (by decide))) (by decide) (by decide)) ?_
  iterate 4 refine tk ?_
  refine ck Tryz.call119 (fun w' hw => is_any (1) (1) true _ (Lib.hid (decide_eq_true (by decide))) (by decide) (by decide)) ?_
  iterate 4 refine tk ?_
  refine ck Tryz.call119 (fun w' hw => is_any (5) (5) true _ (Lib.hid (decide_eq_true (by decide))) (by decide) (by decide)) ?_
  iterate 4 refine tk ?_
  refine ck Tryz.call119 (fun w' hw => is_any (-1) (-1) true _ (Lib.hid (decide_eq_true (by decide))) (by decide) (by decide)) ?_
  iterate 4 refine tk ?_
  refine ck Tryz.call119 (fun w' hw => is_any (0) (0) true _ (Lib.hid (decide_eq_true (by decide))) (by decide) (by decide)) ?_
  iterate 4 refine tk ?_
  refine ck Tryz.call119 (fun w' hw => is_any (0) (0) true _ (Lib.hid (decide_eq_true (by decide))) (by decide) (by decide)) ?_
  iterate 4 refine tk ?_
  refine ck Tryz.call119 (fun w' hw => is_any (0) (0) true _ (Lib.hid (decide_eq_true (by decide))) (by decide) (by decide)) ?_
  iterate 4 refine tk ?_
  refine ck Tryz.call119 (fun w' hw => is_any (0) (0) true _ (Lib.hid (decide_eq_true (by decide))) (by decide) (by decide)) ?_
  iterate 5 refine tk ?_
  refine ck Tryz.call94 (fun w' hw => zimul (-9223372036854775808) (-9223372036854775808) (85070591730234615865843651857942052864) _ HZ31.out om om) ?_
  refine ck Tryz.call72 (fun w' hw => zitext (85070591730234615865843651857942052864) ⟨#[56, 53, 48, 55, 48, 53, 57, 49, 55, 51, 48, 50, 51, 52, 54, 49, 53, 56, 54, 53, 56, 52, 51, 54, 53, 49, 56, 53, 55, 57, 52, 50, 48, 53, 50, 56, 54, 52]⟩ _ (itx_lit (85070591730234615865843651857942052864) (n := 85070591730234615865843651857942052864) (by decide) (dec_lit 38 (by decide +kernel) (by decide +kernel))) om (Lib.hid (HT.out.gr (Gr.trans HB.out hw)))) ?_
  iterate 2 refine tk ?_
  refine nlS hT HF fun vw10 HG => ?_
  clear hT T HF lx9 lx10 lx11 lx12 lx13 lx14 lx15 lx16 lx17 lx18 HB
  go_wp2
  refine hK.out _ _ ?_; clear hK K
  show Code.wp _ _ _ _ _
  refine fH (((((((((((HG.out).er 9).er 8).er 7).er 6).er 5).er 4).er 3).er 2).er 1).er 0) fun Wx11 HF => ?_
  clear HG
  refine wp_cond_false (by rfl) ?_
  refine wp_skip ?_
  show Code.wp _ _ _ _ _
  have su32 : wl (Int.natAbs (0)) ≤ 1 := wl_le.2 (by decide +kernel)
  refine kS fun K hK => ?_
  refine sq 4 [(true, 0), (true, 1), (true, 2), (true, 3)] fun T hT => ?_
  refine ck Tryz.call123 (fun w' hw => ziparse ⟨#[45, 48]⟩ (0) 4 _ (by decide +kernel) (by decide +kernel) (by decide)) ?_
  iterate 3 refine tk ?_
  refine nlS hT HF fun vw11 HG => ?_
  clear hT T HF
  go_wp2
  refine hK.out _ _ ?_; clear hK K
  show Code.wp _ _ _ _ _
  refine fH (((HG.out).al (b := vw11.heap.size) (by first | rfl | simp) (by decide)).er 0) fun Wx13 HF => ?_
  clear HG
  generalize vw11.heap.size = gx19 at *
  have su33 : wl (Int.natAbs (0)) ≤ 1 := wl_le.2 (by decide +kernel)
  refine kS fun K hK => ?_
  refine sq 4 [(true, 0), (true, 1), (true, 2), (true, 3)] fun T hT => ?_
  refine ck Tryz.call123 (fun w' hw => ziparse ⟨#[45, 45, 49]⟩ (0) 4 _ (by decide +kernel) (by decide +kernel) (by decide)) ?_
  iterate 3 refine tk ?_
  refine nlS hT HF fun vw12 HG => ?_
  clear hT T HF
  go_wp2
  refine hK.out _ _ ?_; clear hK K
  show Code.wp _ _ _ _ _
  refine fH (((HG.out).al (b := vw12.heap.size) (by first | rfl | simp) (by decide)).er 0) fun Wx14 HF => ?_
  clear HG
  generalize vw12.heap.size = gx20 at *
  have su34 : wl (Int.natAbs (-12)) ≤ 1 := wl_le.2 (by decide +kernel)
  refine kS fun K hK => ?_
  refine sq 4 [(true, 0), (true, 1), (true, 2), (true, 3)] fun T hT => ?_
  refine ck Tryz.call123 (fun w' hw => ziparse ⟨#[45, 49, 50]⟩ (-12) 0 _ (by decide +kernel) (by decide +kernel) (by decide)) ?_
  iterate 3 refine tk ?_
  refine nlS hT HF fun vw13 HG => ?_
  clear hT T HF
  go_wp2
  refine hK.out _ _ ?_; clear hK K
  show Code.wp _ _ _ _ _
  refine fH ((HG.out).al (b := vw13.heap.size) (by first | rfl | simp) (by decide)) fun Wx15 HF => ?_
  clear HG
  generalize vw13.heap.size = gx21 at *
  have su35 : wl (Int.natAbs (0)) ≤ 1 := wl_le.2 (by decide +kernel)
  refine kS fun K hK => ?_
  refine sq 4 [(true, 0), (true, 1), (true, 2), (true, 3)] fun T hT => ?_
  refine ck Tryz.call123 (fun w' hw => ziparse ⟨#[48, 49, 50]⟩ (0) 4 _ (by decide +kernel) (by decide +kernel) (by decide)) ?_
  iterate 3 refine tk ?_
  refine nlS hT HF fun vw14 HG => ?_
  clear hT T HF
  go_wp2
  refine hK.out _ _ ?_; clear hK K
  show Code.wp _ _ _ _ _
  refine fH (((HG.out).al (b := vw14.heap.size) (by first | rfl | simp) (by decide)).er 1) fun Wx16 HF => ?_
  clear HG
  generalize vw14.heap.size = gx22 at *
  have lx21 := HF.out.c 0 rfl
  refine kS fun K hK => ?_
  refine sq 19 [(true, 0), (true, 1), (true, 2), (true, 3), (true, 4), (true, 5), (true, 6), (true, 7), (true, 8), (true, 9), (true, 10), (true, 11), (true, 12), (true, 13), (true, 14), (true, 15), (true, 16), (true, 17), (true, 18)] fun T hT => ?_
  iterate 8 refine tk ?_
  refine ck Tryz.call119 (fun w' hw => is_any (-12) (-12) true _ (Lib.hid (decide_eq_true (by decide))) (by decide) (by decide)) ?_
  iterate 10 refine tk ?_
  refine nlS hT HF fun vw15 HG => ?_
  clear hT T HF lx21
  go_wp2
  refine hK.out _ _ ?_; clear hK K
  show Code.wp _ _ _ _ _
  refine fH ((HG.out).er 0) fun Wx17 HF => ?_
  clear HG
  refine wp_ret ?_
  try simp only [Exit.then, Exit.inBlock]
  exact bodyPost_ret (v := .bool true) (by simp [results, Tryz.results23, go_sem]) rfl ⟨rfl, HF.out.1⟩

end Go.Proofs.YtpcfncbcpknobaaGreatDoor
