
/- gussetlaw03.works: the examples of the chapter. -/
import Derived.Test.YtgdibedgjndcoaaGreatDoorGreatP
import Derived.Test.YtgdibedgjndcoaaGreatDoorPV
import Derived.Test.YtgdibedgjndcoaaGreatDoorPW
import Derived.Test.YtgdibedgjndcoaaGreatDoorPlanQ
import Derived.Test.YtgdibedgjndcoaaGreatDoorHp2
namespace Go.Proofs.YtgdibedgjndcoaaGreatDoor
open Go.RowKit
set_option linter.unusedSimpArgs false
set_option linter.unusedVariables false
attribute [local go_sem ↓] Go.wp_at_zero Go.wp_at_succ
attribute [local go_sem ↓] eq_nat eq_nat_zero eq_int eq_frac eq_frac_zero
attribute [local go_sem] Instr.field asAgg
set_option maxRecDepth 100000 in
set_option maxHeartbeats 16000000 in
theorem worksq_any (w : World) (HT : Hid (Tab w)) :
    Calls Tryz.prog 20 #[] w fun e w' => e = .returned (.bool true) ∧ Below w.heap.size w w' := by
  have hw1 : IntKind.i64.wrap 1 = 1 := by decide
  have hw2 : IntKind.i64.wrap 2 = 2 := by decide
  have hw3 : IntKind.i64.wrap 3 = 3 := by decide
  have hw4 : IntKind.i64.wrap 4 = 4 := by decide
  have hw5 : IntKind.i64.wrap 5 = 5 := by decide
  have hw6 : IntKind.i64.wrap 6 = 6 := by decide
  have hw7 : IntKind.i64.wrap 7 = 7 := by decide
  go_enter Tryz.func20, Tryz.ntmps20
  have HF := Lib.hid (hp0 w)
  refine kS fun K hK => ?_
  refine wp_region_lit ?_
  go_wp2
  refine hK.out _ _ ?_; clear hK K
  show Code.wp _ _ _ _ _
  refine fH (HF.out) fun Wx0 HG => ?_
  clear HF; have HF := HG; clear HG
  have HZ1 : Hid (((6 : Int) : Rat) / ((-4 : Int) : Rat) = (-3/2 : Rat)) := Lib.hid (by decide +kernel)
  have su1 : sz ((-3/2 : Rat)) ≤ 4 := sz_of (wl_le.2 (by decide +kernel)) (wl_le.2 (by decide +kernel))
  have HZ2 : Hid (((0 : Int) : Rat) / ((-5 : Int) : Rat) = (0 : Rat)) := Lib.hid (by decide +kernel)
  have su2 : sz ((0 : Rat)) ≤ 4 := sz_of (wl_le.2 (by decide +kernel)) (wl_le.2 (by decide +kernel))
  refine kS fun K hK => ?_
  refine sq 2 [(true, 0), (true, 1)] fun T hT => ?_
  refine ck Tryz.call80 (fun w' hw => ofq_any (6) (-4) (-3/2 : Rat) _ (Lib.hid HZ1.out) (by decide) om om om om) ?_
  refine ck Tryz.call80 (fun w' hw => ofq_any (0) (-5) (0 : Rat) _ (Lib.hid HZ2.out) (by decide) om om om om) ?_
  refine nlS hT HF fun vw1 HG => ?_
  clear hT T HF
  go_wp2
  refine hK.out _ _ ?_; clear hK K
  show Code.wp _ _ _ _ _
  refine fH (((HG.out).al (b := vw1.heap.size) (by first | rfl | simp) (by decide)).al (b := vw1.heap.size + 1) (by first | rfl | simp) (by decide)) fun Wx1 HF => ?_
  clear HG
  generalize vw1.heap.size + 1 = gx2 at *
  generalize vw1.heap.size = gx1 at *
  refine kS fun K hK => ?_
  refine sq 4 [(true, 0), (true, 1), (true, 2), (true, 3)] fun T hT => ?_
  refine ck Tryz.call53 (fun w' hw => fof_none (1) (0) _ (ok) om om) ?_
  iterate 3 refine tk ?_
  refine nlS hT HF fun vw2 HG => ?_
  clear hT T HF
  go_wp2
  refine hK.out _ _ ?_; clear hK K
  show Code.wp _ _ _ _ _
  refine fH (((HG.out).al (b := vw2.heap.size) (by first | rfl | simp) (by decide)).er 2) fun Wx2 HF => ?_
  clear HG
  generalize vw2.heap.size = gx3 at *
  have HZ3 : Hid (((-9223372036854775808 : Int) : Rat) / ((-9223372036854775808 : Int) : Rat) = (1 : Rat)) := Lib.hid (by decide +kernel)
  have su3 : sz ((1 : Rat)) ≤ 4 := sz_of (wl_le.2 (by decide +kernel)) (wl_le.2 (by decide +kernel))
  refine kS fun K hK => ?_
  refine sq 1 [(true, 0)] fun T hT => ?_
  refine ck Tryz.call80 (fun w' hw => ofq_any (-9223372036854775808) (-9223372036854775808) (1 : Rat) _ (Lib.hid HZ3.out) (by decide) om om om om) ?_
  refine nlS hT HF fun vw3 HG => ?_
  clear hT T HF
  go_wp2
  refine hK.out _ _ ?_; clear hK K
  show Code.wp _ _ _ _ _
  refine fH ((HG.out).al (b := vw3.heap.size) (by first | rfl | simp) (by decide)) fun Wx3 HF => ?_
  clear HG
  generalize vw3.heap.size = gx4 at *
  have HZ4 : Hid (((1 : Int) : Rat) / ((2 : Int) : Rat) = (1/2 : Rat)) := Lib.hid (by decide +kernel)
  have su4 : sz ((1/2 : Rat)) ≤ 4 := sz_of (wl_le.2 (by decide +kernel)) (wl_le.2 (by decide +kernel))
  have HZ5 : Hid (((-1 : Int) : Rat) / ((4 : Int) : Rat) = (-1/4 : Rat)) := Lib.hid (by decide +kernel)
  have su5 : sz ((-1/4 : Rat)) ≤ 4 := sz_of (wl_le.2 (by decide +kernel)) (wl_le.2 (by decide +kernel))
  have HZ6 : Hid ((1/2 : Rat) / (-1/4 : Rat) = (-2 : Rat)) := Lib.hid (by decide +kernel)
  have su6 : sz ((-2 : Rat)) ≤ 8 := sz_of (wl_le.2 (by decide +kernel)) (wl_le.2 (by decide +kernel))
  refine kS fun K hK => ?_
  refine sq 6 [(true, 0), (true, 1), (true, 2), (true, 3), (true, 4), (true, 5)] fun T hT => ?_
  refine ck Tryz.call80 (fun w' hw => ofq_any (1) (2) (1/2 : Rat) _ (Lib.hid HZ4.out) (by decide) om om om om) ?_
  refine ck Tryz.call80 (fun w' hw => ofq_any (-1) (4) (-1/4 : Rat) _ (Lib.hid HZ5.out) (by decide) om om om om) ?_
  refine ck Tryz.call57 (fun w' hw => fdiv_any (1/2 : Rat) (-1/4 : Rat) (-2 : Rat) _ HZ6.out (ok) om om) ?_
  iterate 3 refine tk ?_
  refine nlS hT HF fun vw4 HG => ?_
  clear hT T HF
  go_wp2
  refine hK.out _ _ ?_; clear hK K
  show Code.wp _ _ _ _ _
  refine fH ((HG.out).al (b := vw4.heap.size) (by first | rfl | simp) (by decide)) fun Wx4 HF => ?_
  clear HG
  generalize vw4.heap.size = gx5 at *
  have HZ7 : Hid (((1 : Int) : Rat) = (1 : Rat)) := Lib.hid (by decide +kernel)
  have su7 : sz ((1 : Rat)) ≤ 2 := sz_of (wl_le.2 (by decide +kernel)) (wl_le.2 (by decide +kernel))
  have lx2 := HF.out.c 1 rfl
  refine kS fun K hK => ?_
  refine wp_region_plan 7 [6] [5] (fun _ => 8) (fun _ => .cells #[.int .u64 0, .string ⟨#[]⟩, .bool false, .int .u64 0, .string ⟨#[]⟩] 36) [(true, 1), (true, 0), (true, 2), (true, 3), (true, 4), (true, 5)] (by kernel_rfl) (by kernel_rfl) (by intro i hi; simp only [List.mem_cons, List.not_mem_nil, or_false] at hi; rcases hi with rfl <;> exact ⟨_, rfl, rfl, rfl, by simp, fun ρ w => by kernel_rfl⟩) (by intro i hi; simp only [List.mem_cons, List.not_mem_nil, or_false] at hi; rcases hi with rfl <;> exact ⟨_, rfl, pure_extract⟩) (fun _ _ _ _ _ h => h) (fun T hT => ?_)
  refine tk ?_
  refine ck Tryz.call54 (fun w' hw => fint_any (1) (1 : Rat) _ HZ7.out om om) ?_
  refine ck Tryz.call57 (fun w' hw => fdiv_none0 (1 : Rat) (0 : Rat) _ (ok)) ?_
  iterate 3 refine tk ?_
  refine wpPlan_nil (hT.out _ _ ?_)
  intro G vw5 hg hf
  simp only [puts, Act.put, lA, lB, lC, lD, lE, ↓reduceIte, Nat.reduceEqDiff]
  have HG := Lib.hid (HF.out.fr hg hf (zs := [(#[.int .u64 0, .string ⟨#[]⟩, .bool false, .int .u64 0, .string ⟨#[]⟩], 36)]) rfl (by decide) (by decide))
  simp only [List.zip_cons_cons, List.zip_nil_right, List.map_cons, List.map_nil, lF, lG] at HG
  clear hT T HF hg hf lx2
  generalize G 6 = gx6 at *
  have lx6 := HG.out.c 4 rfl; have fx6 := HG.out.f 4 rfl
  have r0 := Gr.refl vw5
  go_wp2
  refine hK.out _ _ ?_; clear hK K
  show Code.wp _ _ _ _ _
  clear r0 lx6 fx6
  refine fH (((((HG.out).put2 4 0 rfl).put2 4 2 rfl).put 4 4 _ rfl).er 4) fun Wx5 HF => ?_
  clear HG
  refine wp_seq ?_
  have HB := HPb HF
  have HZ8 : Hid (((1 : Int) : Rat) / ((2 : Int) : Rat) = (1/2 : Rat)) := Lib.hid (by decide +kernel)
  have su8 : sz ((1/2 : Rat)) ≤ 4 := sz_of (wl_le.2 (by decide +kernel)) (wl_le.2 (by decide +kernel))
  have HZ9 : Hid (((1 : Int) : Rat) / ((3 : Int) : Rat) = (1/3 : Rat)) := Lib.hid (by decide +kernel)
  have su9 : sz ((1/3 : Rat)) ≤ 4 := sz_of (wl_le.2 (by decide +kernel)) (wl_le.2 (by decide +kernel))
  have HZ10 : Hid ((1/2 : Rat) + (1/3 : Rat) = (5/6 : Rat)) := Lib.hid (by decide +kernel)
  have su10 : sz ((5/6 : Rat)) ≤ 9 := sz_of (wl_le.2 (by decide +kernel)) (wl_le.2 (by decide +kernel))
  have HZ11 : Hid (((1 : Int) : Rat) / ((2 : Int) : Rat) = (1/2 : Rat)) := Lib.hid (by decide +kernel)
  have su11 : sz ((1/2 : Rat)) ≤ 4 := sz_of (wl_le.2 (by decide +kernel)) (wl_le.2 (by decide +kernel))
  have HZ12 : Hid (((1 : Int) : Rat) / ((2 : Int) : Rat) = (1/2 : Rat)) := Lib.hid (by decide +kernel)
  have su12 : sz ((1/2 : Rat)) ≤ 4 := sz_of (wl_le.2 (by decide +kernel)) (wl_le.2 (by decide +kernel))
  have HZ13 : Hid ((1/2 : Rat) - (1/2 : Rat) = (0 : Rat)) := Lib.hid (by decide +kernel)
  have su13 : sz ((0 : Rat)) ≤ 9 := sz_of (wl_le.2 (by decide +kernel)) (wl_le.2 (by decide +kernel))
  have HZ14 : Hid (((2 : Int) : Rat) / ((3 : Int) : Rat) = (2/3 : Rat)) := Lib.hid (by decide +kernel)
  have su14 : sz ((2/3 : Rat)) ≤ 4 := sz_of (wl_le.2 (by decide +kernel)) (wl_le.2 (by decide +kernel))
  have HZ15 : Hid (((3 : Int) : Rat) / ((2 : Int) : Rat) = (3/2 : Rat)) := Lib.hid (by decide +kernel)
  have su15 : sz ((3/2 : Rat)) ≤ 4 := sz_of (wl_le.2 (by decide +kernel)) (wl_le.2 (by decide +kernel))
  have HZ16 : Hid ((2/3 : Rat) * (3/2 : Rat) = (1 : Rat)) := Lib.hid (by decide +kernel)
  have su16 : sz ((1 : Rat)) ≤ 8 := sz_of (wl_le.2 (by decide +kernel)) (wl_le.2 (by decide +kernel))
  have lx1 := HF.out.c 0 rfl
  have lx2 := HF.out.c 1 rfl
  have lx4 := HF.out.c 2 rfl
  have lx5 := HF.out.c 3 rfl
  refine kS fun K hK => ?_
  refine sq 47 [(true, 0), (true, 1), (true, 2), (true, 3), (true, 4), (true, 5), (true, 6), (true, 7), (true, 8), (true, 9), (true, 10), (true, 11), (true, 12), (true, 13), (true, 14), (true, 15), (true, 16), (true, 17), (true, 18), (true, 19), (true, 20), (true, 21), (true, 22), (true, 23), (true, 24), (true, 25), (true, 26), (true, 27), (true, 28), (true, 29), (true, 30), (true, 31), (true, 32), (true, 33), (true, 34), (true, 35), (true, 36), (true, 37), (true, 38), (true, 39), (true, 40), (true, 41), (true, 42), (true, 43), (true, 44), (true, 45), (true, 46)] fun T hT => ?_
  refine tk ?_
  refine ck Tryz.call81 (fun w' hw => ftextc_any (-3/2 : Rat) ⟨#[45, 51, 47, 50]⟩ true _ (Lib.hid (by decide +kernel)) om (Lib.hid (HT.out.gr (Gr.trans HB.out hw)))) ?_
  iterate 12 refine tk ?_
  refine ck Tryz.call81 (fun w' hw => ftextc_any (1 : Rat) ⟨#[49]⟩ true _ (Lib.hid (by decide +kernel)) om (Lib.hid (HT.out.gr (Gr.trans HB.out hw)))) ?_
  iterate 3 refine tk ?_
  refine ck Tryz.call80 (fun w' hw => ofq_any (1) (2) (1/2 : Rat) _ (Lib.hid HZ8.out) (by decide) om om om om) ?_
  refine ck Tryz.call80 (fun w' hw => ofq_any (1) (3) (1/3 : Rat) _ (Lib.hid HZ9.out) (by decide) om om om om) ?_
  refine ck Tryz.call22 (fun w' hw => fadd_any (1/2 : Rat) (1/3 : Rat) (5/6 : Rat) _ HZ10.out om om) ?_
  refine ck Tryz.call81 (fun w' hw => ftextc_any (5/6 : Rat) ⟨#[53, 47, 54]⟩ true _ (Lib.hid (by decide +kernel)) om (Lib.hid (HT.out.gr (Gr.trans HB.out hw)))) ?_
  iterate 3 refine tk ?_
  refine ck Tryz.call80 (fun w' hw => ofq_any (1) (2) (1/2 : Rat) _ (Lib.hid HZ11.out) (by decide) om om om om) ?_
  refine ck Tryz.call80 (fun w' hw => ofq_any (1) (2) (1/2 : Rat) _ (Lib.hid HZ12.out) (by decide) om om om om) ?_
  refine ck Tryz.call58 (fun w' hw => fsub_any (1/2 : Rat) (1/2 : Rat) (0 : Rat) _ HZ13.out om om) ?_
  refine ck Tryz.call81 (fun w' hw => ftextc_any (0 : Rat) ⟨#[48]⟩ true _ (Lib.hid (by decide +kernel)) om (Lib.hid (HT.out.gr (Gr.trans HB.out hw)))) ?_
  iterate 3 refine tk ?_
  refine ck Tryz.call80 (fun w' hw => ofq_any (2) (3) (2/3 : Rat) _ (Lib.hid HZ14.out) (by decide) om om om om) ?_
  refine ck Tryz.call80 (fun w' hw => ofq_any (3) (2) (3/2 : Rat) _ (Lib.hid HZ15.out) (by decide) om om om om) ?_
  refine ck Tryz.call59 (fun w' hw => fmul_any (2/3 : Rat) (3/2 : Rat) (1 : Rat) _ HZ16.out om om) ?_
  refine ck Tryz.call81 (fun w' hw => ftextc_any (1 : Rat) ⟨#[49]⟩ true _ (Lib.hid (by decide +kernel)) om (Lib.hid (HT.out.gr (Gr.trans HB.out hw)))) ?_
  iterate 4 refine tk ?_
  refine ck Tryz.call81 (fun w' hw => ftextc_any (-2 : Rat) ⟨#[45, 50]⟩ true _ (Lib.hid (by decide +kernel)) om (Lib.hid (HT.out.gr (Gr.trans HB.out hw)))) ?_
  iterate 6 refine tk ?_
  refine nlS hT HF fun vw6 HG => ?_
  clear hT T HF lx1 lx2 lx4 lx5 HB
  go_wp2
  refine hK.out _ _ ?_; clear hK K
  show Code.wp _ _ _ _ _
  refine fH (((HG.out).er 3).er 2) fun Wx6 HF => ?_
  clear HG
  refine wp_cond_false (by rfl) ?_
  refine wp_skip ?_
  show Code.wp _ _ _ _ _
  have HZ17 : Hid (((2 : Int) : Rat) / ((3 : Int) : Rat) = (2/3 : Rat)) := Lib.hid (by decide +kernel)
  have su17 : sz ((2/3 : Rat)) ≤ 4 := sz_of (wl_le.2 (by decide +kernel)) (wl_le.2 (by decide +kernel))
  have HZ18 : Hid ((1 / (2/3 : Rat)) ^ 2 = (9/4 : Rat)) := Lib.hid (by decide +kernel)
  have su18 : sz ((9/4 : Rat)) ≤ 1 := sz_of (wl_le.2 (by decide +kernel)) (wl_le.2 (by decide +kernel))
  refine kS fun K hK => ?_
  refine sq 5 [(true, 0), (true, 1), (true, 2), (true, 3), (true, 4)] fun T hT => ?_
  refine ck Tryz.call80 (fun w' hw => ofq_any (2) (3) (2/3 : Rat) _ (Lib.hid HZ17.out) (by decide) om om om om) ?_
  refine ck Tryz.call82 (fun w' hw => fpow_neg (2/3 : Rat) (9/4 : Rat) 2 _ HZ18.out (by decide) (by decide) (by decide +kernel) (by decide +kernel) (by decide +kernel) om) ?_
  iterate 3 refine tk ?_
  refine nlS hT HF fun vw7 HG => ?_
  clear hT T HF
  go_wp2
  refine hK.out _ _ ?_; clear hK K
  show Code.wp _ _ _ _ _
  refine fH ((HG.out).al (b := vw7.heap.size) (by first | rfl | simp) (by decide)) fun Wx8 HF => ?_
  clear HG
  generalize vw7.heap.size = gx7 at *
  have lx2 := HF.out.c 1 rfl
  refine kS fun K hK => ?_
  refine sq 5 [(true, 0), (true, 1), (true, 2), (true, 3), (true, 4)] fun T hT => ?_
  refine tk ?_
  refine ck Tryz.call82 (fun w' hw => fpow_zero (0 : Rat) (-1) _ (by decide) (by decide) (ok)) ?_
  iterate 3 refine tk ?_
  refine nlS hT HF fun vw8 HG => ?_
  clear hT T HF lx2
  go_wp2
  refine hK.out _ _ ?_; clear hK K
  show Code.wp _ _ _ _ _
  refine fH (((HG.out).al (b := vw8.heap.size) (by first | rfl | simp) (by decide)).er 3) fun Wx9 HF => ?_
  clear HG
  generalize vw8.heap.size = gx8 at *
  have HZ19 : Hid ((0 : Rat) ^ 0 = (1 : Rat)) := Lib.hid (by decide +kernel)
  have su19 : sz ((1 : Rat)) ≤ 1 := sz_of (wl_le.2 (by decide +kernel)) (wl_le.2 (by decide +kernel))
  have lx2 := HF.out.c 1 rfl
  refine kS fun K hK => ?_
  refine sq 5 [(true, 0), (true, 1), (true, 2), (true, 3), (true, 4)] fun T hT => ?_
  refine tk ?_
  refine ck Tryz.call82 (fun w' hw => fpow_ok (0 : Rat) (1 : Rat) 0 _ HZ19.out (by decide) (by decide +kernel) (by decide +kernel) om) ?_
  iterate 3 refine tk ?_
  refine nlS hT HF fun vw9 HG => ?_
  clear hT T HF lx2
  go_wp2
  refine hK.out _ _ ?_; clear hK K
  show Code.wp _ _ _ _ _
  refine fH ((HG.out).al (b := vw9.heap.size) (by first | rfl | simp) (by decide)) fun Wx10 HF => ?_
  clear HG
  generalize vw9.heap.size = gx9 at *
  refine wp_seq ?_
  have HB := HPb HF
  have HZ20 : Hid (((-3/2 : Rat)).floor = -2) := Lib.hid (by decide +kernel)
  have su20 : wl (Int.natAbs (-2)) ≤ 5 := wl_le.2 (by decide +kernel)
  have HZ21 : Hid (((-3/2 : Rat)).ceil = -1) := Lib.hid (by decide +kernel)
  have su21 : wl (Int.natAbs (-1)) ≤ 5 := wl_le.2 (by decide +kernel)
  have HZ22 : Hid (((-1 : Int) : Rat) = (-1 : Rat)) := Lib.hid (by decide +kernel)
  have su22 : sz ((-1 : Rat)) ≤ 2 := sz_of (wl_le.2 (by decide +kernel)) (wl_le.2 (by decide +kernel))
  have HZ23 : Hid (((-1 : Int) : Rat) / ((2 : Int) : Rat) = (-1/2 : Rat)) := Lib.hid (by decide +kernel)
  have su23 : sz ((-1/2 : Rat)) ≤ 4 := sz_of (wl_le.2 (by decide +kernel)) (wl_le.2 (by decide +kernel))
  have lx1 := HF.out.c 0 rfl
  have lx7 := HF.out.c 2 rfl
  have lx9 := HF.out.c 3 rfl
  refine kS fun K hK => ?_
  have HG0 : Hid (Gr Wx10 Wx10) := Lib.hid (Gr.refl _)
  refine sq 37 [(true, 0), (true, 1), (true, 2), (true, 3), (true, 4), (true, 5), (true, 6), (true, 7), (true, 8), (true, 9), (true, 10), (true, 11), (true, 12), (true, 13), (true, 14), (true, 15), (true, 16), (true, 17), (true, 18), (true, 19), (true, 20), (true, 21), (true, 22), (true, 23), (true, 24), (true, 25), (true, 26), (true, 27), (true, 28), (true, 29), (true, 30), (true, 31), (false, 32), (true, 33), (true, 34), (true, 35), (true, 36)] fun T hT => ?_
  refine tk ?_
  refine ck Tryz.call84 (fun w' hw => ffloor_any (-3/2 : Rat) (-2) _ (Lib.hid HZ20.out) om) ?_
  refine ck Tryz.call83 (fun w' hw => zitext (-2) ⟨#[45, 50]⟩ _ (itx_neg (-2) (n := 2) (by decide) (by decide) (dec_lit 1 (by decide +kernel) (by decide +kernel))) om (Lib.hid (HT.out.gr (Gr.trans HB.out hw)))) ?_
  iterate 3 refine tk ?_
  refine ck Tryz.call85 (fun w' hw => fceil_any (-3/2 : Rat) (-1) _ (Lib.hid HZ21.out) om) ?_
  refine ck Tryz.call83 (fun w' hw => zitext (-1) ⟨#[45, 49]⟩ _ (itx_neg (-1) (n := 1) (by decide) (by decide) (dec_lit 1 (by decide +kernel) (by decide +kernel))) om (Lib.hid (HT.out.gr (Gr.trans HB.out hw)))) ?_
  iterate 4 refine tk ?_
  refine ck Tryz.call81 (fun w' hw => ftextc_any (9/4 : Rat) ⟨#[57, 47, 52]⟩ true _ (Lib.hid (by decide +kernel)) om (Lib.hid (HT.out.gr (Gr.trans HB.out hw)))) ?_
  iterate 8 refine tk ?_
  refine ck Tryz.call81 (fun w' hw => ftextc_any (1 : Rat) ⟨#[49]⟩ true _ (Lib.hid (by decide +kernel)) om (Lib.hid (HT.out.gr (Gr.trans HB.out hw)))) ?_
  iterate 3 refine tk ?_
  refine ck Tryz.call23 (fun w' hw => fmax0_z _) ?_
  refine ck Tryz.call81 (fun w' hw => ftextc_any (0 : Rat) ⟨#[48]⟩ true _ (Lib.hid (by decide +kernel)) om (Lib.hid (HT.out.gr (Gr.trans HB.out hw)))) ?_
  iterate 3 refine tk ?_
  refine ck Tryz.call54 (fun w' hw => fint_any (-1) (-1 : Rat) _ HZ22.out om om) ?_
  refine ck Tryz.call80 (fun w' hw => ofq_any (-1) (2) (-1/2 : Rat) _ (Lib.hid HZ23.out) (by decide) om om om om) ?_
  refine wpPlan_slice (cs := #[.int .u64 ((lo (Int.natAbs (((-1 : Rat)).num)) : Nat) : Int), .string (bg (Int.natAbs (((-1 : Rat)).num))), .bool (decide ((((-1 : Rat)).num) < 0)), .int .u64 ((lo (((-1 : Rat)).den - 1) : Nat) : Int), .string (bg (((-1 : Rat)).den - 1)), .int .u64 ((lo (Int.natAbs (((-1/2 : Rat)).num)) : Nat) : Int), .string (bg (Int.natAbs (((-1/2 : Rat)).num))), .bool (decide ((((-1/2 : Rat)).num) < 0)), .int .u64 ((lo (((-1/2 : Rat)).den - 1) : Nat) : Int), .string (bg (((-1/2 : Rat)).den - 1))]) (E := 36) (n := 2) rfl (by rfl) (fun w' hw => ?_) (fun gx10 vv10 hg0 yx10 bx10 => ?_)
  · go_simp
  clear yx10
  replace HG0 := Lib.hid (HG0.out.trans hg0)
  have HGS := Lib.hid hg0; clear hg0
  replace HB := Lib.hid (HB.out.trans (HGS.out.mono HB.out.size))
  clear HGS
  have BX10 := Lib.hid bx10; clear bx10
  clear lx1; have lx1 := fun w' (h : Gr _ w') => HF.out.c 0 rfl w' (HG0.out.trans h)
  clear lx7; have lx7 := fun w' (h : Gr _ w') => HF.out.c 2 rfl w' (HG0.out.trans h)
  clear lx9; have lx9 := fun w' (h : Gr _ w') => HF.out.c 3 rfl w' (HG0.out.trans h)
  simp only [Act.put, lA, lB, lC]
  refine ck Tryz.call23 (fun w' hw => fmaxb_any (-1 : Rat) (-1/2 : Rat) (1) gx10 _ (BX10.out.gr hw) (Lib.hid (by decide +kernel)) (by decide) om om) ?_
  refine ck Tryz.call81 (fun w' hw => ftextc_any (-1/2 : Rat) ⟨#[45, 49, 47, 50]⟩ true _ (Lib.hid (by decide +kernel)) om (Lib.hid (HT.out.gr (Gr.trans HB.out hw)))) ?_
  iterate 2 refine tk ?_
  refine wpPlan_nil (hT.out _ _ ?_)
  intro vw10 hg
  simp only [puts, Act.put, lA, lB, lC, lD, lE, ↓reduceIte, Nat.reduceEqDiff]
  have HG := Lib.hid (HF.out.gr (HG0.out.trans hg))
  clear hT T HF hg HG0 BX10 lx1 lx7 lx9 HB
  go_wp2
  refine hK.out _ _ ?_; clear hK K
  show Code.wp _ _ _ _ _
  refine fH (((HG.out).er 3).er 2) fun Wx11 HF => ?_
  clear HG
  refine wp_cond_false (by rfl) ?_
  refine wp_skip ?_
  show Code.wp _ _ _ _ _
  refine kS fun K hK => ?_
  have HG0 : Hid (Gr Wx11 Wx11) := Lib.hid (Gr.refl _)
  refine sq 2 [(false, 0), (true, 1)] fun T hT => ?_
  refine wpPlan_slice (cs := #[.string ⟨#[45, 54, 47, 52]⟩, .string ⟨#[49, 47, 48]⟩, .string ⟨#[49, 47, 45, 50]⟩, .string ⟨#[49, 47, 50, 47, 51]⟩, .string ⟨#[48, 47, 55]⟩, .string ⟨#[]⟩, .string ⟨#[49, 47]⟩]) (E := 9) (n := 7) rfl (by rfl) (fun w' hw => ?_) (fun gx11 vv11 hg0 yx11 bx11 => ?_)
  · go_simp
  have YX11 := Lib.hid (Nat.le_trans HG0.out.size yx11)
  clear yx11
  replace HG0 := Lib.hid (HG0.out.trans hg0)
  have HGS := Lib.hid hg0; clear hg0
  clear HGS
  have BX11 := Lib.hid bx11; clear bx11
  simp only [Act.put, lA, lB, lC]
  refine tk ?_
  refine wpPlan_nil (hT.out _ _ ?_)
  intro vw11 hg
  simp only [puts, Act.put, lA, lB, lC, lD, lE, ↓reduceIte, Nat.reduceEqDiff]
  have HG := Lib.hid (HF.out.grS (HG0.out.trans hg) YX11.out (BX11.out.gr hg) (by decide))
  simp only [List.zip_cons_cons, List.zip_nil_right, List.map_cons, List.map_nil, lF, lG] at HG
  clear hT T HF hg HG0 BX11
  clear YX11
  go_wp2
  refine hK.out _ _ ?_; clear hK K
  show Code.wp _ _ _ _ _
  have HF := HG; clear HG
  refine kS fun K hK => ?_
  have HG0 : Hid (Gr vw11 vw11) := Lib.hid (Gr.refl _)
  refine sq 2 [(false, 0), (true, 1)] fun T hT => ?_
  refine wpPlan_slice (cs := #[.int .i64 0, .int .i64 5, .int .i64 4, .int .i64 4, .int .i64 0, .int .i64 4, .int .i64 4]) (E := 78) (n := 7) rfl (by rfl) (fun w' hw => ?_) (fun gx12 vv12 hg0 yx12 bx12 => ?_)
  · go_simp
  have YX12 := Lib.hid (Nat.le_trans HG0.out.size yx12)
  clear yx12
  replace HG0 := Lib.hid (HG0.out.trans hg0)
  have HGS := Lib.hid hg0; clear hg0
  clear HGS
  have BX12 := Lib.hid bx12; clear bx12
  simp only [Act.put, lA, lB, lC]
  refine tk ?_
  refine wpPlan_nil (hT.out _ _ ?_)
  intro vw12 hg
  simp only [puts, Act.put, lA, lB, lC, lD, lE, ↓reduceIte, Nat.reduceEqDiff]
  have HG := Lib.hid (HF.out.grS (HG0.out.trans hg) YX12.out (BX12.out.gr hg) (by decide))
  simp only [List.zip_cons_cons, List.zip_nil_right, List.map_cons, List.map_nil, lF, lG] at HG
  clear hT T HF hg HG0 BX12
  clear YX12
  go_wp2
  refine hK.out _ _ ?_; clear hK K
  show Code.wp _ _ _ _ _
  have HF := HG; clear HG
  refine wp_seq ?_
  refine kS fun K hK => ?_
  refine wp_region_lit ?_
  go_wp2
  refine hK.out _ _ ?_; clear hK K
  show Code.wp _ _ _ _ _
  refine fH (HF.out) fun Wx15 HG => ?_
  clear HF; have HF := HG; clear HG
  refine wp_block ?_
  refine wp_loop_rounds 8 ?_
  rw [rounds_succ]
  refine wp_seq ?_
  refine kS fun K hK => ?_
  refine sq 4 [(true, 0), (true, 1), (true, 2), (true, 3)] fun T hT => ?_
  iterate 4 refine tk ?_
  refine nlS hT HF fun vw13 HG => ?_
  clear hT T HF
  go_wp2
  refine hK.out _ _ ?_; clear hK K
  show Code.wp _ _ _ _ _
  have HF := HG; clear HG
  refine wp_cond_true (by rfl) ?_
  refine wp_skip ?_
  show Code.wp _ _ _ _ _
  refine wp_seq ?_
  refine wp_block ?_
  have su24 : sz (-3/2 : Rat) ≤ 1 := sz_of (wl_le.2 (by decide +kernel)) (wl_le.2 (by decide +kernel))
  have lx11 := HF.out.c 2 rfl
  refine kS fun K hK => ?_
  refine sq 8 [(true, 0), (true, 1), (true, 2), (true, 3), (true, 4), (true, 5), (true, 6), (true, 7)] fun T hT => ?_
  iterate 4 refine tk ?_
  refine ck Tryz.call86 (fun w' hw => zfparse ⟨#[45, 54, 47, 52]⟩ (-3/2 : Rat) 0 _ (by decide +kernel) (by decide +kernel) (by decide)) ?_
  iterate 3 refine tk ?_
  refine nlS hT HF fun vw14 HG => ?_
  clear hT T HF lx11
  go_wp2
  refine hK.out _ _ ?_; clear hK K
  show Code.wp _ _ _ _ _
  refine fH ((HG.out).al (b := vw14.heap.size) (by first | rfl | simp) (by decide)) fun Wx18 HF => ?_
  clear HG
  generalize vw14.heap.size = gx13 at *
  have lx1 := HF.out.c 0 rfl
  have lx2 := HF.out.c 1 rfl
  have lx12 := HF.out.c 3 rfl
  have lx13 := HF.out.c 4 rfl
  refine kS fun K hK => ?_
  refine sq 24 [(true, 0), (true, 1), (true, 2), (true, 3), (true, 4), (true, 5), (true, 6), (true, 7), (true, 8), (true, 9), (true, 10), (true, 11), (true, 12), (true, 13), (true, 14), (true, 15), (true, 16), (true, 17), (true, 18), (true, 19), (true, 20), (true, 21), (true, 22), (true, 23)] fun T hT => ?_
  iterate 19 refine tk ?_
  iterate 3 refine sk ?_
  iterate 2 refine tk ?_
  refine nlS hT HF fun vw15 HG => ?_
  clear hT T HF lx1 lx2 lx12 lx13
  go_wp2
  refine hK.out _ _ ?_; clear hK K
  show Code.wp _ _ _ _ _
  have HF := HG; clear HG
  refine wp_cond_false (by rfl) ?_
  refine wp_skip ?_
  show Code.wp _ _ _ _ _
  refine kL fun K hK => ?_
  refine sq 3 [(true, 0), (true, 1), (true, 2)] fun T hT => ?_
  iterate 3 refine tk ?_
  refine nlS hT HF fun vw16 HG => ?_
  clear hT T HF
  go_wp2
  refine hK.out _ _ ?_; clear hK K
  show Code.rounds _ _ _ _ _ _
  rw [rounds_succ]
  have HF := HG; clear HG
  refine wp_seq ?_
  refine kS fun K hK => ?_
  refine sq 4 [(true, 0), (true, 1), (true, 2), (true, 3)] fun T hT => ?_
  iterate 4 refine tk ?_
  refine nlS hT HF fun vw17 HG => ?_
  clear hT T HF
  go_wp2
  refine hK.out _ _ ?_; clear hK K
  show Code.wp _ _ _ _ _
  have HF := HG; clear HG
  refine wp_cond_true (by rfl) ?_
  refine wp_skip ?_
  show Code.wp _ _ _ _ _
  refine wp_seq ?_
  refine wp_block ?_
  have su25 : sz (0 : Rat) ≤ 1 := sz_of (wl_le.2 (by decide +kernel)) (wl_le.2 (by decide +kernel))
  have lx11 := HF.out.c 2 rfl
  refine kS fun K hK => ?_
  refine sq 8 [(true, 0), (true, 1), (true, 2), (true, 3), (true, 4), (true, 5), (true, 6), (true, 7)] fun T hT => ?_
  iterate 4 refine tk ?_
  refine ck Tryz.call86 (fun w' hw => zfparse ⟨#[49, 47, 48]⟩ (0 : Rat) 5 _ (by decide +kernel) (by decide +kernel) (by decide)) ?_
  iterate 3 refine tk ?_
  refine nlS hT HF fun vw18 HG => ?_
  clear hT T HF lx11
  go_wp2
  refine hK.out _ _ ?_; clear hK K
  show Code.wp _ _ _ _ _
  refine fH (((HG.out).al (b := vw18.heap.size) (by first | rfl | simp) (by decide)).er 4) fun Wx18 HF => ?_
  clear HG
  generalize vw18.heap.size = gx14 at *
  have lx1 := HF.out.c 0 rfl
  have lx2 := HF.out.c 1 rfl
  have lx12 := HF.out.c 3 rfl
  have lx14 := HF.out.c 4 rfl
  refine kS fun K hK => ?_
  refine sq 24 [(true, 0), (true, 1), (true, 2), (true, 3), (true, 4), (true, 5), (true, 6), (true, 7), (true, 8), (true, 9), (true, 10), (true, 11), (true, 12), (true, 13), (true, 14), (true, 15), (true, 16), (true, 17), (true, 18), (true, 19), (true, 20), (true, 21), (true, 22), (true, 23)] fun T hT => ?_
  iterate 10 refine tk ?_
  iterate 3 refine sk ?_
  iterate 11 refine tk ?_
  refine nlS hT HF fun vw19 HG => ?_
  clear hT T HF lx1 lx2 lx12 lx14
  go_wp2
  refine hK.out _ _ ?_; clear hK K
  show Code.wp _ _ _ _ _
  have HF := HG; clear HG
  refine wp_cond_false (by rfl) ?_
  refine wp_skip ?_
  show Code.wp _ _ _ _ _
  refine kL fun K hK => ?_
  refine sq 3 [(true, 0), (true, 1), (true, 2)] fun T hT => ?_
  iterate 3 refine tk ?_
  refine nlS hT HF fun vw20 HG => ?_
  clear hT T HF
  go_wp2
  refine hK.out _ _ ?_; clear hK K
  show Code.rounds _ _ _ _ _ _
  rw [rounds_succ]
  have HF := HG; clear HG
  refine wp_seq ?_
  refine kS fun K hK => ?_
  refine sq 4 [(true, 0), (true, 1), (true, 2), (true, 3)] fun T hT => ?_
  iterate 4 refine tk ?_
  refine nlS hT HF fun vw21 HG => ?_
  clear hT T HF
  go_wp2
  refine hK.out _ _ ?_; clear hK K
  show Code.wp _ _ _ _ _
  have HF := HG; clear HG
  refine wp_cond_true (by rfl) ?_
  refine wp_skip ?_
  show Code.wp _ _ _ _ _
  refine wp_seq ?_
  refine wp_block ?_
  have su26 : sz (0 : Rat) ≤ 1 := sz_of (wl_le.2 (by decide +kernel)) (wl_le.2 (by decide +kernel))
  have lx11 := HF.out.c 2 rfl
  refine kS fun K hK => ?_
  refine sq 8 [(true, 0), (true, 1), (true, 2), (true, 3), (true, 4), (true, 5), (true, 6), (true, 7)] fun T hT => ?_
  iterate 4 refine tk ?_
  refine ck Tryz.call86 (fun w' hw => zfparse ⟨#[49, 47, 45, 50]⟩ (0 : Rat) 4 _ (by decide +kernel) (by decide +kernel) (by decide)) ?_
  iterate 3 refine tk ?_
  refine nlS hT HF fun vw22 HG => ?_
  clear hT T HF lx11
  go_wp2
  refine hK.out _ _ ?_; clear hK K
  show Code.wp _ _ _ _ _
  refine fH (((HG.out).al (b := vw22.heap.size) (by first | rfl | simp) (by decide)).er 4) fun Wx18 HF => ?_
  clear HG
  generalize vw22.heap.size = gx15 at *
  have lx1 := HF.out.c 0 rfl
  have lx2 := HF.out.c 1 rfl
  have lx12 := HF.out.c 3 rfl
  have lx15 := HF.out.c 4 rfl
  refine kS fun K hK => ?_
  refine sq 24 [(true, 0), (true, 1), (true, 2), (true, 3), (true, 4), (true, 5), (true, 6), (true, 7), (true, 8), (true, 9), (true, 10), (true, 11), (true, 12), (true, 13), (true, 14), (true, 15), (true, 16), (true, 17), (true, 18), (true, 19), (true, 20), (true, 21), (true, 22), (true, 23)] fun T hT => ?_
  iterate 10 refine tk ?_
  iterate 3 refine sk ?_
  iterate 11 refine tk ?_
  refine nlS hT HF fun vw23 HG => ?_
  clear hT T HF lx1 lx2 lx12 lx15
  go_wp2
  refine hK.out _ _ ?_; clear hK K
  show Code.wp _ _ _ _ _
  have HF := HG; clear HG
  refine wp_cond_false (by rfl) ?_
  refine wp_skip ?_
  show Code.wp _ _ _ _ _
  refine kL fun K hK => ?_
  refine sq 3 [(true, 0), (true, 1), (true, 2)] fun T hT => ?_
  iterate 3 refine tk ?_
  refine nlS hT HF fun vw24 HG => ?_
  clear hT T HF
  go_wp2
  refine hK.out _ _ ?_; clear hK K
  show Code.rounds _ _ _ _ _ _
  rw [rounds_succ]
  have HF := HG; clear HG
  refine wp_seq ?_
  refine kS fun K hK => ?_
  refine sq 4 [(true, 0), (true, 1), (true, 2), (true, 3)] fun T hT => ?_
  iterate 4 refine tk ?_
  refine nlS hT HF fun vw25 HG => ?_
  clear hT T HF
  go_wp2
  refine hK.out _ _ ?_; clear hK K
  show Code.wp _ _ _ _ _
  have HF := HG; clear HG
  refine wp_cond_true (by rfl) ?_
  refine wp_skip ?_
  show Code.wp _ _ _ _ _
  refine wp_seq ?_
  refine wp_block ?_
  have su27 : sz (0 : Rat) ≤ 1 := sz_of (wl_le.2 (by decide +kernel)) (wl_le.2 (by decide +kernel))
  have lx11 := HF.out.c 2 rfl
  refine kS fun K hK => ?_
  refine sq 8 [(true, 0), (true, 1), (true, 2), (true, 3), (true, 4), (true, 5), (true, 6), (true, 7)] fun T hT => ?_
  iterate 4 refine tk ?_
  refine ck Tryz.call86 (fun w' hw => zfparse ⟨#[49, 47, 50, 47, 51]⟩ (0 : Rat) 4 _ (by decide +kernel) (by decide +kernel) (by decide)) ?_
  iterate 3 refine tk ?_
  refine nlS hT HF fun vw26 HG => ?_
  clear hT T HF lx11
  go_wp2
  refine hK.out _ _ ?_; clear hK K
  show Code.wp _ _ _ _ _
  refine fH (((HG.out).al (b := vw26.heap.size) (by first | rfl | simp) (by decide)).er 4) fun Wx18 HF => ?_
  clear HG
  generalize vw26.heap.size = gx16 at *
  have lx1 := HF.out.c 0 rfl
  have lx2 := HF.out.c 1 rfl
  have lx12 := HF.out.c 3 rfl
  have lx16 := HF.out.c 4 rfl
  refine kS fun K hK => ?_
  refine sq 24 [(true, 0), (true, 1), (true, 2), (true, 3), (true, 4), (true, 5), (true, 6), (true, 7), (true, 8), (true, 9), (true, 10), (true, 11), (true, 12), (true, 13), (true, 14), (true, 15), (true, 16), (true, 17), (true, 18), (true, 19), (true, 20), (true, 21), (true, 22), (true, 23)] fun T hT => ?_
  iterate 10 refine tk ?_
  iterate 3 refine sk ?_
  iterate 11 refine tk ?_
  refine nlS hT HF fun vw27 HG => ?_
  clear hT T HF lx1 lx2 lx12 lx16
  go_wp2
  refine hK.out _ _ ?_; clear hK K
  show Code.wp _ _ _ _ _
  have HF := HG; clear HG
  refine wp_cond_false (by rfl) ?_
  refine wp_skip ?_
  show Code.wp _ _ _ _ _
  refine kL fun K hK => ?_
  refine sq 3 [(true, 0), (true, 1), (true, 2)] fun T hT => ?_
  iterate 3 refine tk ?_
  refine nlS hT HF fun vw28 HG => ?_
  clear hT T HF
  go_wp2
  refine hK.out _ _ ?_; clear hK K
  show Code.rounds _ _ _ _ _ _
  rw [rounds_succ]
  have HF := HG; clear HG
  refine wp_seq ?_
  refine kS fun K hK => ?_
  refine sq 4 [(true, 0), (true, 1), (true, 2), (true, 3)] fun T hT => ?_
  iterate 4 refine tk ?_
  refine nlS hT HF fun vw29 HG => ?_
  clear hT T HF
  go_wp2
  refine hK.out _ _ ?_; clear hK K
  show Code.wp _ _ _ _ _
  have HF := HG; clear HG
  refine wp_cond_true (by rfl) ?_
  refine wp_skip ?_
  show Code.wp _ _ _ _ _
  refine wp_seq ?_
  refine wp_block ?_
  have su28 : sz (0 : Rat) ≤ 1 := sz_of (wl_le.2 (by decide +kernel)) (wl_le.2 (by decide +kernel))
  have lx11 := HF.out.c 2 rfl
  refine kS fun K hK => ?_
  refine sq 8 [(true, 0), (true, 1), (true, 2), (true, 3), (true, 4), (true, 5), (true, 6), (true, 7)] fun T hT => ?_
  iterate 4 refine tk ?_
  refine ck Tryz.call86 (fun w' hw => zfparse ⟨#[48, 47, 55]⟩ (0 : Rat) 0 _ (by decide +kernel) (by decide +kernel) (by decide)) ?_
  iterate 3 refine tk ?_
  refine nlS hT HF fun vw30 HG => ?_
  clear hT T HF lx11
  go_wp2
  refine hK.out _ _ ?_; clear hK K
  show Code.wp _ _ _ _ _
  refine fH (((HG.out).al (b := vw30.heap.size) (by first | rfl | simp) (by decide)).er 4) fun Wx18 HF => ?_
  clear HG
  generalize vw30.heap.size = gx17 at *
  have lx1 := HF.out.c 0 rfl
  have lx2 := HF.out.c 1 rfl
  have lx12 := HF.out.c 3 rfl
  have lx17 := HF.out.c 4 rfl
  refine kS fun K hK => ?_
  refine sq 24 [(true, 0), (true, 1), (true, 2), (true, 3), (true, 4), (true, 5), (true, 6), (true, 7), (true, 8), (true, 9), (true, 10), (true, 11), (true, 12), (true, 13), (true, 14), (true, 15), (true, 16), (true, 17), (true, 18), (true, 19), (true, 20), (true, 21), (true, 22), (true, 23)] fun T hT => ?_
  iterate 10 refine tk ?_
  iterate 3 refine sk ?_
  iterate 11 refine tk ?_
  refine nlS hT HF fun vw31 HG => ?_
  clear hT T HF lx1 lx2 lx12 lx17
  go_wp2
  refine hK.out _ _ ?_; clear hK K
  show Code.wp _ _ _ _ _
  have HF := HG; clear HG
  refine wp_cond_false (by rfl) ?_
  refine wp_skip ?_
  show Code.wp _ _ _ _ _
  refine kL fun K hK => ?_
  refine sq 3 [(true, 0), (true, 1), (true, 2)] fun T hT => ?_
  iterate 3 refine tk ?_
  refine nlS hT HF fun vw32 HG => ?_
  clear hT T HF
  go_wp2
  refine hK.out _ _ ?_; clear hK K
  show Code.rounds _ _ _ _ _ _
  rw [rounds_succ]
  have HF := HG; clear HG
  refine wp_seq ?_
  refine kS fun K hK => ?_
  refine sq 4 [(true, 0), (true, 1), (true, 2), (true, 3)] fun T hT => ?_
  iterate 4 refine tk ?_
  refine nlS hT HF fun vw33 HG => ?_
  clear hT T HF
  go_wp2
  refine hK.out _ _ ?_; clear hK K
  show Code.wp _ _ _ _ _
  have HF := HG; clear HG
  refine wp_cond_true (by rfl) ?_
  refine wp_skip ?_
  show Code.wp _ _ _ _ _
  refine wp_seq ?_
  refine wp_block ?_
  have su29 : sz (0 : Rat) ≤ 1 := sz_of (wl_le.2 (by decide +kernel)) (wl_le.2 (by decide +kernel))
  have lx11 := HF.out.c 2 rfl
  refine kS fun K hK => ?_
  refine sq 8 [(true, 0), (true, 1), (true, 2), (true, 3), (true, 4), (true, 5), (true, 6), (true, 7)] fun T hT => ?_
  iterate 4 refine tk ?_
  refine ck Tryz.call86 (fun w' hw => zfparse ⟨#[]⟩ (0 : Rat) 4 _ (by decide +kernel) (by decide +kernel) (by decide)) ?_
  iterate 3 refine tk ?_
  refine nlS hT HF fun vw34 HG => ?_
  clear hT T HF lx11
  go_wp2
  refine hK.out _ _ ?_; clear hK K
  show Code.wp _ _ _ _ _
  refine fH (((HG.out).al (b := vw34.heap.size) (by first | rfl | simp) (by decide)).er 4) fun Wx18 HF => ?_
  clear HG
  generalize vw34.heap.size = gx18 at *
  have lx1 := HF.out.c 0 rfl
  have lx2 := HF.out.c 1 rfl
  have lx12 := HF.out.c 3 rfl
  have lx18 := HF.out.c 4 rfl
  refine kS fun K hK => ?_
  refine sq 24 [(true, 0), (true, 1), (true, 2), (true, 3), (true, 4), (true, 5), (true, 6), (true, 7), (true, 8), (true, 9), (true, 10), (true, 11), (true, 12), (true, 13), (true, 14), (true, 15), (true, 16), (true, 17), (true, 18), (true, 19), (true, 20), (true, 21), (true, 22), (true, 23)] fun T hT => ?_
  iterate 10 refine tk ?_
  iterate 3 refine sk ?_
  iterate 11 refine tk ?_
  refine nlS hT HF fun vw35 HG => ?_
  clear hT T HF lx1 lx2 lx12 lx18
  go_wp2
  refine hK.out _ _ ?_; clear hK K
  show Code.wp _ _ _ _ _
  have HF := HG; clear HG
  refine wp_cond_false (by rfl) ?_
  refine wp_skip ?_
  show Code.wp _ _ _ _ _
  refine kL fun K hK => ?_
  refine sq 3 [(true, 0), (true, 1), (true, 2)] fun T hT => ?_
  iterate 3 refine tk ?_
  refine nlS hT HF fun vw36 HG => ?_
  clear hT T HF
  go_wp2
  refine hK.out _ _ ?_; clear hK K
  show Code.rounds _ _ _ _ _ _
  rw [rounds_succ]
  have HF := HG; clear HG
  refine wp_seq ?_
  refine kS fun K hK => ?_
  refine sq 4 [(true, 0), (true, 1), (true, 2), (true, 3)] fun T hT => ?_
  iterate 4 refine tk ?_
  refine nlS hT HF fun vw37 HG => ?_
  clear hT T HF
  go_wp2
  refine hK.out _ _ ?_; clear hK K
  show Code.wp _ _ _ _ _
  have HF := HG; clear HG
  refine wp_cond_true (by rfl) ?_
  refine wp_skip ?_
  show Code.wp _ _ _ _ _
  refine wp_seq ?_
  refine wp_block ?_
  have su30 : sz (0 : Rat) ≤ 1 := sz_of (wl_le.2 (by decide +kernel)) (wl_le.2 (by decide +kernel))
  have lx11 := HF.out.c 2 rfl
  refine kS fun K hK => ?_
  refine sq 8 [(true, 0), (true, 1), (true, 2), (true, 3), (true, 4), (true, 5), (true, 6), (true, 7)] fun T hT => ?_
  iterate 4 refine tk ?_
  refine ck Tryz.call86 (fun w' hw => zfparse ⟨#[49, 47]⟩ (0 : Rat) 4 _ (by decide +kernel) (by decide +kernel) (by decide)) ?_
  iterate 3 refine tk ?_
  refine nlS hT HF fun vw38 HG => ?_
  clear hT T HF lx11
  go_wp2
  refine hK.out _ _ ?_; clear hK K
  show Code.wp _ _ _ _ _
  refine fH (((HG.out).al (b := vw38.heap.size) (by first | rfl | simp) (by decide)).er 4) fun Wx18 HF => ?_
  clear HG
  generalize vw38.heap.size = gx19 at *
  have lx1 := HF.out.c 0 rfl
  have lx2 := HF.out.c 1 rfl
  have lx12 := HF.out.c 3 rfl
  have lx19 := HF.out.c 4 rfl
  refine kS fun K hK => ?_
  refine sq 24 [(true, 0), (true, 1), (true, 2), (true, 3), (true, 4), (true, 5), (true, 6), (true, 7), (true, 8), (true, 9), (true, 10), (true, 11), (true, 12), (true, 13), (true, 14), (true, 15), (true, 16), (true, 17), (true, 18), (true, 19), (true, 20), (true, 21), (true, 22), (true, 23)] fun T hT => ?_
  iterate 10 refine tk ?_
  iterate 3 refine sk ?_
  iterate 11 refine tk ?_
  refine nlS hT HF fun vw39 HG => ?_
  clear hT T HF lx1 lx2 lx12 lx19
  go_wp2
  refine hK.out _ _ ?_; clear hK K
  show Code.wp _ _ _ _ _
  have HF := HG; clear HG
  refine wp_cond_false (by rfl) ?_
  refine wp_skip ?_
  show Code.wp _ _ _ _ _
  refine kL fun K hK => ?_
  refine sq 3 [(true, 0), (true, 1), (true, 2)] fun T hT => ?_
  iterate 3 refine tk ?_
  refine nlS hT HF fun vw40 HG => ?_
  clear hT T HF
  go_wp2
  refine hK.out _ _ ?_; clear hK K
  show Code.rounds _ _ _ _ _ _
  rw [rounds_succ]
  have HF := HG; clear HG
  refine wp_seq ?_
  refine kS fun K hK => ?_
  refine sq 4 [(true, 0), (true, 1), (true, 2), (true, 3)] fun T hT => ?_
  iterate 4 refine tk ?_
  refine nlS hT HF fun vw41 HG => ?_
  clear hT T HF
  go_wp2
  refine hK.out _ _ ?_; clear hK K
  show Code.wp _ _ _ _ _
  have HF := HG; clear HG
  refine wp_cond_false (by rfl) ?_
  refine wp_exit ?_
  show Code.wp _ _ _ _ _
  refine kS fun K hK => ?_
  refine wp_region_lit ?_
  go_wp2
  refine hK.out _ _ ?_; clear hK K
  show Code.wp _ _ _ _ _
  refine fH ((((((HF.out).er 4).er 3).er 2).er 1).er 0) fun Wx21 HG => ?_
  clear HF; have HF := HG; clear HG
  refine wp_ret ?_
  try simp only [Exit.then, Exit.inBlock]
  exact bodyPost_ret (v := .bool true) (by simp [results, Tryz.results20, go_sem]) rfl ⟨rfl, HF.out.1⟩

end Go.Proofs.YtgdibedgjndcoaaGreatDoor
