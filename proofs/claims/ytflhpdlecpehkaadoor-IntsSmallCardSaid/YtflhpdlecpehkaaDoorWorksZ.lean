
/- gussetlaw02.works: the examples of the chapter. -/
import Derived.Test.YtflhpdlecpehkaaDoorSh
import Derived.Test.YtflhpdlecpehkaaDoorLawZ2
namespace Go.Proofs.YtflhpdlecpehkaaDoor
open Go.RowKit
set_option linter.unusedSimpArgs false
set_option linter.unusedVariables false
attribute [local go_sem ↓] Go.wp_at_zero Go.wp_at_succ
attribute [local go_sem ↓] eq_nat eq_nat_zero eq_int
set_option maxRecDepth 100000 in
set_option maxHeartbeats 4000000 in
theorem worksz_any   (w : World)   (HT : Hid (Tab w)) :
    Calls Tryd.prog 8 #[] w fun e w' => e = .returned (.bool true) ∧ Below w.heap.size w w' := by
  go_enter Tryd.func8, Tryd.ntmps8
  refine sK fun K hK => ?_
  refine wp_region_lit ?_
  go_wp2
  refine hK.out _ _ ?_; clear hK K
  show Code.wp _ _ _ _ _
  refine forgetW (fun w2 => Below w.heap.size w w2) (Below.refl _ _) ?_
  rintro Wx HB
  replace HB := Lib.hid HB
  have su1 : wl (Int.natAbs (-7)) ≤ 1 := wl_le.2 (by decide +kernel)
  have su2 : wl (Int.natAbs (2)) ≤ 1 := wl_le.2 (by decide +kernel)
  have HZ3 : Hid ((-7) / (2) = -4) := Lib.hid (by decide +kernel)
  have su3 : wl (Int.natAbs (-4)) ≤ 2 := wl_le.2 (by decide +kernel)
  have HZ4 : Hid ((-7) % (2) = 1) := Lib.hid (by decide +kernel)
  have su4 : wl (Int.natAbs (1)) ≤ 1 := wl_le.2 (by decide +kernel)
  refine sK fun K hK => ?_
  refine wp_region_seqplan 7 [(true, 0), (true, 1), (true, 2), (true, 3), (true, 4), (true, 5), (true, 6)] (by rfl) (by simp) (fun T hT => ?_)
  refine wpPlan_callL rfl (by rfl) Tryd.call23 (fun w' hw => iof_any (-7) _ (by decide) (by decide)) (by rfl) ?_
  simp only [Act.put, rA, rB, rC]
  refine wpPlan_callL rfl (by rfl) Tryd.call23 (fun w' hw => iof_any (2) _ (by decide) (by decide)) (by rfl) ?_
  simp only [Act.put, rA, rB, rC]
  refine wpPlan_callL rfl (by rfl) Tryd.call28 (fun w' hw => zidiv (-7) (2) (-4) (1) _ HZ3.out HZ4.out (by first | rfl | omega | (simp; done) | grind) (by first | omega | exact wlc (by decide)) (by first | omega | exact wlc (by decide))) (by rfl) ?_
  simp only [Act.put, rA, rB, rC]
  iterate 4 (refine wpPlan_takeL (v := ?_) rfl (by rfl) (fun w' hw => ?_) ?_; rotate_left; go_simp; with_reducible rfl; simp only [Act.put, rA, rB, rC])
  refine wpPlan_nil (hT.out _ _ ?_); clear hT T
  intro vw1 hg
  simp only [puts, Act.put, rA, rB, rC, rD, rE, ↓reduceIte, Nat.reduceEqDiff]
  have HG := Lib.hid (hg)
  clear hg
  have r0 := Gr.refl vw1
  go_wp2
  refine hK.out _ _ ?_; clear hK K
  show Code.wp _ _ _ _ _
  clear r0
  have hsz : w.heap.size ≤ vw1.heap.size := Nat.le_trans HB.out.size HG.out.size
  refine forgetW (fun w2 => Bx w2 (vw1.heap.size) 29 #[.int .u64 (lo (Int.natAbs (-4))), .string (bg (Int.natAbs (-4))), .bool (decide ((-4) < 0))] ∧ Bx w2 (vw1.heap.size + 1) 29 #[.int .u64 (lo (Int.natAbs (1))), .string (bg (Int.natAbs (1))), .bool (decide ((1) < 0))] ∧ Below w.heap.size w w2) ⟨((Bx.at (by simp) : Bx _ (vw1.heap.size) _ _)).alloc _, (Bx.at (by simp) : Bx _ (vw1.heap.size + 1) _ _), ((HB.out.trans (HG.out.mono HB.out.size)).alloc (by first | omega | (simp; omega)) _).alloc (by first | omega | (simp; omega)) _⟩ ?_
  clear HB HG
  rintro Wx1 ⟨bx0, bx1, HB⟩
  replace HB := Lib.hid HB
  have qx0_1 : vw1.heap.size < vw1.heap.size + 1 := by omega
  have yx1 : w.heap.size ≤ vw1.heap.size + 1 := by omega
  generalize hx1 : vw1.heap.size + 1 = gx1 at *
  clear hx1
  have yx0 : w.heap.size ≤ vw1.heap.size := by omega
  generalize hx0 : vw1.heap.size = gx0 at *
  clear hx0
  clear hsz
  have su5 : wl (Int.natAbs (7)) ≤ 1 := wl_le.2 (by decide +kernel)
  have su6 : wl (Int.natAbs (-2)) ≤ 1 := wl_le.2 (by decide +kernel)
  have HZ7 : Hid ((7) / (-2) = -3) := Lib.hid (by decide +kernel)
  have su7 : wl (Int.natAbs (-3)) ≤ 2 := wl_le.2 (by decide +kernel)
  have HZ8 : Hid ((7) % (-2) = 1) := Lib.hid (by decide +kernel)
  have su8 : wl (Int.natAbs (1)) ≤ 1 := wl_le.2 (by decide +kernel)
  have BX0 := Lib.hid bx0
  have BX1 := Lib.hid bx1
  clear bx0 bx1
  refine sK fun K hK => ?_
  refine wp_region_seqplan 7 [(true, 0), (true, 1), (true, 2), (true, 3), (true, 4), (true, 5), (true, 6)] (by rfl) (by simp) (fun T hT => ?_)
  refine wpPlan_callL rfl (by rfl) Tryd.call23 (fun w' hw => iof_any (7) _ (by decide) (by decide)) (by rfl) ?_
  simp only [Act.put, rA, rB, rC]
  refine wpPlan_callL rfl (by rfl) Tryd.call23 (fun w' hw => iof_any (-2) _ (by decide) (by decide)) (by rfl) ?_
  simp only [Act.put, rA, rB, rC]
  refine wpPlan_callL rfl (by rfl) Tryd.call28 (fun w' hw => zidiv (7) (-2) (-3) (1) _ HZ7.out HZ8.out (by first | rfl | omega | (simp; done) | grind) (by first | omega | exact wlc (by decide)) (by first | omega | exact wlc (by decide))) (by rfl) ?_
  simp only [Act.put, rA, rB, rC]
  iterate 4 (refine wpPlan_takeL (v := ?_) rfl (by rfl) (fun w' hw => ?_) ?_; rotate_left; go_simp; with_reducible rfl; simp only [Act.put, rA, rB, rC])
  refine wpPlan_nil (hT.out _ _ ?_); clear hT T
  intro vw2 hg
  simp only [puts, Act.put, rA, rB, rC, rD, rE, ↓reduceIte, Nat.reduceEqDiff]
  have HG := Lib.hid (hg)
  clear hg
  replace BX0 := bG BX0 HG
  replace BX1 := bG BX1 HG
  have r0 := Gr.refl vw2
  go_wp2
  refine hK.out _ _ ?_; clear hK K
  show Code.wp _ _ _ _ _
  clear r0
  have hsz : w.heap.size ≤ vw2.heap.size := Nat.le_trans HB.out.size HG.out.size
  have mx0 : gx0 < vw2.heap.size := BX0.out.lt
  have mx1 : gx1 < vw2.heap.size := BX1.out.lt
  refine forgetW (fun w2 => Bx w2 gx0 29 #[.int .u64 (lo (Int.natAbs (-4))), .string (bg (Int.natAbs (-4))), .bool (decide ((-4) < 0))] ∧ Bx w2 gx1 29 #[.int .u64 (lo (Int.natAbs (1))), .string (bg (Int.natAbs (1))), .bool (decide ((1) < 0))] ∧ Bx w2 (vw2.heap.size) 29 #[.int .u64 (lo (Int.natAbs (-3))), .string (bg (Int.natAbs (-3))), .bool (decide ((-3) < 0))] ∧ Bx w2 (vw2.heap.size + 1) 29 #[.int .u64 (lo (Int.natAbs (1))), .string (bg (Int.natAbs (1))), .bool (decide ((1) < 0))] ∧ Below w.heap.size w w2) ⟨((BX0.out).alloc _).alloc _, ((BX1.out).alloc _).alloc _, ((Bx.at (by simp) : Bx _ (vw2.heap.size) _ _)).alloc _, (Bx.at (by simp) : Bx _ (vw2.heap.size + 1) _ _), ((HB.out.trans (HG.out.mono HB.out.size)).alloc (by first | omega | (simp; omega)) _).alloc (by first | omega | (simp; omega)) _⟩ ?_
  clear HB HG BX0 BX1
  rintro Wx2 ⟨bx0, bx1, bx2, bx3, HB⟩
  replace HB := Lib.hid HB
  have qx2_3 : vw2.heap.size < vw2.heap.size + 1 := by omega
  have yx3 : w.heap.size ≤ vw2.heap.size + 1 := by omega
  have qx0_3 : gx0 < vw2.heap.size + 1 := by omega
  have qx1_3 : gx1 < vw2.heap.size + 1 := by omega
  generalize hx3 : vw2.heap.size + 1 = gx3 at *
  clear hx3
  have yx2 : w.heap.size ≤ vw2.heap.size := by omega
  have qx0_2 : gx0 < vw2.heap.size := by omega
  have qx1_2 : gx1 < vw2.heap.size := by omega
  generalize hx2 : vw2.heap.size = gx2 at *
  clear hx2
  clear hsz mx0 mx1
  have su9 : wl (Int.natAbs (-7)) ≤ 1 := wl_le.2 (by decide +kernel)
  have su10 : wl (Int.natAbs (-2)) ≤ 1 := wl_le.2 (by decide +kernel)
  have HZ11 : Hid ((-7) / (-2) = 4) := Lib.hid (by decide +kernel)
  have su11 : wl (Int.natAbs (4)) ≤ 2 := wl_le.2 (by decide +kernel)
  have HZ12 : Hid ((-7) % (-2) = 1) := Lib.hid (by decide +kernel)
  have su12 : wl (Int.natAbs (1)) ≤ 1 := wl_le.2 (by decide +kernel)
  have BX0 := Lib.hid bx0
  have BX1 := Lib.hid bx1
  have BX2 := Lib.hid bx2
  have BX3 := Lib.hid bx3
  clear bx0 bx1 bx2 bx3
  refine sK fun K hK => ?_
  refine wp_region_seqplan 7 [(true, 0), (true, 1), (true, 2), (true, 3), (true, 4), (true, 5), (true, 6)] (by rfl) (by simp) (fun T hT => ?_)
  refine wpPlan_callL rfl (by rfl) Tryd.call23 (fun w' hw => iof_any (-7) _ (by decide) (by decide)) (by rfl) ?_
  simp only [Act.put, rA, rB, rC]
  refine wpPlan_callL rfl (by rfl) Tryd.call23 (fun w' hw => iof_any (-2) _ (by decide) (by decide)) (by rfl) ?_
  simp only [Act.put, rA, rB, rC]
  refine wpPlan_callL rfl (by rfl) Tryd.call28 (fun w' hw => zidiv (-7) (-2) (4) (1) _ HZ11.out HZ12.out (by first | rfl | omega | (simp; done) | grind) (by first | omega | exact wlc (by decide)) (by first | omega | exact wlc (by decide))) (by rfl) ?_
  simp only [Act.put, rA, rB, rC]
  iterate 4 (refine wpPlan_takeL (v := ?_) rfl (by rfl) (fun w' hw => ?_) ?_; rotate_left; go_simp; with_reducible rfl; simp only [Act.put, rA, rB, rC])
  refine wpPlan_nil (hT.out _ _ ?_); clear hT T
  intro vw3 hg
  simp only [puts, Act.put, rA, rB, rC, rD, rE, ↓reduceIte, Nat.reduceEqDiff]
  have HG := Lib.hid (hg)
  clear hg
  replace BX0 := bG BX0 HG
  replace BX1 := bG BX1 HG
  replace BX2 := bG BX2 HG
  replace BX3 := bG BX3 HG
  have r0 := Gr.refl vw3
  go_wp2
  refine hK.out _ _ ?_; clear hK K
  show Code.wp _ _ _ _ _
  clear r0
  have hsz : w.heap.size ≤ vw3.heap.size := Nat.le_trans HB.out.size HG.out.size
  have mx0 : gx0 < vw3.heap.size := BX0.out.lt
  have mx1 : gx1 < vw3.heap.size := BX1.out.lt
  have mx2 : gx2 < vw3.heap.size := BX2.out.lt
  have mx3 : gx3 < vw3.heap.size := BX3.out.lt
  refine forgetW (fun w2 => Bx w2 gx0 29 #[.int .u64 (lo (Int.natAbs (-4))), .string (bg (Int.natAbs (-4))), .bool (decide ((-4) < 0))] ∧ Bx w2 gx1 29 #[.int .u64 (lo (Int.natAbs (1))), .string (bg (Int.natAbs (1))), .bool (decide ((1) < 0))] ∧ Bx w2 gx2 29 #[.int .u64 (lo (Int.natAbs (-3))), .string (bg (Int.natAbs (-3))), .bool (decide ((-3) < 0))] ∧ Bx w2 gx3 29 #[.int .u64 (lo (Int.natAbs (1))), .string (bg (Int.natAbs (1))), .bool (decide ((1) < 0))] ∧ Bx w2 (vw3.heap.size) 29 #[.int .u64 (lo (Int.natAbs (4))), .string (bg (Int.natAbs (4))), .bool (decide ((4) < 0))] ∧ Bx w2 (vw3.heap.size + 1) 29 #[.int .u64 (lo (Int.natAbs (1))), .string (bg (Int.natAbs (1))), .bool (decide ((1) < 0))] ∧ Below w.heap.size w w2) ⟨((BX0.out).alloc _).alloc _, ((BX1.out).alloc _).alloc _, ((BX2.out).alloc _).alloc _, ((BX3.out).alloc _).alloc _, ((Bx.at (by simp) : Bx _ (vw3.heap.size) _ _)).alloc _, (Bx.at (by simp) : Bx _ (vw3.heap.size + 1) _ _), ((HB.out.trans (HG.out.mono HB.out.size)).alloc (by first | omega | (simp; omega)) _).alloc (by first | omega | (simp; omega)) _⟩ ?_
  clear HB HG BX0 BX1 BX2 BX3
  rintro Wx3 ⟨bx0, bx1, bx2, bx3, bx4, bx5, HB⟩
  replace HB := Lib.hid HB
  have qx4_5 : vw3.heap.size < vw3.heap.size + 1 := by omega
  have yx5 : w.heap.size ≤ vw3.heap.size + 1 := by omega
  have qx0_5 : gx0 < vw3.heap.size + 1 := by omega
  have qx1_5 : gx1 < vw3.heap.size + 1 := by omega
  have qx2_5 : gx2 < vw3.heap.size + 1 := by omega
  have qx3_5 : gx3 < vw3.heap.size + 1 := by omega
  generalize hx5 : vw3.heap.size + 1 = gx5 at *
  clear hx5
  have yx4 : w.heap.size ≤ vw3.heap.size := by omega
  have qx0_4 : gx0 < vw3.heap.size := by omega
  have qx1_4 : gx1 < vw3.heap.size := by omega
  have qx2_4 : gx2 < vw3.heap.size := by omega
  have qx3_4 : gx3 < vw3.heap.size := by omega
  generalize hx4 : vw3.heap.size = gx4 at *
  clear hx4
  clear hsz mx0 mx1 mx2 mx3
  have su13 : wl (Int.natAbs (7)) ≤ 1 := wl_le.2 (by decide +kernel)
  have su14 : wl (Int.natAbs (0)) ≤ 1 := wl_le.2 (by decide +kernel)
  have BX0 := Lib.hid bx0
  have BX1 := Lib.hid bx1
  have BX2 := Lib.hid bx2
  have BX3 := Lib.hid bx3
  have BX4 := Lib.hid bx4
  have BX5 := Lib.hid bx5
  clear bx0 bx1 bx2 bx3 bx4 bx5
  refine sK fun K hK => ?_
  refine wp_region_seqplan 7 [(true, 0), (true, 1), (true, 2), (true, 3), (true, 4), (true, 5), (true, 6)] (by rfl) (by simp) (fun T hT => ?_)
  refine wpPlan_callL rfl (by rfl) Tryd.call23 (fun w' hw => iof_any (7) _ (by decide) (by decide)) (by rfl) ?_
  simp only [Act.put, rA, rB, rC]
  refine wpPlan_callL rfl (by rfl) Tryd.call23 (fun w' hw => iof_any (0) _ (by decide) (by decide)) (by rfl) ?_
  simp only [Act.put, rA, rB, rC]
  refine wpPlan_callL rfl (by rfl) Tryd.call28 (fun w' hw => zidivno (7) (0) _ (by first | rfl | omega | (simp; done) | grind) (by first | omega | exact wlc (by decide)) (by first | omega | exact wlc (by decide))) (by rfl) ?_
  simp only [Act.put, rA, rB, rC]
  iterate 4 (refine wpPlan_takeL (v := ?_) rfl (by rfl) (fun w' hw => ?_) ?_; rotate_left; go_simp; with_reducible rfl; simp only [Act.put, rA, rB, rC])
  refine wpPlan_nil (hT.out _ _ ?_); clear hT T
  intro vw4 hg
  simp only [puts, Act.put, rA, rB, rC, rD, rE, ↓reduceIte, Nat.reduceEqDiff]
  have HG := Lib.hid (hg)
  clear hg
  replace BX0 := bG BX0 HG
  replace BX1 := bG BX1 HG
  replace BX2 := bG BX2 HG
  replace BX3 := bG BX3 HG
  replace BX4 := bG BX4 HG
  replace BX5 := bG BX5 HG
  have r0 := Gr.refl vw4
  go_wp2
  refine hK.out _ _ ?_; clear hK K
  show Code.wp _ _ _ _ _
  clear r0
  have hsz : w.heap.size ≤ vw4.heap.size := Nat.le_trans HB.out.size HG.out.size
  have mx0 : gx0 < vw4.heap.size := BX0.out.lt
  have mx1 : gx1 < vw4.heap.size := BX1.out.lt
  have mx2 : gx2 < vw4.heap.size := BX2.out.lt
  have mx3 : gx3 < vw4.heap.size := BX3.out.lt
  have mx4 : gx4 < vw4.heap.size := BX4.out.lt
  have mx5 : gx5 < vw4.heap.size := BX5.out.lt
  refine forgetW (fun w2 => Bx w2 gx0 29 #[.int .u64 (lo (Int.natAbs (-4))), .string (bg (Int.natAbs (-4))), .bool (decide ((-4) < 0))] ∧ Bx w2 gx1 29 #[.int .u64 (lo (Int.natAbs (1))), .string (bg (Int.natAbs (1))), .bool (decide ((1) < 0))] ∧ Bx w2 gx2 29 #[.int .u64 (lo (Int.natAbs (-3))), .string (bg (Int.natAbs (-3))), .bool (decide ((-3) < 0))] ∧ Bx w2 gx3 29 #[.int .u64 (lo (Int.natAbs (1))), .string (bg (Int.natAbs (1))), .bool (decide ((1) < 0))] ∧ Bx w2 gx4 29 #[.int .u64 (lo (Int.natAbs (4))), .string (bg (Int.natAbs (4))), .bool (decide ((4) < 0))] ∧ Bx w2 gx5 29 #[.int .u64 (lo (Int.natAbs (1))), .string (bg (Int.natAbs (1))), .bool (decide ((1) < 0))] ∧ Below w.heap.size w w2) ⟨((BX0.out).alloc _).alloc _, ((BX1.out).alloc _).alloc _, ((BX2.out).alloc _).alloc _, ((BX3.out).alloc _).alloc _, ((BX4.out).alloc _).alloc _, ((BX5.out).alloc _).alloc _, ((HB.out.trans (HG.out.mono HB.out.size)).alloc (by first | omega | (simp; omega)) _).alloc (by first | omega | (simp; omega)) _⟩ ?_
  clear HB HG BX0 BX1 BX2 BX3 BX4 BX5
  rintro Wx4 ⟨bx0, bx1, bx2, bx3, bx4, bx5, HB⟩
  replace HB := Lib.hid HB
  clear hsz mx0 mx1 mx2 mx3 mx4 mx5
  refine wp_seq ?_
  have lx0 := bx0.cells
  have lx1 := bx1.cells
  have lx2 := bx2.cells
  have lx3 := bx3.cells
  have lx4 := bx4.cells
  have lx5 := bx5.cells
  have BX0 := Lib.hid bx0
  have BX1 := Lib.hid bx1
  have BX2 := Lib.hid bx2
  have BX3 := Lib.hid bx3
  have BX4 := Lib.hid bx4
  have BX5 := Lib.hid bx5
  clear bx0 bx1 bx2 bx3 bx4 bx5
  refine sK fun K hK => ?_
  refine wp_region_seqplan 35 [(true, 0), (true, 1), (true, 2), (true, 3), (true, 4), (true, 5), (true, 6), (true, 7), (true, 8), (true, 9), (true, 10), (true, 11), (true, 12), (true, 13), (true, 14), (true, 15), (true, 16), (true, 17), (true, 18), (true, 19), (true, 20), (true, 21), (true, 22), (true, 23), (true, 24), (true, 25), (true, 26), (true, 27), (true, 28), (true, 29), (true, 30), (true, 31), (true, 32), (true, 33), (true, 34)] (by rfl) (by simp) (fun T hT => ?_)
  refine wpPlan_takeL (v := ?_) rfl (by rfl) (fun w' hw => ?_) ?_; rotate_left; go_simp; with_reducible rfl; simp only [Act.put, rA, rB, rC]
  refine wpPlan_callL rfl (by rfl) Tryd.call13 (fun w' hw => is_any (-4) (-4) true _ (Lib.hid (decide_eq_true (by decide))) (by decide) (by decide)) (by rfl) ?_
  simp only [Act.put, rA, rB, rC]
  iterate 3 (refine wpPlan_takeL (v := ?_) rfl (by rfl) (fun w' hw => ?_) ?_; rotate_left; go_simp; with_reducible rfl; simp only [Act.put, rA, rB, rC])
  refine wpPlan_callL rfl (by rfl) Tryd.call13 (fun w' hw => is_any (1) (1) true _ (Lib.hid (decide_eq_true (by decide))) (by decide) (by decide)) (by rfl) ?_
  simp only [Act.put, rA, rB, rC]
  iterate 8 (refine wpPlan_takeL (v := ?_) rfl (by rfl) (fun w' hw => ?_) ?_; rotate_left; go_simp; with_reducible rfl; simp only [Act.put, rA, rB, rC])
  refine wpPlan_callL rfl (by rfl) Tryd.call13 (fun w' hw => is_any (-3) (-3) true _ (Lib.hid (decide_eq_true (by decide))) (by decide) (by decide)) (by rfl) ?_
  simp only [Act.put, rA, rB, rC]
  iterate 4 (refine wpPlan_takeL (v := ?_) rfl (by rfl) (fun w' hw => ?_) ?_; rotate_left; go_simp; with_reducible rfl; simp only [Act.put, rA, rB, rC])
  refine wpPlan_callL rfl (by rfl) Tryd.call13 (fun w' hw => is_any (1) (1) true _ (Lib.hid (decide_eq_true (by decide))) (by decide) (by decide)) (by rfl) ?_
  simp only [Act.put, rA, rB, rC]
  iterate 4 (refine wpPlan_takeL (v := ?_) rfl (by rfl) (fun w' hw => ?_) ?_; rotate_left; go_simp; with_reducible rfl; simp only [Act.put, rA, rB, rC])
  refine wpPlan_callL rfl (by rfl) Tryd.call13 (fun w' hw => is_any (4) (4) true _ (Lib.hid (decide_eq_true (by decide))) (by decide) (by decide)) (by rfl) ?_
  simp only [Act.put, rA, rB, rC]
  iterate 4 (refine wpPlan_takeL (v := ?_) rfl (by rfl) (fun w' hw => ?_) ?_; rotate_left; go_simp; with_reducible rfl; simp only [Act.put, rA, rB, rC])
  refine wpPlan_callL rfl (by rfl) Tryd.call13 (fun w' hw => is_any (1) (1) true _ (Lib.hid (decide_eq_true (by decide))) (by decide) (by decide)) (by rfl) ?_
  simp only [Act.put, rA, rB, rC]
  iterate 5 (refine wpPlan_takeL (v := ?_) rfl (by rfl) (fun w' hw => ?_) ?_; rotate_left; go_simp; with_reducible rfl; simp only [Act.put, rA, rB, rC])
  refine wpPlan_nil (hT.out _ _ ?_); clear hT T
  intro vw5 hg
  simp only [puts, Act.put, rA, rB, rC, rD, rE, ↓reduceIte, Nat.reduceEqDiff]
  clear lx0 lx1 lx2 lx3 lx4 lx5
  have HG := Lib.hid (hg)
  clear hg
  replace BX0 := bG BX0 HG
  replace BX1 := bG BX1 HG
  replace BX2 := bG BX2 HG
  replace BX3 := bG BX3 HG
  replace BX4 := bG BX4 HG
  replace BX5 := bG BX5 HG
  have r0 := Gr.refl vw5
  go_wp2
  refine hK.out _ _ ?_; clear hK K
  show Code.wp _ _ _ _ _
  clear r0
  refine forgetW (fun w2 => Below w.heap.size w w2) (HB.out.trans (HG.out.mono HB.out.size)) ?_
  clear HB HG BX0 BX1 BX2 BX3 BX4 BX5
  rintro Wx5 HB
  replace HB := Lib.hid HB
  refine wp_cond_false (by rfl) ?_
  refine wp_skip ?_
  show Code.wp _ _ _ _ _
  have su15 : wl (Int.natAbs (12)) ≤ 1 := wl_le.2 (by decide +kernel)
  have su16 : wl (Int.natAbs (18)) ≤ 1 := wl_le.2 (by decide +kernel)
  have HZ17 : Hid ((egcd (12) (18)).1 = 6) := Lib.hid (by rw [show egcd (12) (18) = (6, -1, 1) from by first | (simp [egcd_zero, sgI]; done) | (simp [egcd_step, egcd_zero, sgI]; done)])
  have su17 : wl (Int.natAbs (6)) ≤ 5 := by have e := HZ17.out; first | omega | (rw [← e]; have := wl_egcd (a := 12) (b := 18) (M := 1) (by first | omega | exact wlc (by decide)) (by first | omega | exact wlc (by decide)) (by decide); omega)
  have HZ18 : Hid ((egcd (12) (18)).2.1 = (-1)) := Lib.hid (by rw [show egcd (12) (18) = (6, -1, 1) from by first | (simp [egcd_zero, sgI]; done) | (simp [egcd_step, egcd_zero, sgI]; done)])
  have su18 : wl (Int.natAbs ((-1))) ≤ 5 := by have e := HZ18.out; first | omega | (rw [← e]; have := wl_egcd (a := 12) (b := 18) (M := 1) (by first | omega | exact wlc (by decide)) (by first | omega | exact wlc (by decide)) (by decide); omega)
  have HZ19 : Hid ((egcd (12) (18)).2.2 = 1) := Lib.hid (by rw [show egcd (12) (18) = (6, -1, 1) from by first | (simp [egcd_zero, sgI]; done) | (simp [egcd_step, egcd_zero, sgI]; done)])
  have su19 : wl (Int.natAbs (1)) ≤ 5 := by have e := HZ19.out; first | omega | (rw [← e]; have := wl_egcd (a := 12) (b := 18) (M := 1) (by first | omega | exact wlc (by decide)) (by first | omega | exact wlc (by decide)) (by decide); omega)
  refine sK fun K hK => ?_
  refine wp_region_seqplan 7 [(true, 0), (true, 1), (true, 2), (true, 3), (true, 4), (true, 5), (true, 6)] (by rfl) (by simp) (fun T hT => ?_)
  refine wpPlan_callL rfl (by rfl) Tryd.call23 (fun w' hw => iof_any (12) _ (by decide) (by decide)) (by rfl) ?_
  simp only [Act.put, rA, rB, rC]
  refine wpPlan_callL rfl (by rfl) Tryd.call23 (fun w' hw => iof_any (18) _ (by decide) (by decide)) (by rfl) ?_
  simp only [Act.put, rA, rB, rC]
  refine wpPlan_callL rfl (by rfl) Tryd.call26 (fun w' hw => zigcd (12) (18) (6) (-1) (1) _ HZ17.out HZ18.out HZ19.out (by first | omega | exact wlc (by decide)) (by first | omega | exact wlc (by decide))) (by rfl) ?_
  simp only [Act.put, rA, rB, rC]
  iterate 4 (refine wpPlan_takeL (v := ?_) rfl (by rfl) (fun w' hw => ?_) ?_; rotate_left; go_simp; with_reducible rfl; simp only [Act.put, rA, rB, rC])
  refine wpPlan_nil (hT.out _ _ ?_); clear hT T
  intro vw6 hg
  simp only [puts, Act.put, rA, rB, rC, rD, rE, ↓reduceIte, Nat.reduceEqDiff]
  have HG := Lib.hid (hg)
  clear hg
  have r0 := Gr.refl vw6
  go_wp2
  refine hK.out _ _ ?_; clear hK K
  show Code.wp _ _ _ _ _
  clear r0
  have hsz : w.heap.size ≤ vw6.heap.size := Nat.le_trans HB.out.size HG.out.size
  refine forgetW (fun w2 => Bx w2 (vw6.heap.size) 29 #[.int .u64 (lo (Int.natAbs (6))), .string (bg (Int.natAbs (6))), .bool (decide ((6) < 0))] ∧ Bx w2 (vw6.heap.size + 1) 29 #[.int .u64 (lo (Int.natAbs (-1))), .string (bg (Int.natAbs (-1))), .bool (decide ((-1) < 0))] ∧ Bx w2 (vw6.heap.size + 1 + 1) 29 #[.int .u64 (lo (Int.natAbs (1))), .string (bg (Int.natAbs (1))), .bool (decide ((1) < 0))] ∧ Below w.heap.size w w2) ⟨(((Bx.at (by simp) : Bx _ (vw6.heap.size) _ _)).alloc _).alloc _, ((Bx.at (by simp) : Bx _ (vw6.heap.size + 1) _ _)).alloc _, (Bx.at (by simp) : Bx _ (vw6.heap.size + 1 + 1) _ _), (((HB.out.trans (HG.out.mono HB.out.size)).alloc (by first | omega | (simp; omega)) _).alloc (by first | omega | (simp; omega)) _).alloc (by first | omega | (simp; omega)) _⟩ ?_
  clear HB HG
  rintro Wx7 ⟨bx8, bx9, bx10, HB⟩
  replace HB := Lib.hid HB
  have qx8_9 : vw6.heap.size < vw6.heap.size + 1 := by omega
  have qx8_10 : vw6.heap.size < vw6.heap.size + 1 + 1 := by omega
  have qx9_10 : vw6.heap.size + 1 < vw6.heap.size + 1 + 1 := by omega
  have yx10 : w.heap.size ≤ vw6.heap.size + 1 + 1 := by omega
  generalize hx10 : vw6.heap.size + 1 + 1 = gx10 at *
  clear hx10
  have yx9 : w.heap.size ≤ vw6.heap.size + 1 := by omega
  generalize hx9 : vw6.heap.size + 1 = gx9 at *
  clear hx9
  have yx8 : w.heap.size ≤ vw6.heap.size := by omega
  generalize hx8 : vw6.heap.size = gx8 at *
  clear hx8
  clear hsz
  have su20 : wl (Int.natAbs (-5)) ≤ 1 := wl_le.2 (by decide +kernel)
  have su21 : wl (Int.natAbs (0)) ≤ 1 := wl_le.2 (by decide +kernel)
  have HZ22 : Hid ((egcd (-5) (0)).1 = 5) := Lib.hid (by rw [show egcd (-5) (0) = (5, -1, 0) from by first | (simp [egcd_zero, sgI]; done) | (simp [egcd_step, egcd_zero, sgI]; done)])
  have su22 : wl (Int.natAbs (5)) ≤ 5 := by have e := HZ22.out; first | omega | (rw [← e]; have := wl_egcd (a := -5) (b := 0) (M := 1) (by first | omega | exact wlc (by decide)) (by first | omega | exact wlc (by decide)) (by decide); omega)
  have HZ23 : Hid ((egcd (-5) (0)).2.1 = (-1)) := Lib.hid (by rw [show egcd (-5) (0) = (5, -1, 0) from by first | (simp [egcd_zero, sgI]; done) | (simp [egcd_step, egcd_zero, sgI]; done)])
  have su23 : wl (Int.natAbs ((-1))) ≤ 5 := by have e := HZ23.out; first | omega | (rw [← e]; have := wl_egcd (a := -5) (b := 0) (M := 1) (by first | omega | exact wlc (by decide)) (by first | omega | exact wlc (by decide)) (by decide); omega)
  have HZ24 : Hid ((egcd (-5) (0)).2.2 = 0) := Lib.hid (by rw [show egcd (-5) (0) = (5, -1, 0) from by first | (simp [egcd_zero, sgI]; done) | (simp [egcd_step, egcd_zero, sgI]; done)])
  have su24 : wl (Int.natAbs (0)) ≤ 5 := by have e := HZ24.out; first | omega | (rw [← e]; have := wl_egcd (a := -5) (b := 0) (M := 1) (by first | omega | exact wlc (by decide)) (by first | omega | exact wlc (by decide)) (by decide); omega)
  have BX8 := Lib.hid bx8
  have BX9 := Lib.hid bx9
  have BX10 := Lib.hid bx10
  clear bx8 bx9 bx10
  refine sK fun K hK => ?_
  refine wp_region_seqplan 7 [(true, 0), (true, 1), (true, 2), (true, 3), (true, 4), (true, 5), (true, 6)] (by rfl) (by simp) (fun T hT => ?_)
  refine wpPlan_callL rfl (by rfl) Tryd.call23 (fun w' hw => iof_any (-5) _ (by decide) (by decide)) (by rfl) ?_
  simp only [Act.put, rA, rB, rC]
  refine wpPlan_callL rfl (by rfl) Tryd.call23 (fun w' hw => iof_any (0) _ (by decide) (by decide)) (by rfl) ?_
  simp only [Act.put, rA, rB, rC]
  refine wpPlan_callL rfl (by rfl) Tryd.call26 (fun w' hw => zigcd (-5) (0) (5) (-1) (0) _ HZ22.out HZ23.out HZ24.out (by first | omega | exact wlc (by decide)) (by first | omega | exact wlc (by decide))) (by rfl) ?_
  simp only [Act.put, rA, rB, rC]
  iterate 4 (refine wpPlan_takeL (v := ?_) rfl (by rfl) (fun w' hw => ?_) ?_; rotate_left; go_simp; with_reducible rfl; simp only [Act.put, rA, rB, rC])
  refine wpPlan_nil (hT.out _ _ ?_); clear hT T
  intro vw7 hg
  simp only [puts, Act.put, rA, rB, rC, rD, rE, ↓reduceIte, Nat.reduceEqDiff]
  have HG := Lib.hid (hg)
  clear hg
  replace BX8 := bG BX8 HG
  replace BX9 := bG BX9 HG
  replace BX10 := bG BX10 HG
  have r0 := Gr.refl vw7
  go_wp2
  refine hK.out _ _ ?_; clear hK K
  show Code.wp _ _ _ _ _
  clear r0
  have hsz : w.heap.size ≤ vw7.heap.size := Nat.le_trans HB.out.size HG.out.size
  have mx8 : gx8 < vw7.heap.size := BX8.out.lt
  have mx9 : gx9 < vw7.heap.size := BX9.out.lt
  have mx10 : gx10 < vw7.heap.size := BX10.out.lt
  refine forgetW (fun w2 => Bx w2 gx8 29 #[.int .u64 (lo (Int.natAbs (6))), .string (bg (Int.natAbs (6))), .bool (decide ((6) < 0))] ∧ Bx w2 gx9 29 #[.int .u64 (lo (Int.natAbs (-1))), .string (bg (Int.natAbs (-1))), .bool (decide ((-1) < 0))] ∧ Bx w2 gx10 29 #[.int .u64 (lo (Int.natAbs (1))), .string (bg (Int.natAbs (1))), .bool (decide ((1) < 0))] ∧ Bx w2 (vw7.heap.size) 29 #[.int .u64 (lo (Int.natAbs (5))), .string (bg (Int.natAbs (5))), .bool (decide ((5) < 0))] ∧ Bx w2 (vw7.heap.size + 1) 29 #[.int .u64 (lo (Int.natAbs (-1))), .string (bg (Int.natAbs (-1))), .bool (decide ((-1) < 0))] ∧ Bx w2 (vw7.heap.size + 1 + 1) 29 #[.int .u64 (lo (Int.natAbs (0))), .string (bg (Int.natAbs (0))), .bool (decide ((0) < 0))] ∧ Below w.heap.size w w2) ⟨(((BX8.out).alloc _).alloc _).alloc _, (((BX9.out).alloc _).alloc _).alloc _, (((BX10.out).alloc _).alloc _).alloc _, (((Bx.at (by simp) : Bx _ (vw7.heap.size) _ _)).alloc _).alloc _, ((Bx.at (by simp) : Bx _ (vw7.heap.size + 1) _ _)).alloc _, (Bx.at (by simp) : Bx _ (vw7.heap.size + 1 + 1) _ _), (((HB.out.trans (HG.out.mono HB.out.size)).alloc (by first | omega | (simp; omega)) _).alloc (by first | omega | (simp; omega)) _).alloc (by first | omega | (simp; omega)) _⟩ ?_
  clear HB HG BX8 BX9 BX10
  rintro Wx8 ⟨bx8, bx9, bx10, bx11, bx12, bx13, HB⟩
  replace HB := Lib.hid HB
  have qx11_12 : vw7.heap.size < vw7.heap.size + 1 := by omega
  have qx11_13 : vw7.heap.size < vw7.heap.size + 1 + 1 := by omega
  have qx12_13 : vw7.heap.size + 1 < vw7.heap.size + 1 + 1 := by omega
  have yx13 : w.heap.size ≤ vw7.heap.size + 1 + 1 := by omega
  have qx8_13 : gx8 < vw7.heap.size + 1 + 1 := by omega
  have qx9_13 : gx9 < vw7.heap.size + 1 + 1 := by omega
  have qx10_13 : gx10 < vw7.heap.size + 1 + 1 := by omega
  generalize hx13 : vw7.heap.size + 1 + 1 = gx13 at *
  clear hx13
  have yx12 : w.heap.size ≤ vw7.heap.size + 1 := by omega
  have qx8_12 : gx8 < vw7.heap.size + 1 := by omega
  have qx9_12 : gx9 < vw7.heap.size + 1 := by omega
  have qx10_12 : gx10 < vw7.heap.size + 1 := by omega
  generalize hx12 : vw7.heap.size + 1 = gx12 at *
  clear hx12
  have yx11 : w.heap.size ≤ vw7.heap.size := by omega
  have qx8_11 : gx8 < vw7.heap.size := by omega
  have qx9_11 : gx9 < vw7.heap.size := by omega
  have qx10_11 : gx10 < vw7.heap.size := by omega
  generalize hx11 : vw7.heap.size = gx11 at *
  clear hx11
  clear hsz mx8 mx9 mx10
  have su25 : wl (Int.natAbs (0)) ≤ 1 := wl_le.2 (by decide +kernel)
  have su26 : wl (Int.natAbs (0)) ≤ 1 := wl_le.2 (by decide +kernel)
  have HZ27 : Hid ((egcd (0) (0)).1 = 0) := Lib.hid (by rw [show egcd (0) (0) = (0, 0, 0) from by first | (simp [egcd_zero, sgI]; done) | (simp [egcd_step, egcd_zero, sgI]; done)])
  have su27 : wl (Int.natAbs (0)) ≤ 5 := by have e := HZ27.out; first | omega | (rw [← e]; have := wl_egcd (a := 0) (b := 0) (M := 1) (by first | omega | exact wlc (by decide)) (by first | omega | exact wlc (by decide)) (by decide); omega)
  have HZ28 : Hid ((egcd (0) (0)).2.1 = 0) := Lib.hid (by rw [show egcd (0) (0) = (0, 0, 0) from by first | (simp [egcd_zero, sgI]; done) | (simp [egcd_step, egcd_zero, sgI]; done)])
  have su28 : wl (Int.natAbs (0)) ≤ 5 := by have e := HZ28.out; first | omega | (rw [← e]; have := wl_egcd (a := 0) (b := 0) (M := 1) (by first | omega | exact wlc (by decide)) (by first | omega | exact wlc (by decide)) (by decide); omega)
  have HZ29 : Hid ((egcd (0) (0)).2.2 = 0) := Lib.hid (by rw [show egcd (0) (0) = (0, 0, 0) from by first | (simp [egcd_zero, sgI]; done) | (simp [egcd_step, egcd_zero, sgI]; done)])
  have su29 : wl (Int.natAbs (0)) ≤ 5 := by have e := HZ29.out; first | omega | (rw [← e]; have := wl_egcd (a := 0) (b := 0) (M := 1) (by first | omega | exact wlc (by decide)) (by first | omega | exact wlc (by decide)) (by decide); omega)
  have BX8 := Lib.hid bx8
  have BX9 := Lib.hid bx9
  have BX10 := Lib.hid bx10
  have BX11 := Lib.hid bx11
  have BX12 := Lib.hid bx12
  have BX13 := Lib.hid bx13
  clear bx8 bx9 bx10 bx11 bx12 bx13
  refine sK fun K hK => ?_
  refine wp_region_seqplan 7 [(true, 0), (true, 1), (true, 2), (true, 3), (true, 4), (true, 5), (true, 6)] (by rfl) (by simp) (fun T hT => ?_)
  refine wpPlan_callL rfl (by rfl) Tryd.call23 (fun w' hw => iof_any (0) _ (by decide) (by decide)) (by rfl) ?_
  simp only [Act.put, rA, rB, rC]
  refine wpPlan_callL rfl (by rfl) Tryd.call23 (fun w' hw => iof_any (0) _ (by decide) (by decide)) (by rfl) ?_
  simp only [Act.put, rA, rB, rC]
  refine wpPlan_callL rfl (by rfl) Tryd.call26 (fun w' hw => zigcd (0) (0) (0) (0) (0) _ HZ27.out HZ28.out HZ29.out (by first | omega | exact wlc (by decide)) (by first | omega | exact wlc (by decide))) (by rfl) ?_
  simp only [Act.put, rA, rB, rC]
  iterate 4 (refine wpPlan_takeL (v := ?_) rfl (by rfl) (fun w' hw => ?_) ?_; rotate_left; go_simp; with_reducible rfl; simp only [Act.put, rA, rB, rC])
  refine wpPlan_nil (hT.out _ _ ?_); clear hT T
  intro vw8 hg
  simp only [puts, Act.put, rA, rB, rC, rD, rE, ↓reduceIte, Nat.reduceEqDiff]
  have HG := Lib.hid (hg)
  clear hg
  replace BX8 := bG BX8 HG
  replace BX9 := bG BX9 HG
  replace BX10 := bG BX10 HG
  replace BX11 := bG BX11 HG
  replace BX12 := bG BX12 HG
  replace BX13 := bG BX13 HG
  have r0 := Gr.refl vw8
  go_wp2
  refine hK.out _ _ ?_; clear hK K
  show Code.wp _ _ _ _ _
  clear r0
  have hsz : w.heap.size ≤ vw8.heap.size := Nat.le_trans HB.out.size HG.out.size
  have mx8 : gx8 < vw8.heap.size := BX8.out.lt
  have mx9 : gx9 < vw8.heap.size := BX9.out.lt
  have mx10 : gx10 < vw8.heap.size := BX10.out.lt
  have mx11 : gx11 < vw8.heap.size := BX11.out.lt
  have mx12 : gx12 < vw8.heap.size := BX12.out.lt
  have mx13 : gx13 < vw8.heap.size := BX13.out.lt
  refine forgetW (fun w2 => Bx w2 gx8 29 #[.int .u64 (lo (Int.natAbs (6))), .string (bg (Int.natAbs (6))), .bool (decide ((6) < 0))] ∧ Bx w2 gx9 29 #[.int .u64 (lo (Int.natAbs (-1))), .string (bg (Int.natAbs (-1))), .bool (decide ((-1) < 0))] ∧ Bx w2 gx10 29 #[.int .u64 (lo (Int.natAbs (1))), .string (bg (Int.natAbs (1))), .bool (decide ((1) < 0))] ∧ Bx w2 gx11 29 #[.int .u64 (lo (Int.natAbs (5))), .string (bg (Int.natAbs (5))), .bool (decide ((5) < 0))] ∧ Bx w2 gx12 29 #[.int .u64 (lo (Int.natAbs (-1))), .string (bg (Int.natAbs (-1))), .bool (decide ((-1) < 0))] ∧ Bx w2 gx13 29 #[.int .u64 (lo (Int.natAbs (0))), .string (bg (Int.natAbs (0))), .bool (decide ((0) < 0))] ∧ Bx w2 (vw8.heap.size) 29 #[.int .u64 (lo (Int.natAbs (0))), .string (bg (Int.natAbs (0))), .bool (decide ((0) < 0))] ∧ Bx w2 (vw8.heap.size + 1) 29 #[.int .u64 (lo (Int.natAbs (0))), .string (bg (Int.natAbs (0))), .bool (decide ((0) < 0))] ∧ Bx w2 (vw8.heap.size + 1 + 1) 29 #[.int .u64 (lo (Int.natAbs (0))), .string (bg (Int.natAbs (0))), .bool (decide ((0) < 0))] ∧ Below w.heap.size w w2) ⟨(((BX8.out).alloc _).alloc _).alloc _, (((BX9.out).alloc _).alloc _).alloc _, (((BX10.out).alloc _).alloc _).alloc _, (((BX11.out).alloc _).alloc _).alloc _, (((BX12.out).alloc _).alloc _).alloc _, (((BX13.out).alloc _).alloc _).alloc _, (((Bx.at (by simp) : Bx _ (vw8.heap.size) _ _)).alloc _).alloc _, ((Bx.at (by simp) : Bx _ (vw8.heap.size + 1) _ _)).alloc _, (Bx.at (by simp) : Bx _ (vw8.heap.size + 1 + 1) _ _), (((HB.out.trans (HG.out.mono HB.out.size)).alloc (by first | omega | (simp; omega)) _).alloc (by first | omega | (simp; omega)) _).alloc (by first | omega | (simp; omega)) _⟩ ?_
  clear HB HG BX8 BX9 BX10 BX11 BX12 BX13
  rintro Wx9 ⟨bx8, bx9, bx10, bx11, bx12, bx13, bx14, bx15, bx16, HB⟩
  replace HB := Lib.hid HB
  have qx14_15 : vw8.heap.size < vw8.heap.size + 1 := by omega
  have qx14_16 : vw8.heap.size < vw8.heap.size + 1 + 1 := by omega
  have qx15_16 : vw8.heap.size + 1 < vw8.heap.size + 1 + 1 := by omega
  have yx16 : w.heap.size ≤ vw8.heap.size + 1 + 1 := by omega
  have qx8_16 : gx8 < vw8.heap.size + 1 + 1 := by omega
  have qx9_16 : gx9 < vw8.heap.size + 1 + 1 := by omega
  have qx10_16 : gx10 < vw8.heap.size + 1 + 1 := by omega
  have qx11_16 : gx11 < vw8.heap.size + 1 + 1 := by omega
  have qx12_16 : gx12 < vw8.heap.size + 1 + 1 := by omega
  have qx13_16 : gx13 < vw8.heap.size + 1 + 1 := by omega
  generalize hx16 : vw8.heap.size + 1 + 1 = gx16 at *
  clear hx16
  have yx15 : w.heap.size ≤ vw8.heap.size + 1 := by omega
  have qx8_15 : gx8 < vw8.heap.size + 1 := by omega
  have qx9_15 : gx9 < vw8.heap.size + 1 := by omega
  have qx10_15 : gx10 < vw8.heap.size + 1 := by omega
  have qx11_15 : gx11 < vw8.heap.size + 1 := by omega
  have qx12_15 : gx12 < vw8.heap.size + 1 := by omega
  have qx13_15 : gx13 < vw8.heap.size + 1 := by omega
  generalize hx15 : vw8.heap.size + 1 = gx15 at *
  clear hx15
  have yx14 : w.heap.size ≤ vw8.heap.size := by omega
  have qx8_14 : gx8 < vw8.heap.size := by omega
  have qx9_14 : gx9 < vw8.heap.size := by omega
  have qx10_14 : gx10 < vw8.heap.size := by omega
  have qx11_14 : gx11 < vw8.heap.size := by omega
  have qx12_14 : gx12 < vw8.heap.size := by omega
  have qx13_14 : gx13 < vw8.heap.size := by omega
  generalize hx14 : vw8.heap.size = gx14 at *
  clear hx14
  clear hsz mx8 mx9 mx10 mx11 mx12 mx13
  have su30 : wl (Int.natAbs (-9223372036854775808)) ≤ 2 := wl_le.2 (by decide +kernel)
  have BX8 := Lib.hid bx8
  have BX9 := Lib.hid bx9
  have BX10 := Lib.hid bx10
  have BX11 := Lib.hid bx11
  have BX12 := Lib.hid bx12
  have BX13 := Lib.hid bx13
  have BX14 := Lib.hid bx14
  have BX15 := Lib.hid bx15
  have BX16 := Lib.hid bx16
  clear bx8 bx9 bx10 bx11 bx12 bx13 bx14 bx15 bx16
  refine sK fun K hK => ?_
  refine wp_region_seqplan 1 [(true, 0)] (by rfl) (by simp) (fun T hT => ?_)
  refine wpPlan_callL rfl (by rfl) Tryd.call23 (fun w' hw => iof_any (-9223372036854775808) _ (by decide) (by decide)) (by rfl) ?_
  simp only [Act.put, rA, rB, rC]
  refine wpPlan_nil (hT.out _ _ ?_); clear hT T
  intro vw9 hg
  simp only [puts, Act.put, rA, rB, rC, rD, rE, ↓reduceIte, Nat.reduceEqDiff]
  have HG := Lib.hid (hg)
  clear hg
  replace BX8 := bG BX8 HG
  replace BX9 := bG BX9 HG
  replace BX10 := bG BX10 HG
  replace BX11 := bG BX11 HG
  replace BX12 := bG BX12 HG
  replace BX13 := bG BX13 HG
  replace BX14 := bG BX14 HG
  replace BX15 := bG BX15 HG
  replace BX16 := bG BX16 HG
  have r0 := Gr.refl vw9
  go_wp2
  refine hK.out _ _ ?_; clear hK K
  show Code.wp _ _ _ _ _
  clear r0
  have hsz : w.heap.size ≤ vw9.heap.size := Nat.le_trans HB.out.size HG.out.size
  have mx8 : gx8 < vw9.heap.size := BX8.out.lt
  have mx9 : gx9 < vw9.heap.size := BX9.out.lt
  have mx10 : gx10 < vw9.heap.size := BX10.out.lt
  have mx11 : gx11 < vw9.heap.size := BX11.out.lt
  have mx12 : gx12 < vw9.heap.size := BX12.out.lt
  have mx13 : gx13 < vw9.heap.size := BX13.out.lt
  have mx14 : gx14 < vw9.heap.size := BX14.out.lt
  have mx15 : gx15 < vw9.heap.size := BX15.out.lt
  have mx16 : gx16 < vw9.heap.size := BX16.out.lt
  refine forgetW (fun w2 => Bx w2 gx8 29 #[.int .u64 (lo (Int.natAbs (6))), .string (bg (Int.natAbs (6))), .bool (decide ((6) < 0))] ∧ Bx w2 gx9 29 #[.int .u64 (lo (Int.natAbs (-1))), .string (bg (Int.natAbs (-1))), .bool (decide ((-1) < 0))] ∧ Bx w2 gx10 29 #[.int .u64 (lo (Int.natAbs (1))), .string (bg (Int.natAbs (1))), .bool (decide ((1) < 0))] ∧ Bx w2 gx11 29 #[.int .u64 (lo (Int.natAbs (5))), .string (bg (Int.natAbs (5))), .bool (decide ((5) < 0))] ∧ Bx w2 gx12 29 #[.int .u64 (lo (Int.natAbs (-1))), .string (bg (Int.natAbs (-1))), .bool (decide ((-1) < 0))] ∧ Bx w2 gx13 29 #[.int .u64 (lo (Int.natAbs (0))), .string (bg (Int.natAbs (0))), .bool (decide ((0) < 0))] ∧ Bx w2 gx14 29 #[.int .u64 (lo (Int.natAbs (0))), .string (bg (Int.natAbs (0))), .bool (decide ((0) < 0))] ∧ Bx w2 gx15 29 #[.int .u64 (lo (Int.natAbs (0))), .string (bg (Int.natAbs (0))), .bool (decide ((0) < 0))] ∧ Bx w2 gx16 29 #[.int .u64 (lo (Int.natAbs (0))), .string (bg (Int.natAbs (0))), .bool (decide ((0) < 0))] ∧ Bx w2 (vw9.heap.size) 29 #[.int .u64 (lo (Int.natAbs (-9223372036854775808))), .string (bg (Int.natAbs (-9223372036854775808))), .bool (decide ((-9223372036854775808) < 0))] ∧ Below w.heap.size w w2) ⟨(BX8.out).alloc _, (BX9.out).alloc _, (BX10.out).alloc _, (BX11.out).alloc _, (BX12.out).alloc _, (BX13.out).alloc _, (BX14.out).alloc _, (BX15.out).alloc _, (BX16.out).alloc _, (Bx.at (by simp) : Bx _ (vw9.heap.size) _ _), (HB.out.trans (HG.out.mono HB.out.size)).alloc (by first | omega | (simp; omega)) _⟩ ?_
  clear HB HG BX8 BX9 BX10 BX11 BX12 BX13 BX14 BX15 BX16
  rintro Wx10 ⟨bx8, bx9, bx10, bx11, bx12, bx13, bx14, bx15, bx16, bx17, HB⟩
  replace HB := Lib.hid HB
  have yx17 : w.heap.size ≤ vw9.heap.size := by omega
  have qx8_17 : gx8 < vw9.heap.size := by omega
  have qx9_17 : gx9 < vw9.heap.size := by omega
  have qx10_17 : gx10 < vw9.heap.size := by omega
  have qx11_17 : gx11 < vw9.heap.size := by omega
  have qx12_17 : gx12 < vw9.heap.size := by omega
  have qx13_17 : gx13 < vw9.heap.size := by omega
  have qx14_17 : gx14 < vw9.heap.size := by omega
  have qx15_17 : gx15 < vw9.heap.size := by omega
  have qx16_17 : gx16 < vw9.heap.size := by omega
  generalize hx17 : vw9.heap.size = gx17 at *
  clear hx17
  clear hsz mx8 mx9 mx10 mx11 mx12 mx13 mx14 mx15 mx16
  refine wp_seq ?_
  have HZ31 : Hid ((-9223372036854775808 : Int) * (-9223372036854775808) = 85070591730234615865843651857942052864) := Lib.hid (by decide +kernel)
  have su31 : wl (Int.natAbs (85070591730234615865843651857942052864)) ≤ 4 := wl_le.2 (by decide +kernel)
  have lx8 := bx8.cells
  have lx9 := bx9.cells
  have lx10 := bx10.cells
  have lx11 := bx11.cells
  have lx12 := bx12.cells
  have lx13 := bx13.cells
  have lx14 := bx14.cells
  have lx15 := bx15.cells
  have lx16 := bx16.cells
  have lx17 := bx17.cells
  have BX8 := Lib.hid bx8
  have BX9 := Lib.hid bx9
  have BX10 := Lib.hid bx10
  have BX11 := Lib.hid bx11
  have BX12 := Lib.hid bx12
  have BX13 := Lib.hid bx13
  have BX14 := Lib.hid bx14
  have BX15 := Lib.hid bx15
  have BX16 := Lib.hid bx16
  have BX17 := Lib.hid bx17
  clear bx8 bx9 bx10 bx11 bx12 bx13 bx14 bx15 bx16 bx17
  refine sK fun K hK => ?_
  refine wp_region_seqplan 50 [(true, 0), (true, 1), (true, 2), (true, 3), (true, 4), (true, 5), (true, 6), (true, 7), (true, 8), (true, 9), (true, 10), (true, 11), (true, 12), (true, 13), (true, 14), (true, 15), (true, 16), (true, 17), (true, 18), (true, 19), (true, 20), (true, 21), (true, 22), (true, 23), (true, 24), (true, 25), (true, 26), (true, 27), (true, 28), (true, 29), (true, 30), (true, 31), (true, 32), (true, 33), (true, 34), (true, 35), (true, 36), (true, 37), (true, 38), (true, 39), (true, 40), (true, 41), (true, 42), (true, 43), (true, 44), (true, 45), (true, 46), (true, 47), (true, 48), (true, 49)] (by rfl) (by simp) (fun T hT => ?_)
  refine wpPlan_takeL (v := ?_) rfl (by rfl) (fun w' hw => ?_) ?_; rotate_left; go_simp; with_reducible rfl; simp only [Act.put, rA, rB, rC]
  refine wpPlan_callL rfl (by rfl) Tryd.call13 (fun w' hw => is_any (6) (6) true _ (Lib.hid (decide_eq_true (by decide))) (by decide) (by decide)) (by rfl) ?_
  simp only [Act.put, rA, rB, rC]
  iterate 3 (refine wpPlan_takeL (v := ?_) rfl (by rfl) (fun w' hw => ?_) ?_; rotate_left; go_simp; with_reducible rfl; simp only [Act.put, rA, rB, rC])
  refine wpPlan_callL rfl (by rfl) Tryd.call13 (fun w' hw => is_any (-1) (-1) true _ (Lib.hid (decide_eq_true (by decide))) (by decide) (by decide)) (by rfl) ?_
  simp only [Act.put, rA, rB, rC]
  iterate 4 (refine wpPlan_takeL (v := ?_) rfl (by rfl) (fun w' hw => ?_) ?_; rotate_left; go_simp; with_reducible rfl; simp only [Act.put, rA, rB, rC])
  refine wpPlan_callL rfl (by rfl) Tryd.call13 (fun w' hw => is_any (1) (1) true _ (Lib.hid (decide_eq_true (by decide))) (by decide) (by decide)) (by rfl) ?_
  simp only [Act.put, rA, rB, rC]
  iterate 4 (refine wpPlan_takeL (v := ?_) rfl (by rfl) (fun w' hw => ?_) ?_; rotate_left; go_simp; with_reducible rfl; simp only [Act.put, rA, rB, rC])
  refine wpPlan_callL rfl (by rfl) Tryd.call13 (fun w' hw => is_any (5) (5) true _ (Lib.hid (decide_eq_true (by decide))) (by decide) (by decide)) (by rfl) ?_
  simp only [Act.put, rA, rB, rC]
  iterate 4 (refine wpPlan_takeL (v := ?_) rfl (by rfl) (fun w' hw => ?_) ?_; rotate_left; go_simp; with_reducible rfl; simp only [Act.put, rA, rB, rC])
  refine wpPlan_callL rfl (by rfl) Tryd.call13 (fun w' hw => is_any (-1) (-1) true _ (Lib.hid (decide_eq_true (by decide))) (by decide) (by decide)) (by rfl) ?_
  simp only [Act.put, rA, rB, rC]
  iterate 4 (refine wpPlan_takeL (v := ?_) rfl (by rfl) (fun w' hw => ?_) ?_; rotate_left; go_simp; with_reducible rfl; simp only [Act.put, rA, rB, rC])
  refine wpPlan_callL rfl (by rfl) Tryd.call13 (fun w' hw => is_any (0) (0) true _ (Lib.hid (decide_eq_true (by decide))) (by decide) (by decide)) (by rfl) ?_
  simp only [Act.put, rA, rB, rC]
  iterate 4 (refine wpPlan_takeL (v := ?_) rfl (by rfl) (fun w' hw => ?_) ?_; rotate_left; go_simp; with_reducible rfl; simp only [Act.put, rA, rB, rC])
  refine wpPlan_callL rfl (by rfl) Tryd.call13 (fun w' hw => is_any (0) (0) true _ (Lib.hid (decide_eq_true (by decide))) (by decide) (by decide)) (by rfl) ?_
  simp only [Act.put, rA, rB, rC]
  iterate 4 (refine wpPlan_takeL (v := ?_) rfl (by rfl) (fun w' hw => ?_) ?_; rotate_left; go_simp; with_reducible rfl; simp only [Act.put, rA, rB, rC])
  refine wpPlan_callL rfl (by rfl) Tryd.call13 (fun w' hw => is_any (0) (0) true _ (Lib.hid (decide_eq_true (by decide))) (by decide) (by decide)) (by rfl) ?_
  simp only [Act.put, rA, rB, rC]
  iterate 4 (refine wpPlan_takeL (v := ?_) rfl (by rfl) (fun w' hw => ?_) ?_; rotate_left; go_simp; with_reducible rfl; simp only [Act.put, rA, rB, rC])
  refine wpPlan_callL rfl (by rfl) Tryd.call13 (fun w' hw => is_any (0) (0) true _ (Lib.hid (decide_eq_true (by decide))) (by decide) (by decide)) (by rfl) ?_
  simp only [Act.put, rA, rB, rC]
  iterate 5 (refine wpPlan_takeL (v := ?_) rfl (by rfl) (fun w' hw => ?_) ?_; rotate_left; go_simp; with_reducible rfl; simp only [Act.put, rA, rB, rC])
  refine wpPlan_callL rfl (by rfl) Tryd.call20 (fun w' hw => zimul (-9223372036854775808) (-9223372036854775808) (85070591730234615865843651857942052864) _ HZ31.out (by first | omega | exact wlc (by decide)) (by first | omega | exact wlc (by decide))) (by rfl) ?_
  simp only [Act.put, rA, rB, rC]
  refine wpPlan_callL rfl (by rfl) Tryd.call11 (fun w' hw => zitext (85070591730234615865843651857942052864) ⟨#[56, 53, 48, 55, 48, 53, 57, 49, 55, 51, 48, 50, 51, 52, 54, 49, 53, 56, 54, 53, 56, 52, 51, 54, 53, 49, 56, 53, 55, 57, 52, 50, 48, 53, 50, 56, 54, 52]⟩ _ (itx_lit (85070591730234615865843651857942052864) (n := 85070591730234615865843651857942052864) (by decide) (dec_lit 38 (by decide +kernel) (by decide +kernel))) (by first | omega | exact wlc (by decide)) (Lib.hid (HT.out.gr (Gr.trans HB.out hw)))) (by rfl) ?_
  simp only [Act.put, rA, rB, rC]
  iterate 2 (refine wpPlan_takeL (v := ?_) rfl (by rfl) (fun w' hw => ?_) ?_; rotate_left; go_simp; with_reducible rfl; simp only [Act.put, rA, rB, rC])
  refine wpPlan_nil (hT.out _ _ ?_); clear hT T
  intro vw10 hg
  simp only [puts, Act.put, rA, rB, rC, rD, rE, ↓reduceIte, Nat.reduceEqDiff]
  clear lx8 lx9 lx10 lx11 lx12 lx13 lx14 lx15 lx16 lx17
  have HG := Lib.hid (hg)
  clear hg
  replace BX8 := bG BX8 HG
  replace BX9 := bG BX9 HG
  replace BX10 := bG BX10 HG
  replace BX11 := bG BX11 HG
  replace BX12 := bG BX12 HG
  replace BX13 := bG BX13 HG
  replace BX14 := bG BX14 HG
  replace BX15 := bG BX15 HG
  replace BX16 := bG BX16 HG
  replace BX17 := bG BX17 HG
  have r0 := Gr.refl vw10
  go_wp2
  refine hK.out _ _ ?_; clear hK K
  show Code.wp _ _ _ _ _
  clear r0
  refine forgetW (fun w2 => Below w.heap.size w w2) (HB.out.trans (HG.out.mono HB.out.size)) ?_
  clear HB HG BX8 BX9 BX10 BX11 BX12 BX13 BX14 BX15 BX16 BX17
  rintro Wx11 HB
  replace HB := Lib.hid HB
  refine wp_cond_false (by rfl) ?_
  refine wp_skip ?_
  show Code.wp _ _ _ _ _
  have su32 : wl (Int.natAbs (0)) ≤ 1 := wl_le.2 (by decide +kernel)
  refine sK fun K hK => ?_
  refine wp_region_seqplan 4 [(true, 0), (true, 1), (true, 2), (true, 3)] (by rfl) (by simp) (fun T hT => ?_)
  refine wpPlan_callL rfl (by rfl) Tryd.call9 (fun w' hw => ziparse ⟨#[45, 48]⟩ (0) 4 _ (by decide +kernel) (by decide +kernel) (by decide)) (by rfl) ?_
  simp only [Act.put, rA, rB, rC]
  iterate 3 (refine wpPlan_takeL (v := ?_) rfl (by rfl) (fun w' hw => ?_) ?_; rotate_left; go_simp; with_reducible rfl; simp only [Act.put, rA, rB, rC])
  refine wpPlan_nil (hT.out _ _ ?_); clear hT T
  intro vw11 hg
  simp only [puts, Act.put, rA, rB, rC, rD, rE, ↓reduceIte, Nat.reduceEqDiff]
  have HG := Lib.hid (hg)
  clear hg
  have r0 := Gr.refl vw11
  go_wp2
  refine hK.out _ _ ?_; clear hK K
  show Code.wp _ _ _ _ _
  clear r0
  have hsz : w.heap.size ≤ vw11.heap.size := Nat.le_trans HB.out.size HG.out.size
  refine forgetW (fun w2 => Below w.heap.size w w2) ((HB.out.trans (HG.out.mono HB.out.size)).alloc (by first | omega | (simp; omega)) _) ?_
  clear HB HG
  rintro Wx13 HB
  replace HB := Lib.hid HB
  clear hsz
  have su33 : wl (Int.natAbs (0)) ≤ 1 := wl_le.2 (by decide +kernel)
  refine sK fun K hK => ?_
  refine wp_region_seqplan 4 [(true, 0), (true, 1), (true, 2), (true, 3)] (by rfl) (by simp) (fun T hT => ?_)
  refine wpPlan_callL rfl (by rfl) Tryd.call9 (fun w' hw => ziparse ⟨#[45, 45, 49]⟩ (0) 4 _ (by decide +kernel) (by decide +kernel) (by decide)) (by rfl) ?_
  simp only [Act.put, rA, rB, rC]
  iterate 3 (refine wpPlan_takeL (v := ?_) rfl (by rfl) (fun w' hw => ?_) ?_; rotate_left; go_simp; with_reducible rfl; simp only [Act.put, rA, rB, rC])
  refine wpPlan_nil (hT.out _ _ ?_); clear hT T
  intro vw12 hg
  simp only [puts, Act.put, rA, rB, rC, rD, rE, ↓reduceIte, Nat.reduceEqDiff]
  have HG := Lib.hid (hg)
  clear hg
  have r0 := Gr.refl vw12
  go_wp2
  refine hK.out _ _ ?_; clear hK K
  show Code.wp _ _ _ _ _
  clear r0
  have hsz : w.heap.size ≤ vw12.heap.size := Nat.le_trans HB.out.size HG.out.size
  refine forgetW (fun w2 => Below w.heap.size w w2) ((HB.out.trans (HG.out.mono HB.out.size)).alloc (by first | omega | (simp; omega)) _) ?_
  clear HB HG
  rintro Wx14 HB
  replace HB := Lib.hid HB
  clear hsz
  have su34 : wl (Int.natAbs (-12)) ≤ 1 := wl_le.2 (by decide +kernel)
  refine sK fun K hK => ?_
  refine wp_region_seqplan 4 [(true, 0), (true, 1), (true, 2), (true, 3)] (by rfl) (by simp) (fun T hT => ?_)
  refine wpPlan_callL rfl (by rfl) Tryd.call9 (fun w' hw => ziparse ⟨#[45, 49, 50]⟩ (-12) 0 _ (by decide +kernel) (by decide +kernel) (by decide)) (by rfl) ?_
  simp only [Act.put, rA, rB, rC]
  iterate 3 (refine wpPlan_takeL (v := ?_) rfl (by rfl) (fun w' hw => ?_) ?_; rotate_left; go_simp; with_reducible rfl; simp only [Act.put, rA, rB, rC])
  refine wpPlan_nil (hT.out _ _ ?_); clear hT T
  intro vw13 hg
  simp only [puts, Act.put, rA, rB, rC, rD, rE, ↓reduceIte, Nat.reduceEqDiff]
  have HG := Lib.hid (hg)
  clear hg
  have r0 := Gr.refl vw13
  go_wp2
  refine hK.out _ _ ?_; clear hK K
  show Code.wp _ _ _ _ _
  clear r0
  have hsz : w.heap.size ≤ vw13.heap.size := Nat.le_trans HB.out.size HG.out.size
  refine forgetW (fun w2 => Bx w2 (vw13.heap.size) 29 #[.int .u64 (lo (Int.natAbs (-12))), .string (bg (Int.natAbs (-12))), .bool (decide ((-12) < 0))] ∧ Below w.heap.size w w2) ⟨(Bx.at (by simp) : Bx _ (vw13.heap.size) _ _), (HB.out.trans (HG.out.mono HB.out.size)).alloc (by first | omega | (simp; omega)) _⟩ ?_
  clear HB HG
  rintro Wx15 ⟨bx20, HB⟩
  replace HB := Lib.hid HB
  have yx20 : w.heap.size ≤ vw13.heap.size := by omega
  generalize hx20 : vw13.heap.size = gx20 at *
  clear hx20
  clear hsz
  have su35 : wl (Int.natAbs (0)) ≤ 1 := wl_le.2 (by decide +kernel)
  have BX20 := Lib.hid bx20
  clear bx20
  refine sK fun K hK => ?_
  refine wp_region_seqplan 4 [(true, 0), (true, 1), (true, 2), (true, 3)] (by rfl) (by simp) (fun T hT => ?_)
  refine wpPlan_callL rfl (by rfl) Tryd.call9 (fun w' hw => ziparse ⟨#[48, 49, 50]⟩ (0) 4 _ (by decide +kernel) (by decide +kernel) (by decide)) (by rfl) ?_
  simp only [Act.put, rA, rB, rC]
  iterate 3 (refine wpPlan_takeL (v := ?_) rfl (by rfl) (fun w' hw => ?_) ?_; rotate_left; go_simp; with_reducible rfl; simp only [Act.put, rA, rB, rC])
  refine wpPlan_nil (hT.out _ _ ?_); clear hT T
  intro vw14 hg
  simp only [puts, Act.put, rA, rB, rC, rD, rE, ↓reduceIte, Nat.reduceEqDiff]
  have HG := Lib.hid (hg)
  clear hg
  replace BX20 := bG BX20 HG
  have r0 := Gr.refl vw14
  go_wp2
  refine hK.out _ _ ?_; clear hK K
  show Code.wp _ _ _ _ _
  clear r0
  have hsz : w.heap.size ≤ vw14.heap.size := Nat.le_trans HB.out.size HG.out.size
  have mx20 : gx20 < vw14.heap.size := BX20.out.lt
  refine forgetW (fun w2 => Bx w2 gx20 29 #[.int .u64 (lo (Int.natAbs (-12))), .string (bg (Int.natAbs (-12))), .bool (decide ((-12) < 0))] ∧ Below w.heap.size w w2) ⟨(BX20.out).alloc _, (HB.out.trans (HG.out.mono HB.out.size)).alloc (by first | omega | (simp; omega)) _⟩ ?_
  clear HB HG BX20
  rintro Wx16 ⟨bx20, HB⟩
  replace HB := Lib.hid HB
  clear hsz mx20
  have lx20 := bx20.cells
  have BX20 := Lib.hid bx20
  clear bx20
  refine sK fun K hK => ?_
  refine wp_region_seqplan 19 [(true, 0), (true, 1), (true, 2), (true, 3), (true, 4), (true, 5), (true, 6), (true, 7), (true, 8), (true, 9), (true, 10), (true, 11), (true, 12), (true, 13), (true, 14), (true, 15), (true, 16), (true, 17), (true, 18)] (by rfl) (by simp) (fun T hT => ?_)
  iterate 8 (refine wpPlan_takeL (v := ?_) rfl (by rfl) (fun w' hw => ?_) ?_; rotate_left; go_simp; with_reducible rfl; simp only [Act.put, rA, rB, rC])
  refine wpPlan_callL rfl (by rfl) Tryd.call13 (fun w' hw => is_any (-12) (-12) true _ (Lib.hid (decide_eq_true (by decide))) (by decide) (by decide)) (by rfl) ?_
  simp only [Act.put, rA, rB, rC]
  iterate 10 (refine wpPlan_takeL (v := ?_) rfl (by rfl) (fun w' hw => ?_) ?_; rotate_left; go_simp; with_reducible rfl; simp only [Act.put, rA, rB, rC])
  refine wpPlan_nil (hT.out _ _ ?_); clear hT T
  intro vw15 hg
  simp only [puts, Act.put, rA, rB, rC, rD, rE, ↓reduceIte, Nat.reduceEqDiff]
  clear lx20
  have HG := Lib.hid (hg)
  clear hg
  replace BX20 := bG BX20 HG
  have r0 := Gr.refl vw15
  go_wp2
  refine hK.out _ _ ?_; clear hK K
  show Code.wp _ _ _ _ _
  clear r0
  refine forgetW (fun w2 => Below w.heap.size w w2) (HB.out.trans (HG.out.mono HB.out.size)) ?_
  clear HB HG BX20
  rintro Wx17 HB
  replace HB := Lib.hid HB
  refine wp_ret ?_
  try simp only [Exit.then, Exit.inBlock]
  have r0 := Gr.refl Wx17
  exact bodyPost_ret (v := .bool true) (by simp [results, Tryd.results8, go_sem]) rfl ⟨rfl, HB.out⟩

end Go.Proofs.YtflhpdlecpehkaaDoor
