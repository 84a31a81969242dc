
/- NatsReads: the law's walk. -/
import Derived.Test.YteenojfbnbkedaaDoorSh
import Derived.Test.YteenojfbnbkedaaDoorPlainN
import Derived.Test.YteenojfbnbkedaaDoorTextQ
namespace Go.Proofs.YteenojfbnbkedaaDoor
open Go.RowKit
set_option linter.unusedSimpArgs false
set_option linter.unusedVariables false
attribute [local go_sem ↓] Go.wp_at_zero Go.wp_at_succ
attribute [local go_sem ↓] eq_nat eq_nat_zero
set_option maxRecDepth 100000 in
set_option maxHeartbeats 4000000 in
theorem read_long  (s : ByteArray) (w : World)  (hs : 4200 < s.size) (hs2 : s.size ≤ 9223372036854775807) (HT : Hid (Tab w)) :
    Calls Tryd.prog 6 #[.string s] w fun e w' => e = .returned (.bool true) ∧ Below w.heap.size w w' := by
  go_enter Tryd.func6, Tryd.ntmps6
  refine sK fun K hK => ?_
  refine wp_region_lit ?_
  go_wp2
  refine hK.out _ _ ?_; clear hK K
  show Code.wp _ _ _ _ _
  refine forgetW (fun w2 => Below w.heap.size w w2) (Below.refl _ _) ?_
  rintro Wx HB
  replace HB := Lib.hid HB
  refine wp_seq ?_
  have hd1 : 4200 < ((s.size : Int)) := by omega
  refine sK fun K hK => ?_
  refine wp_region_seqplan 3 [(true, 0), (true, 1), (true, 2)] (by rfl) (by simp) (fun T hT => ?_)
  iterate 3 (refine wpPlan_takeL (v := ?_) rfl (by rfl) (fun w' hw => ?_) ?_; rotate_left; go_simp; with_reducible rfl; simp only [Act.put, rA, rB, rC])
  refine wpPlan_nil (hT.out _ _ ?_); clear hT T
  intro vw1 hg
  simp only [puts, Act.put, rA, rB, rC, rD, rE, ↓reduceIte, Nat.reduceEqDiff]
  have HG := Lib.hid (hg)
  clear hg
  have r0 := Gr.refl vw1
  go_wp2
  refine hK.out _ _ ?_; clear hK K
  show Code.wp _ _ _ _ _
  clear r0
  refine forgetW (fun w2 => Below w.heap.size w w2) (HB.out.trans (HG.out.mono HB.out.size)) ?_
  clear HB HG
  rintro Wx1 HB
  replace HB := Lib.hid HB
  clear hd1
  refine wp_cond_true (by rfl) ?_
  refine sK fun K hK => ?_
  refine wp_region_seqplan 2 [(true, 0), (true, 1)] (by rfl) (by simp) (fun T hT => ?_)
  refine wpPlan_callL rfl (by rfl) Tryd.call12 (fun w' hw => works_any _ (Lib.hid (HT.out.gr (Gr.trans HB.out hw)))) (by rfl) ?_
  simp only [Act.put, rA, rB, rC]
  refine wpPlan_takeL (v := ?_) rfl (by rfl) (fun w' hw => ?_) ?_; rotate_left; go_simp; with_reducible rfl; simp only [Act.put, rA, rB, rC]
  refine wpPlan_nil (hT.out _ _ ?_); clear hT T
  intro vw2 hg
  simp only [puts, Act.put, rA, rB, rC, rD, rE, ↓reduceIte, Nat.reduceEqDiff]
  have HG := Lib.hid (hg)
  clear hg
  have r0 := Gr.refl vw2
  go_wp2
  refine hK.out _ _ ?_; clear hK K
  show Code.wp _ _ _ _ _
  clear r0
  refine forgetW (fun w2 => Below w.heap.size w w2) (HB.out.trans (HG.out.mono HB.out.size)) ?_
  clear HB HG
  rintro Wx2 HB
  replace HB := Lib.hid HB
  refine wp_ret ?_
  try simp only [Exit.then, Exit.inBlock]
  have r0 := Gr.refl Wx2
  exact bodyPost_ret (v := .bool true) (by simp [results, Tryd.results6, go_sem]) rfl ⟨rfl, HB.out⟩

set_option maxRecDepth 100000 in
set_option maxHeartbeats 4000000 in
theorem read_bad  (s : ByteArray) (w : World)  (hs : s.size ≤ 4200) (HPC : Hid (pcode s = 4)) (HPN : Hid (pnum s = 0)) (HT : Hid (Tab w)) :
    Calls Tryd.prog 6 #[.string s] w fun e w' => e = .returned (.bool true) ∧ Below w.heap.size w w' := by
  go_enter Tryd.func6, Tryd.ntmps6
  refine sK fun K hK => ?_
  refine wp_region_lit ?_
  go_wp2
  refine hK.out _ _ ?_; clear hK K
  show Code.wp _ _ _ _ _
  refine forgetW (fun w2 => Below w.heap.size w w2) (Below.refl _ _) ?_
  rintro Wx HB
  replace HB := Lib.hid HB
  refine wp_seq ?_
  have hd1 : ¬ (4200 < ((s.size : Int))) := by omega
  refine sK fun K hK => ?_
  refine wp_region_seqplan 3 [(true, 0), (true, 1), (true, 2)] (by rfl) (by simp) (fun T hT => ?_)
  iterate 3 (refine wpPlan_takeL (v := ?_) rfl (by rfl) (fun w' hw => ?_) ?_; rotate_left; go_simp; with_reducible rfl; simp only [Act.put, rA, rB, rC])
  refine wpPlan_nil (hT.out _ _ ?_); clear hT T
  intro vw1 hg
  simp only [puts, Act.put, rA, rB, rC, rD, rE, ↓reduceIte, Nat.reduceEqDiff]
  have HG := Lib.hid (hg)
  clear hg
  have r0 := Gr.refl vw1
  go_wp2
  refine hK.out _ _ ?_; clear hK K
  show Code.wp _ _ _ _ _
  clear r0
  refine forgetW (fun w2 => Below w.heap.size w w2) (HB.out.trans (HG.out.mono HB.out.size)) ?_
  clear HB HG
  rintro Wx1 HB
  replace HB := Lib.hid HB
  clear hd1
  refine wp_cond_false (by rfl) ?_
  refine wp_skip ?_
  show Code.wp _ _ _ _ _
  refine sK fun K hK => ?_
  refine wp_region_seqplan 5 [(true, 0), (true, 1), (true, 2), (true, 3), (true, 4)] (by rfl) (by simp) (fun T hT => ?_)
  refine wpPlan_takeL (v := ?_) rfl (by rfl) (fun w' hw => ?_) ?_; rotate_left; go_simp; with_reducible rfl; simp only [Act.put, rA, rB, rC]
  refine wpPlan_callL rfl (by rfl) Tryd.call34 (fun w' hw => nzparse s 0 4 _ HPN.out HPC.out (by omega)) (by rfl) ?_
  simp only [Act.put, rA, rB, rC]
  iterate 3 (refine wpPlan_takeL (v := ?_) rfl (by rfl) (fun w' hw => ?_) ?_; rotate_left; go_simp; with_reducible rfl; simp only [Act.put, rA, rB, rC])
  refine wpPlan_nil (hT.out _ _ ?_); clear hT T
  intro vw2 hg
  simp only [puts, Act.put, rA, rB, rC, rD, rE, ↓reduceIte, Nat.reduceEqDiff]
  have HG := Lib.hid (hg)
  clear hg
  have r0 := Gr.refl vw2
  go_wp2
  refine hK.out _ _ ?_; clear hK K
  show Code.wp _ _ _ _ _
  clear r0
  have hsz : w.heap.size ≤ vw2.heap.size := Nat.le_trans HB.out.size HG.out.size
  refine forgetW (fun w2 => NX w2 (vw2.heap.size) (0) ∧ Below w.heap.size w w2) ⟨(Bx.at (by simp) : Bx _ (vw2.heap.size) _ _), (HB.out.trans (HG.out.mono HB.out.size)).alloc (by first | omega | (simp; omega)) _⟩ ?_
  clear HB HG
  rintro Wx3 ⟨bx0, HB⟩
  replace HB := Lib.hid HB
  have yx0 : w.heap.size ≤ vw2.heap.size := by omega
  generalize hx0 : vw2.heap.size = gx0 at *
  clear hx0
  clear hsz
  have BX0 := Lib.hid bx0
  clear bx0
  refine sK fun K hK => ?_
  have HS0 := Lib.hid (HB.out.size)
  have MX0 : gx0 < Wx3.heap.size := BX0.out.lt
  refine wp_region_seqplan 7 [(true, 0), (false, 1), (true, 2), (true, 3), (true, 4), (true, 5), (true, 6)] (by rfl) (by simp) (fun T hT => ?_)
  refine wpPlan_takeL (v := ?_) rfl (by rfl) (fun w' hw => ?_) ?_; rotate_left; go_simp; with_reducible rfl; simp only [Act.put, rA, rB, rC]
  refine wpPlan_callE rfl (by rfl) Tryd.call35 (by rfl) (fun w' hw => (zrparse s 0 4 _ HPN.out HPC.out (by omega)).mono ?_)
  rintro e vv1 ⟨⟨rv1, rfl, bx1⟩, hg0⟩
  obtain ⟨ao1, nn1, cc1, rfl⟩ := Rn.sl bx1
  refine ⟨_, rfl, hg0, ?_⟩
  replace hg0 := Gr.trans hw hg0; clear hw
  have HG0 := Lib.hid hg0; clear hg0
  replace BX0 := bG BX0 HG0
  replace HB := Lib.hid (HB.out.trans (HG0.out.mono HB.out.size))
  have BX1 := Lib.hid bx1; clear bx1
  clear HG0
  simp only [Act.put, rA, rB, rC]
  iterate 5 (refine wpPlan_takeL (v := ?_) rfl (by rfl) (fun w' hw => ?_) ?_; rotate_left; go_simp; with_reducible rfl; simp only [Act.put, rA, rB, rC])
  refine wpPlan_nil (hT.out _ _ ?_); clear hT T
  intro vw3 hg
  simp only [puts, Act.put, rA, rB, rC, rD, rE, ↓reduceIte, Nat.reduceEqDiff]
  have HG := Lib.hid (hg)
  clear hg
  replace BX0 := bG BX0 HG
  replace BX1 := rG BX1 HG
  have r0 := Gr.refl vw3
  go_wp2
  refine hK.out _ _ ?_; clear hK K
  show Code.wp _ _ _ _ _
  clear r0
  refine forgetW (fun w2 => NX w2 gx0 (0) ∧ Rn w2 (.slice ao1 nn1 cc1) (0) ∧ Below w.heap.size w w2) ⟨BX0.out, BX1.out, HB.out.trans (HG.out.mono HB.out.size)⟩ ?_
  clear HB HG BX0 BX1
  rintro Wx4 ⟨bx0, bx1, HB⟩
  replace HB := Lib.hid HB
  refine wp_seq ?_
  have BX0 := Lib.hid bx0
  have BX1 := Lib.hid bx1
  clear bx0 bx1
  refine sK fun K hK => ?_
  refine wp_region_seqplan 3 [(true, 0), (true, 1), (true, 2)] (by rfl) (by simp) (fun T hT => ?_)
  iterate 3 (refine wpPlan_takeL (v := ?_) rfl (by rfl) (fun w' hw => ?_) ?_; rotate_left; go_simp; with_reducible rfl; simp only [Act.put, rA, rB, rC])
  refine wpPlan_nil (hT.out _ _ ?_); clear hT T
  intro vw4 hg
  simp only [puts, Act.put, rA, rB, rC, rD, rE, ↓reduceIte, Nat.reduceEqDiff]
  have HG := Lib.hid (hg)
  clear hg
  replace BX0 := bG BX0 HG
  replace BX1 := rG BX1 HG
  have r0 := Gr.refl vw4
  go_wp2
  refine hK.out _ _ ?_; clear hK K
  show Code.wp _ _ _ _ _
  clear r0
  refine forgetW (fun w2 => NX w2 gx0 (0) ∧ Rn w2 (.slice ao1 nn1 cc1) (0) ∧ Below w.heap.size w w2) ⟨BX0.out, BX1.out, HB.out.trans (HG.out.mono HB.out.size)⟩ ?_
  clear HB HG BX0 BX1
  rintro Wx5 ⟨bx0, bx1, HB⟩
  replace HB := Lib.hid HB
  refine wp_cond_false (by rfl) ?_
  refine wp_skip ?_
  show Code.wp _ _ _ _ _
  have lx0 := bx0.cells
  have BX0 := Lib.hid bx0
  have BX1 := Lib.hid bx1
  clear bx0 bx1
  refine sK fun K hK => ?_
  refine wp_region_seqplan 27 [(true, 0), (true, 1), (true, 2), (true, 3), (true, 4), (true, 5), (true, 6), (true, 7), (true, 8), (true, 9), (true, 10), (true, 11), (true, 12), (true, 13), (true, 14), (true, 15), (true, 16), (true, 17), (true, 18), (true, 19), (true, 20), (true, 21), (true, 22), (true, 23), (true, 24), (true, 25), (true, 26)] (by rfl) (by simp) (fun T hT => ?_)
  iterate 3 (refine wpPlan_takeL (v := ?_) rfl (by rfl) (fun w' hw => ?_) ?_; rotate_left; go_simp; with_reducible rfl; simp only [Act.put, rA, rB, rC])
  iterate 4 (refine wpPlan_skipL rfl (by rfl) ?_; simp only [Act.put, rA, rB, rC])
  iterate 2 (refine wpPlan_takeL (v := ?_) rfl (by rfl) (fun w' hw => ?_) ?_; rotate_left; go_simp; with_reducible rfl; simp only [Act.put, rA, rB, rC])
  iterate 4 (refine wpPlan_skipL rfl (by rfl) ?_; simp only [Act.put, rA, rB, rC])
  iterate 11 (refine wpPlan_takeL (v := ?_) rfl (by rfl) (fun w' hw => ?_) ?_; rotate_left; go_simp; with_reducible rfl; simp only [Act.put, rA, rB, rC])
  refine wpPlan_callL rfl (by rfl) Tryd.call12 (fun w' hw => works_any _ (Lib.hid (HT.out.gr (Gr.trans HB.out hw)))) (by rfl) ?_
  simp only [Act.put, rA, rB, rC]
  iterate 2 (refine wpPlan_takeL (v := ?_) rfl (by rfl) (fun w' hw => ?_) ?_; rotate_left; go_simp; with_reducible rfl; simp only [Act.put, rA, rB, rC])
  refine wpPlan_nil (hT.out _ _ ?_); clear hT T
  intro vw5 hg
  simp only [puts, Act.put, rA, rB, rC, rD, rE, ↓reduceIte, Nat.reduceEqDiff]
  clear lx0
  have HG := Lib.hid (hg)
  clear hg
  replace BX0 := bG BX0 HG
  replace BX1 := rG BX1 HG
  have r0 := Gr.refl vw5
  go_wp2
  refine hK.out _ _ ?_; clear hK K
  show Code.wp _ _ _ _ _
  clear r0
  refine forgetW (fun w2 => Below w.heap.size w w2) (HB.out.trans (HG.out.mono HB.out.size)) ?_
  clear HB HG BX0 BX1
  rintro Wx7 HB
  replace HB := Lib.hid HB
  refine wp_ret ?_
  try simp only [Exit.then, Exit.inBlock]
  have r0 := Gr.refl Wx7
  exact bodyPost_ret (v := .bool true) (by simp [results, Tryd.results6, go_sem]) rfl ⟨rfl, HB.out⟩

set_option maxRecDepth 100000 in
set_option maxHeartbeats 4000000 in
theorem read_far  (s : ByteArray) (w : World)  (hs : s.size ≤ 4200) (HPC : Hid (pcode s = 3)) (HPN : Hid (pnum s = 0)) (HT : Hid (Tab w)) :
    Calls Tryd.prog 6 #[.string s] w fun e w' => e = .returned (.bool true) ∧ Below w.heap.size w w' := by
  go_enter Tryd.func6, Tryd.ntmps6
  refine sK fun K hK => ?_
  refine wp_region_lit ?_
  go_wp2
  refine hK.out _ _ ?_; clear hK K
  show Code.wp _ _ _ _ _
  refine forgetW (fun w2 => Below w.heap.size w w2) (Below.refl _ _) ?_
  rintro Wx HB
  replace HB := Lib.hid HB
  refine wp_seq ?_
  have hd1 : ¬ (4200 < ((s.size : Int))) := by omega
  refine sK fun K hK => ?_
  refine wp_region_seqplan 3 [(true, 0), (true, 1), (true, 2)] (by rfl) (by simp) (fun T hT => ?_)
  iterate 3 (refine wpPlan_takeL (v := ?_) rfl (by rfl) (fun w' hw => ?_) ?_; rotate_left; go_simp; with_reducible rfl; simp only [Act.put, rA, rB, rC])
  refine wpPlan_nil (hT.out _ _ ?_); clear hT T
  intro vw1 hg
  simp only [puts, Act.put, rA, rB, rC, rD, rE, ↓reduceIte, Nat.reduceEqDiff]
  have HG := Lib.hid (hg)
  clear hg
  have r0 := Gr.refl vw1
  go_wp2
  refine hK.out _ _ ?_; clear hK K
  show Code.wp _ _ _ _ _
  clear r0
  refine forgetW (fun w2 => Below w.heap.size w w2) (HB.out.trans (HG.out.mono HB.out.size)) ?_
  clear HB HG
  rintro Wx1 HB
  replace HB := Lib.hid HB
  clear hd1
  refine wp_cond_false (by rfl) ?_
  refine wp_skip ?_
  show Code.wp _ _ _ _ _
  refine sK fun K hK => ?_
  refine wp_region_seqplan 5 [(true, 0), (true, 1), (true, 2), (true, 3), (true, 4)] (by rfl) (by simp) (fun T hT => ?_)
  refine wpPlan_takeL (v := ?_) rfl (by rfl) (fun w' hw => ?_) ?_; rotate_left; go_simp; with_reducible rfl; simp only [Act.put, rA, rB, rC]
  refine wpPlan_callL rfl (by rfl) Tryd.call34 (fun w' hw => nzparse s 0 3 _ HPN.out HPC.out (by omega)) (by rfl) ?_
  simp only [Act.put, rA, rB, rC]
  iterate 3 (refine wpPlan_takeL (v := ?_) rfl (by rfl) (fun w' hw => ?_) ?_; rotate_left; go_simp; with_reducible rfl; simp only [Act.put, rA, rB, rC])
  refine wpPlan_nil (hT.out _ _ ?_); clear hT T
  intro vw2 hg
  simp only [puts, Act.put, rA, rB, rC, rD, rE, ↓reduceIte, Nat.reduceEqDiff]
  have HG := Lib.hid (hg)
  clear hg
  have r0 := Gr.refl vw2
  go_wp2
  refine hK.out _ _ ?_; clear hK K
  show Code.wp _ _ _ _ _
  clear r0
  have hsz : w.heap.size ≤ vw2.heap.size := Nat.le_trans HB.out.size HG.out.size
  refine forgetW (fun w2 => NX w2 (vw2.heap.size) (0) ∧ Below w.heap.size w w2) ⟨(Bx.at (by simp) : Bx _ (vw2.heap.size) _ _), (HB.out.trans (HG.out.mono HB.out.size)).alloc (by first | omega | (simp; omega)) _⟩ ?_
  clear HB HG
  rintro Wx3 ⟨bx0, HB⟩
  replace HB := Lib.hid HB
  have yx0 : w.heap.size ≤ vw2.heap.size := by omega
  generalize hx0 : vw2.heap.size = gx0 at *
  clear hx0
  clear hsz
  have BX0 := Lib.hid bx0
  clear bx0
  refine sK fun K hK => ?_
  have HS0 := Lib.hid (HB.out.size)
  have MX0 : gx0 < Wx3.heap.size := BX0.out.lt
  refine wp_region_seqplan 7 [(true, 0), (false, 1), (true, 2), (true, 3), (true, 4), (true, 5), (true, 6)] (by rfl) (by simp) (fun T hT => ?_)
  refine wpPlan_takeL (v := ?_) rfl (by rfl) (fun w' hw => ?_) ?_; rotate_left; go_simp; with_reducible rfl; simp only [Act.put, rA, rB, rC]
  refine wpPlan_callE rfl (by rfl) Tryd.call35 (by rfl) (fun w' hw => (zrparse s 0 3 _ HPN.out HPC.out (by omega)).mono ?_)
  rintro e vv1 ⟨⟨rv1, rfl, bx1⟩, hg0⟩
  obtain ⟨ao1, nn1, cc1, rfl⟩ := Rn.sl bx1
  refine ⟨_, rfl, hg0, ?_⟩
  replace hg0 := Gr.trans hw hg0; clear hw
  have HG0 := Lib.hid hg0; clear hg0
  replace BX0 := bG BX0 HG0
  replace HB := Lib.hid (HB.out.trans (HG0.out.mono HB.out.size))
  have BX1 := Lib.hid bx1; clear bx1
  clear HG0
  simp only [Act.put, rA, rB, rC]
  iterate 5 (refine wpPlan_takeL (v := ?_) rfl (by rfl) (fun w' hw => ?_) ?_; rotate_left; go_simp; with_reducible rfl; simp only [Act.put, rA, rB, rC])
  refine wpPlan_nil (hT.out _ _ ?_); clear hT T
  intro vw3 hg
  simp only [puts, Act.put, rA, rB, rC, rD, rE, ↓reduceIte, Nat.reduceEqDiff]
  have HG := Lib.hid (hg)
  clear hg
  replace BX0 := bG BX0 HG
  replace BX1 := rG BX1 HG
  have r0 := Gr.refl vw3
  go_wp2
  refine hK.out _ _ ?_; clear hK K
  show Code.wp _ _ _ _ _
  clear r0
  refine forgetW (fun w2 => NX w2 gx0 (0) ∧ Rn w2 (.slice ao1 nn1 cc1) (0) ∧ Below w.heap.size w w2) ⟨BX0.out, BX1.out, HB.out.trans (HG.out.mono HB.out.size)⟩ ?_
  clear HB HG BX0 BX1
  rintro Wx4 ⟨bx0, bx1, HB⟩
  replace HB := Lib.hid HB
  refine wp_seq ?_
  have BX0 := Lib.hid bx0
  have BX1 := Lib.hid bx1
  clear bx0 bx1
  refine sK fun K hK => ?_
  refine wp_region_seqplan 3 [(true, 0), (true, 1), (true, 2)] (by rfl) (by simp) (fun T hT => ?_)
  iterate 3 (refine wpPlan_takeL (v := ?_) rfl (by rfl) (fun w' hw => ?_) ?_; rotate_left; go_simp; with_reducible rfl; simp only [Act.put, rA, rB, rC])
  refine wpPlan_nil (hT.out _ _ ?_); clear hT T
  intro vw4 hg
  simp only [puts, Act.put, rA, rB, rC, rD, rE, ↓reduceIte, Nat.reduceEqDiff]
  have HG := Lib.hid (hg)
  clear hg
  replace BX0 := bG BX0 HG
  replace BX1 := rG BX1 HG
  have r0 := Gr.refl vw4
  go_wp2
  refine hK.out _ _ ?_; clear hK K
  show Code.wp _ _ _ _ _
  clear r0
  refine forgetW (fun w2 => NX w2 gx0 (0) ∧ Rn w2 (.slice ao1 nn1 cc1) (0) ∧ Below w.heap.size w w2) ⟨BX0.out, BX1.out, HB.out.trans (HG.out.mono HB.out.size)⟩ ?_
  clear HB HG BX0 BX1
  rintro Wx5 ⟨bx0, bx1, HB⟩
  replace HB := Lib.hid HB
  refine wp_cond_false (by rfl) ?_
  refine wp_skip ?_
  show Code.wp _ _ _ _ _
  have lx0 := bx0.cells
  have BX0 := Lib.hid bx0
  have BX1 := Lib.hid bx1
  clear bx0 bx1
  refine sK fun K hK => ?_
  refine wp_region_seqplan 27 [(true, 0), (true, 1), (true, 2), (true, 3), (true, 4), (true, 5), (true, 6), (true, 7), (true, 8), (true, 9), (true, 10), (true, 11), (true, 12), (true, 13), (true, 14), (true, 15), (true, 16), (true, 17), (true, 18), (true, 19), (true, 20), (true, 21), (true, 22), (true, 23), (true, 24), (true, 25), (true, 26)] (by rfl) (by simp) (fun T hT => ?_)
  iterate 3 (refine wpPlan_takeL (v := ?_) rfl (by rfl) (fun w' hw => ?_) ?_; rotate_left; go_simp; with_reducible rfl; simp only [Act.put, rA, rB, rC])
  iterate 4 (refine wpPlan_skipL rfl (by rfl) ?_; simp only [Act.put, rA, rB, rC])
  iterate 2 (refine wpPlan_takeL (v := ?_) rfl (by rfl) (fun w' hw => ?_) ?_; rotate_left; go_simp; with_reducible rfl; simp only [Act.put, rA, rB, rC])
  iterate 4 (refine wpPlan_skipL rfl (by rfl) ?_; simp only [Act.put, rA, rB, rC])
  iterate 11 (refine wpPlan_takeL (v := ?_) rfl (by rfl) (fun w' hw => ?_) ?_; rotate_left; go_simp; with_reducible rfl; simp only [Act.put, rA, rB, rC])
  refine wpPlan_callL rfl (by rfl) Tryd.call12 (fun w' hw => works_any _ (Lib.hid (HT.out.gr (Gr.trans HB.out hw)))) (by rfl) ?_
  simp only [Act.put, rA, rB, rC]
  iterate 2 (refine wpPlan_takeL (v := ?_) rfl (by rfl) (fun w' hw => ?_) ?_; rotate_left; go_simp; with_reducible rfl; simp only [Act.put, rA, rB, rC])
  refine wpPlan_nil (hT.out _ _ ?_); clear hT T
  intro vw5 hg
  simp only [puts, Act.put, rA, rB, rC, rD, rE, ↓reduceIte, Nat.reduceEqDiff]
  clear lx0
  have HG := Lib.hid (hg)
  clear hg
  replace BX0 := bG BX0 HG
  replace BX1 := rG BX1 HG
  have r0 := Gr.refl vw5
  go_wp2
  refine hK.out _ _ ?_; clear hK K
  show Code.wp _ _ _ _ _
  clear r0
  refine forgetW (fun w2 => Below w.heap.size w w2) (HB.out.trans (HG.out.mono HB.out.size)) ?_
  clear HB HG BX0 BX1
  rintro Wx7 HB
  replace HB := Lib.hid HB
  refine wp_ret ?_
  try simp only [Exit.then, Exit.inBlock]
  have r0 := Gr.refl Wx7
  exact bodyPost_ret (v := .bool true) (by simp [results, Tryd.results6, go_sem]) rfl ⟨rfl, HB.out⟩

set_option maxRecDepth 100000 in
set_option maxHeartbeats 4000000 in
theorem read_good  (s : ByteArray) (n : Nat) (w : World)  (hs : s.size ≤ 4200) (HPC : Hid (pcode s = 0)) (HPN : Hid (pnum s = n)) (HTX : Hid ((⟨(Lib.decDigits n).toArray⟩ : ByteArray) = s)) (hw : wl n ≤ 600) (ht : tw n ≤ 1100) (HT : Hid (Tab w)) :
    Calls Tryd.prog 6 #[.string s] w fun e w' => e = .returned (.bool true) ∧ Below w.heap.size w w' := by
  go_enter Tryd.func6, Tryd.ntmps6
  refine sK fun K hK => ?_
  refine wp_region_lit ?_
  go_wp2
  refine hK.out _ _ ?_; clear hK K
  show Code.wp _ _ _ _ _
  refine forgetW (fun w2 => Below w.heap.size w w2) (Below.refl _ _) ?_
  rintro Wx HB
  replace HB := Lib.hid HB
  refine wp_seq ?_
  have hd1 : ¬ (4200 < ((s.size : Int))) := by omega
  refine sK fun K hK => ?_
  refine wp_region_seqplan 3 [(true, 0), (true, 1), (true, 2)] (by rfl) (by simp) (fun T hT => ?_)
  iterate 3 (refine wpPlan_takeL (v := ?_) rfl (by rfl) (fun w' hw => ?_) ?_; rotate_left; go_simp; with_reducible rfl; simp only [Act.put, rA, rB, rC])
  refine wpPlan_nil (hT.out _ _ ?_); clear hT T
  intro vw1 hg
  simp only [puts, Act.put, rA, rB, rC, rD, rE, ↓reduceIte, Nat.reduceEqDiff]
  have HG := Lib.hid (hg)
  clear hg
  have r0 := Gr.refl vw1
  go_wp2
  refine hK.out _ _ ?_; clear hK K
  show Code.wp _ _ _ _ _
  clear r0
  refine forgetW (fun w2 => Below w.heap.size w w2) (HB.out.trans (HG.out.mono HB.out.size)) ?_
  clear HB HG
  rintro Wx1 HB
  replace HB := Lib.hid HB
  clear hd1
  refine wp_cond_false (by rfl) ?_
  refine wp_skip ?_
  show Code.wp _ _ _ _ _
  refine sK fun K hK => ?_
  refine wp_region_seqplan 5 [(true, 0), (true, 1), (true, 2), (true, 3), (true, 4)] (by rfl) (by simp) (fun T hT => ?_)
  refine wpPlan_takeL (v := ?_) rfl (by rfl) (fun w' hw => ?_) ?_; rotate_left; go_simp; with_reducible rfl; simp only [Act.put, rA, rB, rC]
  refine wpPlan_callL rfl (by rfl) Tryd.call34 (fun w' hw => nzparse s n 0 _ HPN.out HPC.out (by omega)) (by rfl) ?_
  simp only [Act.put, rA, rB, rC]
  iterate 3 (refine wpPlan_takeL (v := ?_) rfl (by rfl) (fun w' hw => ?_) ?_; rotate_left; go_simp; with_reducible rfl; simp only [Act.put, rA, rB, rC])
  refine wpPlan_nil (hT.out _ _ ?_); clear hT T
  intro vw2 hg
  simp only [puts, Act.put, rA, rB, rC, rD, rE, ↓reduceIte, Nat.reduceEqDiff]
  have HG := Lib.hid (hg)
  clear hg
  have r0 := Gr.refl vw2
  go_wp2
  refine hK.out _ _ ?_; clear hK K
  show Code.wp _ _ _ _ _
  clear r0
  have hsz : w.heap.size ≤ vw2.heap.size := Nat.le_trans HB.out.size HG.out.size
  refine forgetW (fun w2 => NX w2 (vw2.heap.size) (n) ∧ Below w.heap.size w w2) ⟨(Bx.at (by simp) : Bx _ (vw2.heap.size) _ _), (HB.out.trans (HG.out.mono HB.out.size)).alloc (by first | omega | (simp; omega)) _⟩ ?_
  clear HB HG
  rintro Wx3 ⟨bx0, HB⟩
  replace HB := Lib.hid HB
  have yx0 : w.heap.size ≤ vw2.heap.size := by omega
  generalize hx0 : vw2.heap.size = gx0 at *
  clear hx0
  clear hsz
  have BX0 := Lib.hid bx0
  clear bx0
  refine sK fun K hK => ?_
  have HS0 := Lib.hid (HB.out.size)
  have MX0 : gx0 < Wx3.heap.size := BX0.out.lt
  refine wp_region_seqplan 7 [(true, 0), (false, 1), (true, 2), (true, 3), (true, 4), (true, 5), (true, 6)] (by rfl) (by simp) (fun T hT => ?_)
  refine wpPlan_takeL (v := ?_) rfl (by rfl) (fun w' hw => ?_) ?_; rotate_left; go_simp; with_reducible rfl; simp only [Act.put, rA, rB, rC]
  refine wpPlan_callE rfl (by rfl) Tryd.call35 (by rfl) (fun w' hw => (zrparse s n 0 _ HPN.out HPC.out (by omega)).mono ?_)
  rintro e vv1 ⟨⟨rv1, rfl, bx1⟩, hg0⟩
  obtain ⟨ao1, nn1, cc1, rfl⟩ := Rn.sl bx1
  refine ⟨_, rfl, hg0, ?_⟩
  replace hg0 := Gr.trans hw hg0; clear hw
  have HG0 := Lib.hid hg0; clear hg0
  replace BX0 := bG BX0 HG0
  replace HB := Lib.hid (HB.out.trans (HG0.out.mono HB.out.size))
  have BX1 := Lib.hid bx1; clear bx1
  clear HG0
  simp only [Act.put, rA, rB, rC]
  iterate 5 (refine wpPlan_takeL (v := ?_) rfl (by rfl) (fun w' hw => ?_) ?_; rotate_left; go_simp; with_reducible rfl; simp only [Act.put, rA, rB, rC])
  refine wpPlan_nil (hT.out _ _ ?_); clear hT T
  intro vw3 hg
  simp only [puts, Act.put, rA, rB, rC, rD, rE, ↓reduceIte, Nat.reduceEqDiff]
  have HG := Lib.hid (hg)
  clear hg
  replace BX0 := bG BX0 HG
  replace BX1 := rG BX1 HG
  have r0 := Gr.refl vw3
  go_wp2
  refine hK.out _ _ ?_; clear hK K
  show Code.wp _ _ _ _ _
  clear r0
  refine forgetW (fun w2 => NX w2 gx0 (n) ∧ Rn w2 (.slice ao1 nn1 cc1) (n) ∧ Below w.heap.size w w2) ⟨BX0.out, BX1.out, HB.out.trans (HG.out.mono HB.out.size)⟩ ?_
  clear HB HG BX0 BX1
  rintro Wx4 ⟨bx0, bx1, HB⟩
  replace HB := Lib.hid HB
  refine wp_seq ?_
  have BX0 := Lib.hid bx0
  have BX1 := Lib.hid bx1
  clear bx0 bx1
  refine sK fun K hK => ?_
  refine wp_region_seqplan 3 [(true, 0), (true, 1), (true, 2)] (by rfl) (by simp) (fun T hT => ?_)
  iterate 3 (refine wpPlan_takeL (v := ?_) rfl (by rfl) (fun w' hw => ?_) ?_; rotate_left; go_simp; with_reducible rfl; simp only [Act.put, rA, rB, rC])
  refine wpPlan_nil (hT.out _ _ ?_); clear hT T
  intro vw4 hg
  simp only [puts, Act.put, rA, rB, rC, rD, rE, ↓reduceIte, Nat.reduceEqDiff]
  have HG := Lib.hid (hg)
  clear hg
  replace BX0 := bG BX0 HG
  replace BX1 := rG BX1 HG
  have r0 := Gr.refl vw4
  go_wp2
  refine hK.out _ _ ?_; clear hK K
  show Code.wp _ _ _ _ _
  clear r0
  refine forgetW (fun w2 => NX w2 gx0 (n) ∧ Rn w2 (.slice ao1 nn1 cc1) (n) ∧ Below w.heap.size w w2) ⟨BX0.out, BX1.out, HB.out.trans (HG.out.mono HB.out.size)⟩ ?_
  clear HB HG BX0 BX1
  rintro Wx5 ⟨bx0, bx1, HB⟩
  replace HB := Lib.hid HB
  refine wp_cond_false (by rfl) ?_
  refine wp_skip ?_
  show Code.wp _ _ _ _ _
  have lx0 := bx0.cells
  have BX0 := Lib.hid bx0
  have BX1 := Lib.hid bx1
  clear bx0 bx1
  refine sK fun K hK => ?_
  refine wp_region_seqplan 27 [(true, 0), (true, 1), (true, 2), (true, 3), (true, 4), (true, 5), (true, 6), (true, 7), (true, 8), (true, 9), (true, 10), (true, 11), (true, 12), (true, 13), (true, 14), (true, 15), (true, 16), (true, 17), (true, 18), (true, 19), (true, 20), (true, 21), (true, 22), (true, 23), (true, 24), (true, 25), (true, 26)] (by rfl) (by simp) (fun T hT => ?_)
  iterate 4 (refine wpPlan_takeL (v := ?_) rfl (by rfl) (fun w' hw => ?_) ?_; rotate_left; go_simp; with_reducible rfl; simp only [Act.put, rA, rB, rC])
  refine wpPlan_callL rfl (by rfl) Tryd.call36 (fun w' hw => nztexts (n) s _ HTX.out (by omega) (Lib.hid (HT.out.gr (Gr.trans HB.out hw)))) (by rfl) ?_
  simp only [Act.put, rA, rB, rC]
  iterate 5 (refine wpPlan_takeL (v := ?_) rfl (by rfl) (fun w' hw => ?_) ?_; rotate_left; go_simp; with_reducible rfl; simp only [Act.put, rA, rB, rC])
  refine wpPlan_callL rfl (by rfl) Tryd.call37 (fun w' hw => zrtext _ (n) s _ HTX.out (BX1.out.gr hw) (by omega)) (by rfl) ?_
  simp only [Act.put, rA, rB, rC]
  iterate 4 (refine wpPlan_takeL (v := ?_) rfl (by rfl) (fun w' hw => ?_) ?_; rotate_left; go_simp; with_reducible rfl; simp only [Act.put, rA, rB, rC])
  iterate 7 (refine wpPlan_skipL rfl (by rfl) ?_; simp only [Act.put, rA, rB, rC])
  iterate 2 (refine wpPlan_takeL (v := ?_) rfl (by rfl) (fun w' hw => ?_) ?_; rotate_left; go_simp; with_reducible rfl; simp only [Act.put, rA, rB, rC])
  refine wpPlan_callL rfl (by rfl) Tryd.call12 (fun w' hw => works_any _ (Lib.hid (HT.out.gr (Gr.trans HB.out hw)))) (by rfl) ?_
  simp only [Act.put, rA, rB, rC]
  iterate 2 (refine wpPlan_takeL (v := ?_) rfl (by rfl) (fun w' hw => ?_) ?_; rotate_left; go_simp; with_reducible rfl; simp only [Act.put, rA, rB, rC])
  refine wpPlan_nil (hT.out _ _ ?_); clear hT T
  intro vw5 hg
  simp only [puts, Act.put, rA, rB, rC, rD, rE, ↓reduceIte, Nat.reduceEqDiff]
  clear lx0
  have HG := Lib.hid (hg)
  clear hg
  replace BX0 := bG BX0 HG
  replace BX1 := rG BX1 HG
  have r0 := Gr.refl vw5
  go_wp2
  refine hK.out _ _ ?_; clear hK K
  show Code.wp _ _ _ _ _
  clear r0
  refine forgetW (fun w2 => Below w.heap.size w w2) (HB.out.trans (HG.out.mono HB.out.size)) ?_
  clear HB HG BX0 BX1
  rintro Wx7 HB
  replace HB := Lib.hid HB
  refine wp_ret ?_
  try simp only [Exit.then, Exit.inBlock]
  have r0 := Gr.refl Wx7
  exact bodyPost_ret (v := .bool true) (by simp [results, Tryd.results6, go_sem]) rfl ⟨rfl, HB.out⟩

theorem pnum_lt (s : ByteArray) (L : Nat) (hL : L = 4096) : pnum s < 10 ^ L := by
  unfold pnum
  split
  · rename_i h
    obtain ⟨h1, h2, h3, h4⟩ := h
    rw [pv_lv]
    have := lv_lt s.data.toList (fun c hc => by
      obtain ⟨i, hi, rfl⟩ := List.getElem_of_mem hc
      have hi' : i < s.size := by simpa using hi
      rw [← byt_list s i hi']
      exact (h4 i hi').2)
    refine Nat.lt_of_lt_of_le this (Nat.pow_le_pow_right (by decide) ?_)
    rw [Array.length_toList, hL]
    exact h1
  · exact Nat.pow_pos (by decide)
theorem ten_tp (k : Nat) : (10 : Nat) ^ (4 * k) = tp k := Nat.pow_mul 10 4 k
theorem ten_bp (k : Nat) : (10 : Nat) ^ (8 * k) ≤ bp k := by
  unfold bp
  rw [Nat.pow_mul]
  exact Nat.pow_le_pow_left (by decide) k
theorem pnum_tp (s : ByteArray) (k : Nat) (h : 4 * k = 4096) : pnum s < tp k := by rw [← ten_tp k]; exact pnum_lt s _ h
theorem pnum_bp (s : ByteArray) (k : Nat) (h : 8 * k = 4096) : pnum s < bp k := Nat.lt_of_lt_of_le (pnum_lt s _ h) (ten_bp k)
theorem reads_law (s : ByteArray) (w : World) (hs : s.size ≤ 9223372036854775807) (HT : Hid (Tab w)) :
    Calls Tryd.prog 6 #[.string s] w fun e w' => e = .returned (.bool true) ∧ Below w.heap.size w w' := by
  by_cases h1 : 4200 < s.size
  · exact read_long s w h1 hs HT
  · by_cases h2 : 4096 < s.size
    · obtain ⟨c, n⟩ := pcode_limit h2
      exact read_far s w (by omega) (Lib.hid c) (Lib.hid n) HT
    · by_cases h3 : pgood s
      · obtain ⟨c, n⟩ := pcode_good (by omega) h3
        obtain ⟨n, hn⟩ : ∃ n, pnum s = n := ⟨_, rfl⟩
        have hd := dec_pnum s c
        have hlt := pnum_tp s 1024 rfl
        have hlt2 := pnum_bp s 512 rfl
        rw [hn] at hd hlt hlt2
        have hw : wl n ≤ 600 := Nat.le_trans (wl_le.2 hlt2) (by decide)
        have ht : tw n ≤ 1100 := Nat.le_trans (tw_le.2 hlt) (by decide)
        clear hlt hlt2
        exact read_good s n w (by omega) (Lib.hid c) (Lib.hid hn) (Lib.hid (by rw [hd])) hw ht HT
      · obtain ⟨c, n⟩ := pcode_bad (by omega) h3
        exact read_bad s w (by omega) (Lib.hid c) (Lib.hid n) HT

end Go.Proofs.YteenojfbnbkedaaDoor
