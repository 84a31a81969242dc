
/- NatsRoots: the law's walk. -/
import Derived.Test.YteenojfbnbkedaaDoorSh
import Derived.Test.YteenojfbnbkedaaDoorPlainN
namespace Go.Proofs.YteenojfbnbkedaaDoor
open Go.RowKit
set_option linter.unusedSimpArgs false
set_option linter.unusedVariables false
attribute [local go_sem ↓] Go.wp_at_zero Go.wp_at_succ
attribute [local go_sem ↓] eq_nat eq_nat_zero
set_option maxRecDepth 100000 in
set_option maxHeartbeats 4000000 in
theorem root_big (vx : Value) (kx : Nat) (fx : Nat → Nat) (a : Nat) (n : Int) (w : World) (HWx : Hid (Wa w vx kx fx)) (HFx : Hid (∀ i, i < kx → fx i < 4294967296)) (HVx : Hid (vl fx kx = a)) (hkx : 12 < kx) (HT : Hid (Tab w)) :
    Calls Tryd.prog 5 #[vx, .int .i64 (n)] w fun e w' => e = .returned (.bool true) ∧ Below w.heap.size w w' := by
  obtain ⟨ao_x, c_x, rfl⟩ := HWx.out.slice
  go_enter Tryd.func5, Tryd.ntmps5
  refine sK fun K hK => ?_
  refine wp_region_lit ?_
  go_wp2
  refine hK.out _ _ ?_; clear hK K
  show Code.wp _ _ _ _ _
  refine forgetW (fun w2 => Below w.heap.size w w2) (Below.refl _ _) ?_
  rintro Wx HB
  replace HB := Lib.hid HB
  refine wp_seq ?_
  have hd1 : 12 < ((kx : Int)) := by omega
  refine sK fun K hK => ?_
  refine wp_region_seqplan 3 [(true, 0), (true, 1), (true, 2)] (by rfl) (by simp) (fun T hT => ?_)
  iterate 3 (refine wpPlan_takeL (v := ?_) rfl (by rfl) (fun w' hw => ?_) ?_; rotate_left; go_simp; with_reducible rfl; simp only [Act.put, rA, rB, rC])
  refine wpPlan_nil (hT.out _ _ ?_); clear hT T
  intro vw1 hg
  simp only [puts, Act.put, rA, rB, rC, rD, rE, ↓reduceIte, Nat.reduceEqDiff]
  have HG := Lib.hid (hg)
  clear hg
  have r0 := Gr.refl vw1
  go_wp2
  refine hK.out _ _ ?_; clear hK K
  show Code.wp _ _ _ _ _
  clear r0
  refine forgetW (fun w2 => Below w.heap.size w w2) (HB.out.trans (HG.out.mono HB.out.size)) ?_
  clear HB HG
  rintro Wx1 HB
  replace HB := Lib.hid HB
  clear hd1
  refine wp_cond_true (by rfl) ?_
  refine sK fun K hK => ?_
  refine wp_region_seqplan 2 [(true, 0), (true, 1)] (by rfl) (by simp) (fun T hT => ?_)
  refine wpPlan_callL rfl (by rfl) Tryd.call12 (fun w' hw => works_any _ (Lib.hid (HT.out.gr (Gr.trans HB.out hw)))) (by rfl) ?_
  simp only [Act.put, rA, rB, rC]
  refine wpPlan_takeL (v := ?_) rfl (by rfl) (fun w' hw => ?_) ?_; rotate_left; go_simp; with_reducible rfl; simp only [Act.put, rA, rB, rC]
  refine wpPlan_nil (hT.out _ _ ?_); clear hT T
  intro vw2 hg
  simp only [puts, Act.put, rA, rB, rC, rD, rE, ↓reduceIte, Nat.reduceEqDiff]
  have HG := Lib.hid (hg)
  clear hg
  have r0 := Gr.refl vw2
  go_wp2
  refine hK.out _ _ ?_; clear hK K
  show Code.wp _ _ _ _ _
  clear r0
  refine forgetW (fun w2 => Below w.heap.size w w2) (HB.out.trans (HG.out.mono HB.out.size)) ?_
  clear HB HG
  rintro Wx2 HB
  replace HB := Lib.hid HB
  refine wp_ret ?_
  try simp only [Exit.then, Exit.inBlock]
  have r0 := Gr.refl Wx2
  exact bodyPost_ret (v := .bool true) (by simp [results, Tryd.results5, go_sem]) rfl ⟨rfl, HB.out⟩

set_option maxRecDepth 100000 in
set_option maxHeartbeats 4000000 in
theorem root_neg (vx : Value) (kx : Nat) (fx : Nat → Nat) (a : Nat) (n : Int) (q : Nat) (w : World) (HWx : Hid (Wa w vx kx fx)) (HFx : Hid (∀ i, i < kx → fx i < 4294967296)) (HVx : Hid (vl fx kx = a)) (HNB : Hid (nb a = q)) (hq : q ≤ 384) (hkx : kx ≤ 12) (hn : n < 0) (hn2 : -9223372036854775808 ≤ n) (HT : Hid (Tab w)) :
    Calls Tryd.prog 5 #[vx, .int .i64 (n)] w fun e w' => e = .returned (.bool true) ∧ Below w.heap.size w w' := by
  obtain ⟨ao_x, c_x, rfl⟩ := HWx.out.slice
  have hb_a : wl a ≤ 12 := by rw [← HVx.out]; have := wl_le.2 (vl_lt HFx.out); omega
  go_enter Tryd.func5, Tryd.ntmps5
  refine sK fun K hK => ?_
  refine wp_region_lit ?_
  go_wp2
  refine hK.out _ _ ?_; clear hK K
  show Code.wp _ _ _ _ _
  refine forgetW (fun w2 => Below w.heap.size w w2) (Below.refl _ _) ?_
  rintro Wx HB
  replace HB := Lib.hid HB
  refine wp_seq ?_
  have hd1 : ¬ (12 < ((kx : Int))) := by omega
  refine sK fun K hK => ?_
  refine wp_region_seqplan 3 [(true, 0), (true, 1), (true, 2)] (by rfl) (by simp) (fun T hT => ?_)
  iterate 3 (refine wpPlan_takeL (v := ?_) rfl (by rfl) (fun w' hw => ?_) ?_; rotate_left; go_simp; with_reducible rfl; simp only [Act.put, rA, rB, rC])
  refine wpPlan_nil (hT.out _ _ ?_); clear hT T
  intro vw1 hg
  simp only [puts, Act.put, rA, rB, rC, rD, rE, ↓reduceIte, Nat.reduceEqDiff]
  have HG := Lib.hid (hg)
  clear hg
  have r0 := Gr.refl vw1
  go_wp2
  refine hK.out _ _ ?_; clear hK K
  show Code.wp _ _ _ _ _
  clear r0
  refine forgetW (fun w2 => Below w.heap.size w w2) (HB.out.trans (HG.out.mono HB.out.size)) ?_
  clear HB HG
  rintro Wx1 HB
  replace HB := Lib.hid HB
  clear hd1
  refine wp_cond_false (by rfl) ?_
  refine wp_skip ?_
  show Code.wp _ _ _ _ _
  have su1 : tw a ≤ 36 := by rw [← HVx.out]; have := tw_wl (vl fx kx); have := wl_le.2 (vl_lt HFx.out); omega
  refine sK fun K hK => ?_
  have HS0 := Lib.hid (HB.out.size)
  refine wp_region_seqplan 4 [(true, 0), (true, 1), (true, 2), (false, 3)] (by rfl) (by simp) (fun T hT => ?_)
  refine wpPlan_takeL (v := ?_) rfl (by rfl) (fun w' hw => ?_) ?_; rotate_left; go_simp; with_reducible rfl; simp only [Act.put, rA, rB, rC]
  refine wpPlan_callL rfl (by rfl) Tryd.call13 (fun w' hw => zmade _ kx fx a w _ HVx.out (by omega) HWx.out (Gr.trans HB.out hw) HFx.out) (by rfl) ?_
  simp only [Act.put, rA, rB, rC]
  refine wpPlan_takeL (v := ?_) rfl (by rfl) (fun w' hw => ?_) ?_; rotate_left; go_simp; with_reducible rfl; simp only [Act.put, rA, rB, rC]
  refine wpPlan_callE rfl (by rfl) Tryd.call14 (by rfl) (fun w' hw => (zrofw _ kx fx a w _ HVx.out (by omega) HWx.out (Gr.trans HB.out hw) HFx.out).mono ?_)
  rintro e vv1 ⟨⟨rv1, rfl, bx0⟩, hg0⟩
  obtain ⟨ao1, nn1, cc1, rfl⟩ := Rn.sl bx0
  refine ⟨_, rfl, hg0, ?_⟩
  replace hg0 := Gr.trans hw hg0; clear hw
  have HG0 := Lib.hid hg0; clear hg0
  replace HB := Lib.hid (HB.out.trans (HG0.out.mono HB.out.size))
  have BX0 := Lib.hid bx0; clear bx0
  clear HG0
  simp only [Act.put, rA, rB, rC]
  refine wpPlan_nil (hT.out _ _ ?_); clear hT T
  intro vw2 hg
  simp only [puts, Act.put, rA, rB, rC, rD, rE, ↓reduceIte, Nat.reduceEqDiff]
  have HG := Lib.hid (hg)
  clear hg
  replace BX0 := rG BX0 HG
  have r0 := Gr.refl vw2
  go_wp2
  refine hK.out _ _ ?_; clear hK K
  show Code.wp _ _ _ _ _
  clear r0
  have hsz : w.heap.size ≤ vw2.heap.size := Nat.le_trans HB.out.size HG.out.size
  refine forgetW (fun w2 => Rn w2 (.slice ao1 nn1 cc1) (a) ∧ NX w2 (vw2.heap.size) (a) ∧ Below w.heap.size w w2) ⟨(BX0.out).alloc _, (Bx.at (by simp) : Bx _ (vw2.heap.size) _ _), (HB.out.trans (HG.out.mono HB.out.size)).alloc (by first | omega | (simp; omega)) _⟩ ?_
  clear HB HG BX0
  rintro Wx3 ⟨bx0, bx1, HB⟩
  replace HB := Lib.hid HB
  have yx1 : w.heap.size ≤ vw2.heap.size := by omega
  generalize hx1 : vw2.heap.size = gx1 at *
  clear hx1
  clear hsz
  refine wp_seq ?_
  obtain ⟨u2, HZ2⟩ : ∃ z, Hid (rt (a) = z) := ⟨_, Lib.hid rfl⟩
  have su2 : wl (u2) ≤ 12 := by rw [← HZ2.out]; have := wl_mono (rt_self (a)); omega
  have HZ3 : Hid (rt (a) = u2) := Lib.hid (by first | omega | (try simp only [← HZ2.out]) <;> first | rfl | omega | (simp; done) | exact Nat.div_add_mod' _ _ | grind)
  have su3 : tw (u2) ≤ 36 := by have e := HZ3.out; first | omega | (rw [← e]; have := tw_mono (rt_self (a)); omega)
  have lx1 := bx1.cells
  have BX0 := Lib.hid bx0
  have BX1 := Lib.hid bx1
  clear bx0 bx1
  refine sK fun K hK => ?_
  have HS0 := Lib.hid (HB.out.size)
  have MX1 : gx1 < Wx3.heap.size := BX1.out.lt
  refine wp_region_seqplan 13 [(true, 0), (true, 1), (true, 2), (false, 3), (true, 4), (true, 5), (true, 6), (true, 7), (true, 8), (true, 9), (true, 10), (true, 11), (true, 12)] (by rfl) (by simp) (fun T hT => ?_)
  refine wpPlan_takeL (v := ?_) rfl (by rfl) (fun w' hw => ?_) ?_; rotate_left; go_simp; with_reducible rfl; simp only [Act.put, rA, rB, rC]
  refine wpPlan_callL rfl (by rfl) Tryd.call28 (fun w' hw => nzsqrt (a) (u2) _ HZ2.out (by omega)) (by rfl) ?_
  simp only [Act.put, rA, rB, rC]
  refine wpPlan_takeL (v := ?_) rfl (by rfl) (fun w' hw => ?_) ?_; rotate_left; go_simp; with_reducible rfl; simp only [Act.put, rA, rB, rC]
  refine wpPlan_callE rfl (by rfl) Tryd.call29 (by rfl) (fun w' hw => (zrsqrt _ (a) (u2) _ HZ3.out (BX0.out.gr hw) (by omega)).mono ?_)
  rintro e vv1 ⟨⟨rv2, rfl, bx2⟩, hg0⟩
  obtain ⟨ao2, nn2, cc2, rfl⟩ := Rn.sl bx2
  refine ⟨_, rfl, hg0, ?_⟩
  replace hg0 := Gr.trans hw hg0; clear hw
  have HG0 := Lib.hid hg0; clear hg0
  replace BX0 := rG BX0 HG0
  replace BX1 := bG BX1 HG0
  replace HB := Lib.hid (HB.out.trans (HG0.out.mono HB.out.size))
  have BX2 := Lib.hid bx2; clear bx2
  clear HG0
  clear lx1; have lx1 := BX1.out.cells
  simp only [Act.put, rA, rB, rC]
  refine wpPlan_callL rfl (by rfl) Tryd.call17 (fun w' hw => same_any (u2) (u2) _ _ (rfl) (BX2.out.gr hw) (by omega) (by omega) (Lib.hid (HT.out.gr (Gr.trans HB.out hw)))) (by rfl) ?_
  simp only [Act.put, rA, rB, rC]
  iterate 3 (refine wpPlan_takeL (v := ?_) rfl (by rfl) (fun w' hw => ?_) ?_; rotate_left; go_simp; with_reducible rfl; simp only [Act.put, rA, rB, rC])
  refine wpPlan_callL rfl (by rfl) Tryd.call30 (fun w' hw => nzbits (a) q _ HNB.out (by omega)) (by rfl) ?_
  simp only [Act.put, rA, rB, rC]
  refine wpPlan_takeL (v := ?_) rfl (by rfl) (fun w' hw => ?_) ?_; rotate_left; go_simp; with_reducible rfl; simp only [Act.put, rA, rB, rC]
  refine wpPlan_callL rfl (by rfl) Tryd.call31 (fun w' hw => zrbits _ (a) q _ HNB.out (BX0.out.gr hw) (by omega)) (by rfl) ?_
  simp only [Act.put, rA, rB, rC]
  iterate 2 (refine wpPlan_takeL (v := ?_) rfl (by rfl) (fun w' hw => ?_) ?_; rotate_left; go_simp; with_reducible rfl; simp only [Act.put, rA, rB, rC])
  refine wpPlan_nil (hT.out _ _ ?_); clear hT T
  intro vw3 hg
  simp only [puts, Act.put, rA, rB, rC, rD, rE, ↓reduceIte, Nat.reduceEqDiff]
  clear lx1
  have HG := Lib.hid (hg)
  clear hg
  replace BX0 := rG BX0 HG
  replace BX1 := bG BX1 HG
  replace BX2 := rG BX2 HG
  have r0 := Gr.refl vw3
  go_wp2
  refine hK.out _ _ ?_; clear hK K
  show Code.wp _ _ _ _ _
  clear r0
  refine forgetW (fun w2 => Rn w2 (.slice ao1 nn1 cc1) (a) ∧ NX w2 gx1 (a) ∧ Below w.heap.size w w2) ⟨BX0.out, BX1.out, HB.out.trans (HG.out.mono HB.out.size)⟩ ?_
  clear HB HG BX0 BX1 BX2
  rintro Wx4 ⟨bx0, bx1, HB⟩
  replace HB := Lib.hid HB
  refine wp_cond_false (by rfl) ?_
  refine wp_skip ?_
  show Code.wp _ _ _ _ _
  have hd2 : ¬ (0 < n) := by omega
  have BX0 := Lib.hid bx0
  have BX1 := Lib.hid bx1
  clear bx0 bx1
  refine sK fun K hK => ?_
  refine wp_region_seqplan 14 [(true, 0), (true, 1), (true, 2), (true, 3), (true, 4), (true, 5), (true, 6), (true, 7), (true, 8), (true, 9), (true, 10), (true, 11), (true, 12), (true, 13)] (by rfl) (by simp) (fun T hT => ?_)
  iterate 3 (refine wpPlan_takeL (v := ?_) rfl (by rfl) (fun w' hw => ?_) ?_; rotate_left; go_simp; with_reducible rfl; simp only [Act.put, rA, rB, rC])
  iterate 2 (refine wpPlan_skipL rfl (by rfl) ?_; simp only [Act.put, rA, rB, rC])
  iterate 2 (refine wpPlan_takeL (v := ?_) rfl (by rfl) (fun w' hw => ?_) ?_; rotate_left; go_simp; with_reducible rfl; simp only [Act.put, rA, rB, rC])
  iterate 5 (refine wpPlan_skipL rfl (by rfl) ?_; simp only [Act.put, rA, rB, rC])
  iterate 2 (refine wpPlan_takeL (v := ?_) rfl (by rfl) (fun w' hw => ?_) ?_; rotate_left; go_simp; with_reducible rfl; simp only [Act.put, rA, rB, rC])
  refine wpPlan_nil (hT.out _ _ ?_); clear hT T
  intro vw4 hg
  simp only [puts, Act.put, rA, rB, rC, rD, rE, ↓reduceIte, Nat.reduceEqDiff]
  have HG := Lib.hid (hg)
  clear hg
  replace BX0 := rG BX0 HG
  replace BX1 := bG BX1 HG
  have r0 := Gr.refl vw4
  go_wp2
  refine hK.out _ _ ?_; clear hK K
  show Code.wp _ _ _ _ _
  clear r0
  refine forgetW (fun w2 => Rn w2 (.slice ao1 nn1 cc1) (a) ∧ NX w2 gx1 (a) ∧ Below w.heap.size w w2) ⟨BX0.out, BX1.out, HB.out.trans (HG.out.mono HB.out.size)⟩ ?_
  clear HB HG BX0 BX1
  rintro Wx6 ⟨bx0, bx1, HB⟩
  replace HB := Lib.hid HB
  clear hd2
  refine wp_seq ?_
  have hd3 : ¬ (20 < n) := by omega
  have hd4 : ¬ (0 ≤ n) := by omega
  have BX0 := Lib.hid bx0
  have BX1 := Lib.hid bx1
  clear bx0 bx1
  refine sK fun K hK => ?_
  refine wp_region_seqplan 23 [(true, 0), (true, 1), (true, 2), (true, 3), (true, 4), (true, 5), (true, 6), (true, 7), (true, 8), (true, 9), (true, 10), (true, 11), (true, 12), (true, 13), (true, 14), (true, 15), (true, 16), (true, 17), (true, 18), (true, 19), (true, 20), (true, 21), (true, 22)] (by rfl) (by simp) (fun T hT => ?_)
  iterate 6 (refine wpPlan_takeL (v := ?_) rfl (by rfl) (fun w' hw => ?_) ?_; rotate_left; go_simp; with_reducible rfl; simp only [Act.put, rA, rB, rC])
  iterate 2 (refine wpPlan_skipL rfl (by rfl) ?_; simp only [Act.put, rA, rB, rC])
  iterate 5 (refine wpPlan_takeL (v := ?_) rfl (by rfl) (fun w' hw => ?_) ?_; rotate_left; go_simp; with_reducible rfl; simp only [Act.put, rA, rB, rC])
  iterate 2 (refine wpPlan_skipL rfl (by rfl) ?_; simp only [Act.put, rA, rB, rC])
  iterate 2 (refine wpPlan_takeL (v := ?_) rfl (by rfl) (fun w' hw => ?_) ?_; rotate_left; go_simp; with_reducible rfl; simp only [Act.put, rA, rB, rC])
  iterate 3 (refine wpPlan_skipL rfl (by rfl) ?_; simp only [Act.put, rA, rB, rC])
  iterate 3 (refine wpPlan_takeL (v := ?_) rfl (by rfl) (fun w' hw => ?_) ?_; rotate_left; go_simp; with_reducible rfl; simp only [Act.put, rA, rB, rC])
  refine wpPlan_nil (hT.out _ _ ?_); clear hT T
  intro vw5 hg
  simp only [puts, Act.put, rA, rB, rC, rD, rE, ↓reduceIte, Nat.reduceEqDiff]
  have HG := Lib.hid (hg)
  clear hg
  replace BX0 := rG BX0 HG
  replace BX1 := bG BX1 HG
  have r0 := Gr.refl vw5
  go_wp2
  refine hK.out _ _ ?_; clear hK K
  show Code.wp _ _ _ _ _
  clear r0
  refine forgetW (fun w2 => Rn w2 (.slice ao1 nn1 cc1) (a) ∧ NX w2 gx1 (a) ∧ Below w.heap.size w w2) ⟨BX0.out, BX1.out, HB.out.trans (HG.out.mono HB.out.size)⟩ ?_
  clear HB HG BX0 BX1
  rintro Wx7 ⟨bx0, bx1, HB⟩
  replace HB := Lib.hid HB
  clear hd3 hd4
  refine wp_cond_false (by rfl) ?_
  refine wp_skip ?_
  show Code.wp _ _ _ _ _
  have lx1 := bx1.cells
  have BX0 := Lib.hid bx0
  have BX1 := Lib.hid bx1
  clear bx0 bx1
  refine sK fun K hK => ?_
  refine wp_region_seqplan 6 [(true, 0), (true, 1), (true, 2), (true, 3), (true, 4), (true, 5)] (by rfl) (by simp) (fun T hT => ?_)
  iterate 2 (refine wpPlan_takeL (v := ?_) rfl (by rfl) (fun w' hw => ?_) ?_; rotate_left; go_simp; with_reducible rfl; simp only [Act.put, rA, rB, rC])
  refine wpPlan_callL rfl (by rfl) Tryd.call32 (fun w' hw => pow_neg (a) (n) _ (by omega) (by omega)) (by rfl) ?_
  simp only [Act.put, rA, rB, rC]
  iterate 3 (refine wpPlan_takeL (v := ?_) rfl (by rfl) (fun w' hw => ?_) ?_; rotate_left; go_simp; with_reducible rfl; simp only [Act.put, rA, rB, rC])
  refine wpPlan_nil (hT.out _ _ ?_); clear hT T
  intro vw6 hg
  simp only [puts, Act.put, rA, rB, rC, rD, rE, ↓reduceIte, Nat.reduceEqDiff]
  clear lx1
  have HG := Lib.hid (hg)
  clear hg
  replace BX0 := rG BX0 HG
  replace BX1 := bG BX1 HG
  have r0 := Gr.refl vw6
  go_wp2
  refine hK.out _ _ ?_; clear hK K
  show Code.wp _ _ _ _ _
  clear r0
  have hsz : w.heap.size ≤ vw6.heap.size := Nat.le_trans HB.out.size HG.out.size
  have mx1 : gx1 < vw6.heap.size := BX1.out.lt
  refine forgetW (fun w2 => Rn w2 (.slice ao1 nn1 cc1) (a) ∧ NX w2 (vw6.heap.size) (0) ∧ Below w.heap.size w w2) ⟨(BX0.out).alloc _, (Bx.at (by simp) : Bx _ (vw6.heap.size) _ _), (HB.out.trans (HG.out.mono HB.out.size)).alloc (by first | omega | (simp; omega)) _⟩ ?_
  clear HB HG BX0 BX1
  rintro Wx9 ⟨bx0, bx3, HB⟩
  replace HB := Lib.hid HB
  have yx3 : w.heap.size ≤ vw6.heap.size := by omega
  have qx1_3 : gx1 < vw6.heap.size := by omega
  generalize hx3 : vw6.heap.size = gx3 at *
  clear hx3
  clear hsz mx1
  refine wp_seq ?_
  refine wp_block ?_
  have hd5 : n < 0 := by omega
  have BX0 := Lib.hid bx0
  have BX3 := Lib.hid bx3
  clear bx0 bx3
  refine sK fun K hK => ?_
  refine wp_region_seqplan 3 [(true, 0), (true, 1), (true, 2)] (by rfl) (by simp) (fun T hT => ?_)
  iterate 3 (refine wpPlan_takeL (v := ?_) rfl (by rfl) (fun w' hw => ?_) ?_; rotate_left; go_simp; with_reducible rfl; simp only [Act.put, rA, rB, rC])
  refine wpPlan_nil (hT.out _ _ ?_); clear hT T
  intro vw7 hg
  simp only [puts, Act.put, rA, rB, rC, rD, rE, ↓reduceIte, Nat.reduceEqDiff]
  have HG := Lib.hid (hg)
  clear hg
  replace BX0 := rG BX0 HG
  replace BX3 := bG BX3 HG
  have r0 := Gr.refl vw7
  go_wp2
  refine hK.out _ _ ?_; clear hK K
  show Code.wp _ _ _ _ _
  clear r0
  refine forgetW (fun w2 => Rn w2 (.slice ao1 nn1 cc1) (a) ∧ NX w2 gx3 (0) ∧ Below w.heap.size w w2) ⟨BX0.out, BX3.out, HB.out.trans (HG.out.mono HB.out.size)⟩ ?_
  clear HB HG BX0 BX3
  rintro Wx10 ⟨bx0, bx3, HB⟩
  replace HB := Lib.hid HB
  clear hd5
  refine wp_cond_true (by rfl) ?_
  have lx3 := bx3.cells
  have BX0 := Lib.hid bx0
  have BX3 := Lib.hid bx3
  clear bx0 bx3
  refine sK fun K hK => ?_
  refine wp_region_seqplan 11 [(true, 0), (true, 1), (true, 2), (true, 3), (true, 4), (true, 5), (true, 6), (true, 7), (true, 8), (true, 9), (true, 10)] (by rfl) (by simp) (fun T hT => ?_)
  iterate 8 (refine wpPlan_takeL (v := ?_) rfl (by rfl) (fun w' hw => ?_) ?_; rotate_left; go_simp; with_reducible rfl; simp only [Act.put, rA, rB, rC])
  refine wpPlan_callL rfl (by rfl) Tryd.call12 (fun w' hw => works_any _ (Lib.hid (HT.out.gr (Gr.trans HB.out hw)))) (by rfl) ?_
  simp only [Act.put, rA, rB, rC]
  iterate 2 (refine wpPlan_takeL (v := ?_) rfl (by rfl) (fun w' hw => ?_) ?_; rotate_left; go_simp; with_reducible rfl; simp only [Act.put, rA, rB, rC])
  refine wpPlan_nil (hT.out _ _ ?_); clear hT T
  intro vw8 hg
  simp only [puts, Act.put, rA, rB, rC, rD, rE, ↓reduceIte, Nat.reduceEqDiff]
  clear lx3
  have HG := Lib.hid (hg)
  clear hg
  replace BX0 := rG BX0 HG
  replace BX3 := bG BX3 HG
  have r0 := Gr.refl vw8
  go_wp2
  refine hK.out _ _ ?_; clear hK K
  show Code.wp _ _ _ _ _
  clear r0
  refine forgetW (fun w2 => Rn w2 (.slice ao1 nn1 cc1) (a) ∧ NX w2 gx3 (0) ∧ Below w.heap.size w w2) ⟨BX0.out, BX3.out, HB.out.trans (HG.out.mono HB.out.size)⟩ ?_
  clear HB HG BX0 BX3
  rintro Wx11 ⟨bx0, bx3, HB⟩
  replace HB := Lib.hid HB
  refine wp_ret ?_
  try simp only [Exit.then, Exit.inBlock]
  have r0 := Gr.refl Wx11
  exact bodyPost_ret (v := .bool true) (by simp [results, Tryd.results5, go_sem]) rfl ⟨rfl, HB.out⟩

set_option maxRecDepth 100000 in
set_option maxHeartbeats 4000000 in
theorem root_far (vx : Value) (kx : Nat) (fx : Nat → Nat) (a : Nat) (n : Int) (q : Nat) (w : World) (HWx : Hid (Wa w vx kx fx)) (HFx : Hid (∀ i, i < kx → fx i < 4294967296)) (HVx : Hid (vl fx kx = a)) (HNB : Hid (nb a = q)) (hq : q ≤ 384) (hkx : kx ≤ 12) (hn : 4096 < n) (hn2 : n ≤ 9223372036854775807) (HT : Hid (Tab w)) :
    Calls Tryd.prog 5 #[vx, .int .i64 ((n : Int))] w fun e w' => e = .returned (.bool true) ∧ Below w.heap.size w w' := by
  obtain ⟨ao_x, c_x, rfl⟩ := HWx.out.slice
  have hb_a : wl a ≤ 12 := by rw [← HVx.out]; have := wl_le.2 (vl_lt HFx.out); omega
  go_enter Tryd.func5, Tryd.ntmps5
  refine sK fun K hK => ?_
  refine wp_region_lit ?_
  go_wp2
  refine hK.out _ _ ?_; clear hK K
  show Code.wp _ _ _ _ _
  refine forgetW (fun w2 => Below w.heap.size w w2) (Below.refl _ _) ?_
  rintro Wx HB
  replace HB := Lib.hid HB
  refine wp_seq ?_
  have hd1 : ¬ (12 < ((kx : Int))) := by omega
  refine sK fun K hK => ?_
  refine wp_region_seqplan 3 [(true, 0), (true, 1), (true, 2)] (by rfl) (by simp) (fun T hT => ?_)
  iterate 3 (refine wpPlan_takeL (v := ?_) rfl (by rfl) (fun w' hw => ?_) ?_; rotate_left; go_simp; with_reducible rfl; simp only [Act.put, rA, rB, rC])
  refine wpPlan_nil (hT.out _ _ ?_); clear hT T
  intro vw1 hg
  simp only [puts, Act.put, rA, rB, rC, rD, rE, ↓reduceIte, Nat.reduceEqDiff]
  have HG := Lib.hid (hg)
  clear hg
  have r0 := Gr.refl vw1
  go_wp2
  refine hK.out _ _ ?_; clear hK K
  show Code.wp _ _ _ _ _
  clear r0
  refine forgetW (fun w2 => Below w.heap.size w w2) (HB.out.trans (HG.out.mono HB.out.size)) ?_
  clear HB HG
  rintro Wx1 HB
  replace HB := Lib.hid HB
  clear hd1
  refine wp_cond_false (by rfl) ?_
  refine wp_skip ?_
  show Code.wp _ _ _ _ _
  have su1 : tw a ≤ 36 := by rw [← HVx.out]; have := tw_wl (vl fx kx); have := wl_le.2 (vl_lt HFx.out); omega
  refine sK fun K hK => ?_
  have HS0 := Lib.hid (HB.out.size)
  refine wp_region_seqplan 4 [(true, 0), (true, 1), (true, 2), (false, 3)] (by rfl) (by simp) (fun T hT => ?_)
  refine wpPlan_takeL (v := ?_) rfl (by rfl) (fun w' hw => ?_) ?_; rotate_left; go_simp; with_reducible rfl; simp only [Act.put, rA, rB, rC]
  refine wpPlan_callL rfl (by rfl) Tryd.call13 (fun w' hw => zmade _ kx fx a w _ HVx.out (by omega) HWx.out (Gr.trans HB.out hw) HFx.out) (by rfl) ?_
  simp only [Act.put, rA, rB, rC]
  refine wpPlan_takeL (v := ?_) rfl (by rfl) (fun w' hw => ?_) ?_; rotate_left; go_simp; with_reducible rfl; simp only [Act.put, rA, rB, rC]
  refine wpPlan_callE rfl (by rfl) Tryd.call14 (by rfl) (fun w' hw => (zrofw _ kx fx a w _ HVx.out (by omega) HWx.out (Gr.trans HB.out hw) HFx.out).mono ?_)
  rintro e vv1 ⟨⟨rv1, rfl, bx0⟩, hg0⟩
  obtain ⟨ao1, nn1, cc1, rfl⟩ := Rn.sl bx0
  refine ⟨_, rfl, hg0, ?_⟩
  replace hg0 := Gr.trans hw hg0; clear hw
  have HG0 := Lib.hid hg0; clear hg0
  replace HB := Lib.hid (HB.out.trans (HG0.out.mono HB.out.size))
  have BX0 := Lib.hid bx0; clear bx0
  clear HG0
  simp only [Act.put, rA, rB, rC]
  refine wpPlan_nil (hT.out _ _ ?_); clear hT T
  intro vw2 hg
  simp only [puts, Act.put, rA, rB, rC, rD, rE, ↓reduceIte, Nat.reduceEqDiff]
  have HG := Lib.hid (hg)
  clear hg
  replace BX0 := rG BX0 HG
  have r0 := Gr.refl vw2
  go_wp2
  refine hK.out _ _ ?_; clear hK K
  show Code.wp _ _ _ _ _
  clear r0
  have hsz : w.heap.size ≤ vw2.heap.size := Nat.le_trans HB.out.size HG.out.size
  refine forgetW (fun w2 => Rn w2 (.slice ao1 nn1 cc1) (a) ∧ NX w2 (vw2.heap.size) (a) ∧ Below w.heap.size w w2) ⟨(BX0.out).alloc _, (Bx.at (by simp) : Bx _ (vw2.heap.size) _ _), (HB.out.trans (HG.out.mono HB.out.size)).alloc (by first | omega | (simp; omega)) _⟩ ?_
  clear HB HG BX0
  rintro Wx3 ⟨bx0, bx1, HB⟩
  replace HB := Lib.hid HB
  have yx1 : w.heap.size ≤ vw2.heap.size := by omega
  generalize hx1 : vw2.heap.size = gx1 at *
  clear hx1
  clear hsz
  refine wp_seq ?_
  obtain ⟨u2, HZ2⟩ : ∃ z, Hid (rt (a) = z) := ⟨_, Lib.hid rfl⟩
  have su2 : wl (u2) ≤ 12 := by rw [← HZ2.out]; have := wl_mono (rt_self (a)); omega
  have HZ3 : Hid (rt (a) = u2) := Lib.hid (by first | omega | (try simp only [← HZ2.out]) <;> first | rfl | omega | (simp; done) | exact Nat.div_add_mod' _ _ | grind)
  have su3 : tw (u2) ≤ 36 := by have e := HZ3.out; first | omega | (rw [← e]; have := tw_mono (rt_self (a)); omega)
  have lx1 := bx1.cells
  have BX0 := Lib.hid bx0
  have BX1 := Lib.hid bx1
  clear bx0 bx1
  refine sK fun K hK => ?_
  have HS0 := Lib.hid (HB.out.size)
  have MX1 : gx1 < Wx3.heap.size := BX1.out.lt
  refine wp_region_seqplan 13 [(true, 0), (true, 1), (true, 2), (false, 3), (true, 4), (true, 5), (true, 6), (true, 7), (true, 8), (true, 9), (true, 10), (true, 11), (true, 12)] (by rfl) (by simp) (fun T hT => ?_)
  refine wpPlan_takeL (v := ?_) rfl (by rfl) (fun w' hw => ?_) ?_; rotate_left; go_simp; with_reducible rfl; simp only [Act.put, rA, rB, rC]
  refine wpPlan_callL rfl (by rfl) Tryd.call28 (fun w' hw => nzsqrt (a) (u2) _ HZ2.out (by omega)) (by rfl) ?_
  simp only [Act.put, rA, rB, rC]
  refine wpPlan_takeL (v := ?_) rfl (by rfl) (fun w' hw => ?_) ?_; rotate_left; go_simp; with_reducible rfl; simp only [Act.put, rA, rB, rC]
  refine wpPlan_callE rfl (by rfl) Tryd.call29 (by rfl) (fun w' hw => (zrsqrt _ (a) (u2) _ HZ3.out (BX0.out.gr hw) (by omega)).mono ?_)
  rintro e vv1 ⟨⟨rv2, rfl, bx2⟩, hg0⟩
  obtain ⟨ao2, nn2, cc2, rfl⟩ := Rn.sl bx2
  refine ⟨_, rfl, hg0, ?_⟩
  replace hg0 := Gr.trans hw hg0; clear hw
  have HG0 := Lib.hid hg0; clear hg0
  replace BX0 := rG BX0 HG0
  replace BX1 := bG BX1 HG0
  replace HB := Lib.hid (HB.out.trans (HG0.out.mono HB.out.size))
  have BX2 := Lib.hid bx2; clear bx2
  clear HG0
  clear lx1; have lx1 := BX1.out.cells
  simp only [Act.put, rA, rB, rC]
  refine wpPlan_callL rfl (by rfl) Tryd.call17 (fun w' hw => same_any (u2) (u2) _ _ (rfl) (BX2.out.gr hw) (by omega) (by omega) (Lib.hid (HT.out.gr (Gr.trans HB.out hw)))) (by rfl) ?_
  simp only [Act.put, rA, rB, rC]
  iterate 3 (refine wpPlan_takeL (v := ?_) rfl (by rfl) (fun w' hw => ?_) ?_; rotate_left; go_simp; with_reducible rfl; simp only [Act.put, rA, rB, rC])
  refine wpPlan_callL rfl (by rfl) Tryd.call30 (fun w' hw => nzbits (a) q _ HNB.out (by omega)) (by rfl) ?_
  simp only [Act.put, rA, rB, rC]
  refine wpPlan_takeL (v := ?_) rfl (by rfl) (fun w' hw => ?_) ?_; rotate_left; go_simp; with_reducible rfl; simp only [Act.put, rA, rB, rC]
  refine wpPlan_callL rfl (by rfl) Tryd.call31 (fun w' hw => zrbits _ (a) q _ HNB.out (BX0.out.gr hw) (by omega)) (by rfl) ?_
  simp only [Act.put, rA, rB, rC]
  iterate 2 (refine wpPlan_takeL (v := ?_) rfl (by rfl) (fun w' hw => ?_) ?_; rotate_left; go_simp; with_reducible rfl; simp only [Act.put, rA, rB, rC])
  refine wpPlan_nil (hT.out _ _ ?_); clear hT T
  intro vw3 hg
  simp only [puts, Act.put, rA, rB, rC, rD, rE, ↓reduceIte, Nat.reduceEqDiff]
  clear lx1
  have HG := Lib.hid (hg)
  clear hg
  replace BX0 := rG BX0 HG
  replace BX1 := bG BX1 HG
  replace BX2 := rG BX2 HG
  have r0 := Gr.refl vw3
  go_wp2
  refine hK.out _ _ ?_; clear hK K
  show Code.wp _ _ _ _ _
  clear r0
  refine forgetW (fun w2 => Rn w2 (.slice ao1 nn1 cc1) (a) ∧ NX w2 gx1 (a) ∧ Below w.heap.size w w2) ⟨BX0.out, BX1.out, HB.out.trans (HG.out.mono HB.out.size)⟩ ?_
  clear HB HG BX0 BX1 BX2
  rintro Wx4 ⟨bx0, bx1, HB⟩
  replace HB := Lib.hid HB
  refine wp_cond_false (by rfl) ?_
  refine wp_skip ?_
  show Code.wp _ _ _ _ _
  have hd2 : 0 < ((n : Int)) := by omega
  have hd3 : 0 < n := by have e := hd2; omega
  have hd4 : ¬ (((n : Int)) ≤ 4096) := by omega
  have BX0 := Lib.hid bx0
  have BX1 := Lib.hid bx1
  clear bx0 bx1
  refine sK fun K hK => ?_
  refine wp_region_seqplan 14 [(true, 0), (true, 1), (true, 2), (true, 3), (true, 4), (true, 5), (true, 6), (true, 7), (true, 8), (true, 9), (true, 10), (true, 11), (true, 12), (true, 13)] (by rfl) (by simp) (fun T hT => ?_)
  iterate 7 (refine wpPlan_takeL (v := ?_) rfl (by rfl) (fun w' hw => ?_) ?_; rotate_left; go_simp; with_reducible rfl; simp only [Act.put, rA, rB, rC])
  iterate 5 (refine wpPlan_skipL rfl (by rfl) ?_; simp only [Act.put, rA, rB, rC])
  iterate 2 (refine wpPlan_takeL (v := ?_) rfl (by rfl) (fun w' hw => ?_) ?_; rotate_left; go_simp; with_reducible rfl; simp only [Act.put, rA, rB, rC])
  refine wpPlan_nil (hT.out _ _ ?_); clear hT T
  intro vw4 hg
  simp only [puts, Act.put, rA, rB, rC, rD, rE, ↓reduceIte, Nat.reduceEqDiff]
  have HG := Lib.hid (hg)
  clear hg
  replace BX0 := rG BX0 HG
  replace BX1 := bG BX1 HG
  have r0 := Gr.refl vw4
  go_wp2
  refine hK.out _ _ ?_; clear hK K
  show Code.wp _ _ _ _ _
  clear r0
  refine forgetW (fun w2 => Rn w2 (.slice ao1 nn1 cc1) (a) ∧ NX w2 gx1 (a) ∧ Below w.heap.size w w2) ⟨BX0.out, BX1.out, HB.out.trans (HG.out.mono HB.out.size)⟩ ?_
  clear HB HG BX0 BX1
  rintro Wx6 ⟨bx0, bx1, HB⟩
  replace HB := Lib.hid HB
  clear hd2 hd3 hd4
  refine wp_seq ?_
  have hd5 : 20 < ((n : Int)) := by omega
  have hd6 : ¬ (((n : Int)) ≤ 4096) := by omega
  have hd7 : 0 ≤ ((n : Int)) := by omega
  have hd8 : 0 ≤ n := by have e := hd7; omega
  have hd9 : ¬ (((n : Int)) ≤ 4096) := by omega
  have BX0 := Lib.hid bx0
  have BX1 := Lib.hid bx1
  clear bx0 bx1
  refine sK fun K hK => ?_
  refine wp_region_seqplan 23 [(true, 0), (true, 1), (true, 2), (true, 3), (true, 4), (true, 5), (true, 6), (true, 7), (true, 8), (true, 9), (true, 10), (true, 11), (true, 12), (true, 13), (true, 14), (true, 15), (true, 16), (true, 17), (true, 18), (true, 19), (true, 20), (true, 21), (true, 22)] (by rfl) (by simp) (fun T hT => ?_)
  iterate 17 (refine wpPlan_takeL (v := ?_) rfl (by rfl) (fun w' hw => ?_) ?_; rotate_left; go_simp; with_reducible rfl; simp only [Act.put, rA, rB, rC])
  iterate 3 (refine wpPlan_skipL rfl (by rfl) ?_; simp only [Act.put, rA, rB, rC])
  iterate 3 (refine wpPlan_takeL (v := ?_) rfl (by rfl) (fun w' hw => ?_) ?_; rotate_left; go_simp; with_reducible rfl; simp only [Act.put, rA, rB, rC])
  refine wpPlan_nil (hT.out _ _ ?_); clear hT T
  intro vw5 hg
  simp only [puts, Act.put, rA, rB, rC, rD, rE, ↓reduceIte, Nat.reduceEqDiff]
  have HG := Lib.hid (hg)
  clear hg
  replace BX0 := rG BX0 HG
  replace BX1 := bG BX1 HG
  have r0 := Gr.refl vw5
  go_wp2
  refine hK.out _ _ ?_; clear hK K
  show Code.wp _ _ _ _ _
  clear r0
  refine forgetW (fun w2 => Rn w2 (.slice ao1 nn1 cc1) (a) ∧ NX w2 gx1 (a) ∧ Below w.heap.size w w2) ⟨BX0.out, BX1.out, HB.out.trans (HG.out.mono HB.out.size)⟩ ?_
  clear HB HG BX0 BX1
  rintro Wx7 ⟨bx0, bx1, HB⟩
  replace HB := Lib.hid HB
  clear hd5 hd6 hd7 hd8 hd9
  refine wp_cond_false (by rfl) ?_
  refine wp_skip ?_
  show Code.wp _ _ _ _ _
  have lx1 := bx1.cells
  have BX0 := Lib.hid bx0
  have BX1 := Lib.hid bx1
  clear bx0 bx1
  refine sK fun K hK => ?_
  refine wp_region_seqplan 6 [(true, 0), (true, 1), (true, 2), (true, 3), (true, 4), (true, 5)] (by rfl) (by simp) (fun T hT => ?_)
  iterate 2 (refine wpPlan_takeL (v := ?_) rfl (by rfl) (fun w' hw => ?_) ?_; rotate_left; go_simp; with_reducible rfl; simp only [Act.put, rA, rB, rC])
  refine wpPlan_callL rfl (by rfl) Tryd.call32 (fun w' hw => pow_far (a) ((n : Int)) _ (by omega) (by omega)) (by rfl) ?_
  simp only [Act.put, rA, rB, rC]
  iterate 3 (refine wpPlan_takeL (v := ?_) rfl (by rfl) (fun w' hw => ?_) ?_; rotate_left; go_simp; with_reducible rfl; simp only [Act.put, rA, rB, rC])
  refine wpPlan_nil (hT.out _ _ ?_); clear hT T
  intro vw6 hg
  simp only [puts, Act.put, rA, rB, rC, rD, rE, ↓reduceIte, Nat.reduceEqDiff]
  clear lx1
  have HG := Lib.hid (hg)
  clear hg
  replace BX0 := rG BX0 HG
  replace BX1 := bG BX1 HG
  have r0 := Gr.refl vw6
  go_wp2
  refine hK.out _ _ ?_; clear hK K
  show Code.wp _ _ _ _ _
  clear r0
  have hsz : w.heap.size ≤ vw6.heap.size := Nat.le_trans HB.out.size HG.out.size
  have mx1 : gx1 < vw6.heap.size := BX1.out.lt
  refine forgetW (fun w2 => Rn w2 (.slice ao1 nn1 cc1) (a) ∧ NX w2 (vw6.heap.size) (0) ∧ Below w.heap.size w w2) ⟨(BX0.out).alloc _, (Bx.at (by simp) : Bx _ (vw6.heap.size) _ _), (HB.out.trans (HG.out.mono HB.out.size)).alloc (by first | omega | (simp; omega)) _⟩ ?_
  clear HB HG BX0 BX1
  rintro Wx9 ⟨bx0, bx3, HB⟩
  replace HB := Lib.hid HB
  have yx3 : w.heap.size ≤ vw6.heap.size := by omega
  have qx1_3 : gx1 < vw6.heap.size := by omega
  generalize hx3 : vw6.heap.size = gx3 at *
  clear hx3
  clear hsz mx1
  refine wp_seq ?_
  refine wp_block ?_
  have hd10 : ¬ (((n : Int)) < 0) := by omega
  have hd11 : ¬ (n < 0) := by have e := hd10; omega
  have BX0 := Lib.hid bx0
  have BX3 := Lib.hid bx3
  clear bx0 bx3
  refine sK fun K hK => ?_
  refine wp_region_seqplan 3 [(true, 0), (true, 1), (true, 2)] (by rfl) (by simp) (fun T hT => ?_)
  iterate 3 (refine wpPlan_takeL (v := ?_) rfl (by rfl) (fun w' hw => ?_) ?_; rotate_left; go_simp; with_reducible rfl; simp only [Act.put, rA, rB, rC])
  refine wpPlan_nil (hT.out _ _ ?_); clear hT T
  intro vw7 hg
  simp only [puts, Act.put, rA, rB, rC, rD, rE, ↓reduceIte, Nat.reduceEqDiff]
  have HG := Lib.hid (hg)
  clear hg
  replace BX0 := rG BX0 HG
  replace BX3 := bG BX3 HG
  have r0 := Gr.refl vw7
  go_wp2
  refine hK.out _ _ ?_; clear hK K
  show Code.wp _ _ _ _ _
  clear r0
  refine forgetW (fun w2 => Rn w2 (.slice ao1 nn1 cc1) (a) ∧ NX w2 gx3 (0) ∧ Below w.heap.size w w2) ⟨BX0.out, BX3.out, HB.out.trans (HG.out.mono HB.out.size)⟩ ?_
  clear HB HG BX0 BX3
  rintro Wx10 ⟨bx0, bx3, HB⟩
  replace HB := Lib.hid HB
  clear hd10 hd11
  refine wp_cond_false (by rfl) ?_
  have hd12 : 4096 < ((n : Int)) := by omega
  have BX0 := Lib.hid bx0
  have BX3 := Lib.hid bx3
  clear bx0 bx3
  refine sK fun K hK => ?_
  refine wp_region_seqplan 6 [(true, 0), (true, 1), (true, 2), (true, 3), (true, 4), (true, 5)] (by rfl) (by simp) (fun T hT => ?_)
  iterate 3 (refine wpPlan_takeL (v := ?_) rfl (by rfl) (fun w' hw => ?_) ?_; rotate_left; go_simp; with_reducible rfl; simp only [Act.put, rA, rB, rC])
  refine wpPlan_skipL rfl (by rfl) ?_
  simp only [Act.put, rA, rB, rC]
  iterate 2 (refine wpPlan_takeL (v := ?_) rfl (by rfl) (fun w' hw => ?_) ?_; rotate_left; go_simp; with_reducible rfl; simp only [Act.put, rA, rB, rC])
  refine wpPlan_nil (hT.out _ _ ?_); clear hT T
  intro vw8 hg
  simp only [puts, Act.put, rA, rB, rC, rD, rE, ↓reduceIte, Nat.reduceEqDiff]
  have HG := Lib.hid (hg)
  clear hg
  replace BX0 := rG BX0 HG
  replace BX3 := bG BX3 HG
  have r0 := Gr.refl vw8
  go_wp2
  refine hK.out _ _ ?_; clear hK K
  show Code.wp _ _ _ _ _
  clear r0
  refine forgetW (fun w2 => Rn w2 (.slice ao1 nn1 cc1) (a) ∧ NX w2 gx3 (0) ∧ Below w.heap.size w w2) ⟨BX0.out, BX3.out, HB.out.trans (HG.out.mono HB.out.size)⟩ ?_
  clear HB HG BX0 BX3
  rintro Wx12 ⟨bx0, bx3, HB⟩
  replace HB := Lib.hid HB
  clear hd12
  refine wp_cond_true (by rfl) ?_
  have lx3 := bx3.cells
  have BX0 := Lib.hid bx0
  have BX3 := Lib.hid bx3
  clear bx0 bx3
  refine sK fun K hK => ?_
  refine wp_region_seqplan 11 [(true, 0), (true, 1), (true, 2), (true, 3), (true, 4), (true, 5), (true, 6), (true, 7), (true, 8), (true, 9), (true, 10)] (by rfl) (by simp) (fun T hT => ?_)
  iterate 8 (refine wpPlan_takeL (v := ?_) rfl (by rfl) (fun w' hw => ?_) ?_; rotate_left; go_simp; with_reducible rfl; simp only [Act.put, rA, rB, rC])
  refine wpPlan_callL rfl (by rfl) Tryd.call12 (fun w' hw => works_any _ (Lib.hid (HT.out.gr (Gr.trans HB.out hw)))) (by rfl) ?_
  simp only [Act.put, rA, rB, rC]
  iterate 2 (refine wpPlan_takeL (v := ?_) rfl (by rfl) (fun w' hw => ?_) ?_; rotate_left; go_simp; with_reducible rfl; simp only [Act.put, rA, rB, rC])
  refine wpPlan_nil (hT.out _ _ ?_); clear hT T
  intro vw9 hg
  simp only [puts, Act.put, rA, rB, rC, rD, rE, ↓reduceIte, Nat.reduceEqDiff]
  clear lx3
  have HG := Lib.hid (hg)
  clear hg
  replace BX0 := rG BX0 HG
  replace BX3 := bG BX3 HG
  have r0 := Gr.refl vw9
  go_wp2
  refine hK.out _ _ ?_; clear hK K
  show Code.wp _ _ _ _ _
  clear r0
  refine forgetW (fun w2 => Rn w2 (.slice ao1 nn1 cc1) (a) ∧ NX w2 gx3 (0) ∧ Below w.heap.size w w2) ⟨BX0.out, BX3.out, HB.out.trans (HG.out.mono HB.out.size)⟩ ?_
  clear HB HG BX0 BX3
  rintro Wx13 ⟨bx0, bx3, HB⟩
  replace HB := Lib.hid HB
  refine wp_ret ?_
  try simp only [Exit.then, Exit.inBlock]
  have r0 := Gr.refl Wx13
  exact bodyPost_ret (v := .bool true) (by simp [results, Tryd.results5, go_sem]) rfl ⟨rfl, HB.out⟩

set_option maxRecDepth 100000 in
set_option maxHeartbeats 4000000 in
theorem root_great (vx : Value) (kx : Nat) (fx : Nat → Nat) (a : Nat) (n m : Nat) (q : Nat) (w : World) (HWx : Hid (Wa w vx kx fx)) (HFx : Hid (∀ i, i < kx → fx i < 4294967296)) (HVx : Hid (vl fx kx = a)) (HNB : Hid (nb a = q)) (hq : q ≤ 384) (HMQ : Hid (n * q = m)) (hm : m ≤ 1572864) (hkx : kx ≤ 12) (hn0 : 0 < n) (hn : n ≤ 4096) (hg : 262144 < m) (HT : Hid (Tab w)) :
    Calls Tryd.prog 5 #[vx, .int .i64 (((n : Nat) : Int))] w fun e w' => e = .returned (.bool true) ∧ Below w.heap.size w w' := by
  obtain ⟨ao_x, c_x, rfl⟩ := HWx.out.slice
  have hb_a : wl a ≤ 12 := by rw [← HVx.out]; have := wl_le.2 (vl_lt HFx.out); omega
  go_enter Tryd.func5, Tryd.ntmps5
  refine sK fun K hK => ?_
  refine wp_region_lit ?_
  go_wp2
  refine hK.out _ _ ?_; clear hK K
  show Code.wp _ _ _ _ _
  refine forgetW (fun w2 => Below w.heap.size w w2) (Below.refl _ _) ?_
  rintro Wx HB
  replace HB := Lib.hid HB
  refine wp_seq ?_
  have hd1 : ¬ (12 < ((kx : Int))) := by omega
  refine sK fun K hK => ?_
  refine wp_region_seqplan 3 [(true, 0), (true, 1), (true, 2)] (by rfl) (by simp) (fun T hT => ?_)
  iterate 3 (refine wpPlan_takeL (v := ?_) rfl (by rfl) (fun w' hw => ?_) ?_; rotate_left; go_simp; with_reducible rfl; simp only [Act.put, rA, rB, rC])
  refine wpPlan_nil (hT.out _ _ ?_); clear hT T
  intro vw1 hg
  simp only [puts, Act.put, rA, rB, rC, rD, rE, ↓reduceIte, Nat.reduceEqDiff]
  have HG := Lib.hid (hg)
  clear hg
  have r0 := Gr.refl vw1
  go_wp2
  refine hK.out _ _ ?_; clear hK K
  show Code.wp _ _ _ _ _
  clear r0
  refine forgetW (fun w2 => Below w.heap.size w w2) (HB.out.trans (HG.out.mono HB.out.size)) ?_
  clear HB HG
  rintro Wx1 HB
  replace HB := Lib.hid HB
  clear hd1
  refine wp_cond_false (by rfl) ?_
  refine wp_skip ?_
  show Code.wp _ _ _ _ _
  have su1 : tw a ≤ 36 := by rw [← HVx.out]; have := tw_wl (vl fx kx); have := wl_le.2 (vl_lt HFx.out); omega
  refine sK fun K hK => ?_
  have HS0 := Lib.hid (HB.out.size)
  refine wp_region_seqplan 4 [(true, 0), (true, 1), (true, 2), (false, 3)] (by rfl) (by simp) (fun T hT => ?_)
  refine wpPlan_takeL (v := ?_) rfl (by rfl) (fun w' hw => ?_) ?_; rotate_left; go_simp; with_reducible rfl; simp only [Act.put, rA, rB, rC]
  refine wpPlan_callL rfl (by rfl) Tryd.call13 (fun w' hw => zmade _ kx fx a w _ HVx.out (by omega) HWx.out (Gr.trans HB.out hw) HFx.out) (by rfl) ?_
  simp only [Act.put, rA, rB, rC]
  refine wpPlan_takeL (v := ?_) rfl (by rfl) (fun w' hw => ?_) ?_; rotate_left; go_simp; with_reducible rfl; simp only [Act.put, rA, rB, rC]
  refine wpPlan_callE rfl (by rfl) Tryd.call14 (by rfl) (fun w' hw => (zrofw _ kx fx a w _ HVx.out (by omega) HWx.out (Gr.trans HB.out hw) HFx.out).mono ?_)
  rintro e vv1 ⟨⟨rv1, rfl, bx0⟩, hg0⟩
  obtain ⟨ao1, nn1, cc1, rfl⟩ := Rn.sl bx0
  refine ⟨_, rfl, hg0, ?_⟩
  replace hg0 := Gr.trans hw hg0; clear hw
  have HG0 := Lib.hid hg0; clear hg0
  replace HB := Lib.hid (HB.out.trans (HG0.out.mono HB.out.size))
  have BX0 := Lib.hid bx0; clear bx0
  clear HG0
  simp only [Act.put, rA, rB, rC]
  refine wpPlan_nil (hT.out _ _ ?_); clear hT T
  intro vw2 hg
  simp only [puts, Act.put, rA, rB, rC, rD, rE, ↓reduceIte, Nat.reduceEqDiff]
  have HG := Lib.hid (hg)
  clear hg
  replace BX0 := rG BX0 HG
  have r0 := Gr.refl vw2
  go_wp2
  refine hK.out _ _ ?_; clear hK K
  show Code.wp _ _ _ _ _
  clear r0
  have hsz : w.heap.size ≤ vw2.heap.size := Nat.le_trans HB.out.size HG.out.size
  refine forgetW (fun w2 => Rn w2 (.slice ao1 nn1 cc1) (a) ∧ NX w2 (vw2.heap.size) (a) ∧ Below w.heap.size w w2) ⟨(BX0.out).alloc _, (Bx.at (by simp) : Bx _ (vw2.heap.size) _ _), (HB.out.trans (HG.out.mono HB.out.size)).alloc (by first | omega | (simp; omega)) _⟩ ?_
  clear HB HG BX0
  rintro Wx3 ⟨bx0, bx1, HB⟩
  replace HB := Lib.hid HB
  have yx1 : w.heap.size ≤ vw2.heap.size := by omega
  generalize hx1 : vw2.heap.size = gx1 at *
  clear hx1
  clear hsz
  refine wp_seq ?_
  obtain ⟨u2, HZ2⟩ : ∃ z, Hid (rt (a) = z) := ⟨_, Lib.hid rfl⟩
  have su2 : wl (u2) ≤ 12 := by rw [← HZ2.out]; have := wl_mono (rt_self (a)); omega
  have HZ3 : Hid (rt (a) = u2) := Lib.hid (by first | omega | (try simp only [← HZ2.out]) <;> first | rfl | omega | (simp; done) | exact Nat.div_add_mod' _ _ | grind)
  have su3 : tw (u2) ≤ 36 := by have e := HZ3.out; first | omega | (rw [← e]; have := tw_mono (rt_self (a)); omega)
  have lx1 := bx1.cells
  have BX0 := Lib.hid bx0
  have BX1 := Lib.hid bx1
  clear bx0 bx1
  refine sK fun K hK => ?_
  have HS0 := Lib.hid (HB.out.size)
  have MX1 : gx1 < Wx3.heap.size := BX1.out.lt
  refine wp_region_seqplan 13 [(true, 0), (true, 1), (true, 2), (false, 3), (true, 4), (true, 5), (true, 6), (true, 7), (true, 8), (true, 9), (true, 10), (true, 11), (true, 12)] (by rfl) (by simp) (fun T hT => ?_)
  refine wpPlan_takeL (v := ?_) rfl (by rfl) (fun w' hw => ?_) ?_; rotate_left; go_simp; with_reducible rfl; simp only [Act.put, rA, rB, rC]
  refine wpPlan_callL rfl (by rfl) Tryd.call28 (fun w' hw => nzsqrt (a) (u2) _ HZ2.out (by omega)) (by rfl) ?_
  simp only [Act.put, rA, rB, rC]
  refine wpPlan_takeL (v := ?_) rfl (by rfl) (fun w' hw => ?_) ?_; rotate_left; go_simp; with_reducible rfl; simp only [Act.put, rA, rB, rC]
  refine wpPlan_callE rfl (by rfl) Tryd.call29 (by rfl) (fun w' hw => (zrsqrt _ (a) (u2) _ HZ3.out (BX0.out.gr hw) (by omega)).mono ?_)
  rintro e vv1 ⟨⟨rv2, rfl, bx2⟩, hg0⟩
  obtain ⟨ao2, nn2, cc2, rfl⟩ := Rn.sl bx2
  refine ⟨_, rfl, hg0, ?_⟩
  replace hg0 := Gr.trans hw hg0; clear hw
  have HG0 := Lib.hid hg0; clear hg0
  replace BX0 := rG BX0 HG0
  replace BX1 := bG BX1 HG0
  replace HB := Lib.hid (HB.out.trans (HG0.out.mono HB.out.size))
  have BX2 := Lib.hid bx2; clear bx2
  clear HG0
  clear lx1; have lx1 := BX1.out.cells
  simp only [Act.put, rA, rB, rC]
  refine wpPlan_callL rfl (by rfl) Tryd.call17 (fun w' hw => same_any (u2) (u2) _ _ (rfl) (BX2.out.gr hw) (by omega) (by omega) (Lib.hid (HT.out.gr (Gr.trans HB.out hw)))) (by rfl) ?_
  simp only [Act.put, rA, rB, rC]
  iterate 3 (refine wpPlan_takeL (v := ?_) rfl (by rfl) (fun w' hw => ?_) ?_; rotate_left; go_simp; with_reducible rfl; simp only [Act.put, rA, rB, rC])
  refine wpPlan_callL rfl (by rfl) Tryd.call30 (fun w' hw => nzbits (a) q _ HNB.out (by omega)) (by rfl) ?_
  simp only [Act.put, rA, rB, rC]
  refine wpPlan_takeL (v := ?_) rfl (by rfl) (fun w' hw => ?_) ?_; rotate_left; go_simp; with_reducible rfl; simp only [Act.put, rA, rB, rC]
  refine wpPlan_callL rfl (by rfl) Tryd.call31 (fun w' hw => zrbits _ (a) q _ HNB.out (BX0.out.gr hw) (by omega)) (by rfl) ?_
  simp only [Act.put, rA, rB, rC]
  iterate 2 (refine wpPlan_takeL (v := ?_) rfl (by rfl) (fun w' hw => ?_) ?_; rotate_left; go_simp; with_reducible rfl; simp only [Act.put, rA, rB, rC])
  refine wpPlan_nil (hT.out _ _ ?_); clear hT T
  intro vw3 hg
  simp only [puts, Act.put, rA, rB, rC, rD, rE, ↓reduceIte, Nat.reduceEqDiff]
  clear lx1
  have HG := Lib.hid (hg)
  clear hg
  replace BX0 := rG BX0 HG
  replace BX1 := bG BX1 HG
  replace BX2 := rG BX2 HG
  have r0 := Gr.refl vw3
  go_wp2
  refine hK.out _ _ ?_; clear hK K
  show Code.wp _ _ _ _ _
  clear r0
  refine forgetW (fun w2 => Rn w2 (.slice ao1 nn1 cc1) (a) ∧ NX w2 gx1 (a) ∧ Below w.heap.size w w2) ⟨BX0.out, BX1.out, HB.out.trans (HG.out.mono HB.out.size)⟩ ?_
  clear HB HG BX0 BX1 BX2
  rintro Wx4 ⟨bx0, bx1, HB⟩
  replace HB := Lib.hid HB
  refine wp_cond_false (by rfl) ?_
  refine wp_skip ?_
  show Code.wp _ _ _ _ _
  have hd2 : 0 < (((n : Nat) : Int)) := by omega
  have hd3 : 0 < n := by have e := hd2; omega
  have hd4 : (((n : Nat) : Int)) ≤ 4096 := by omega
  have hmul : ((n : Nat) : Int) * ((q : Nat) : Int) = (m : Int) := by rw [← HMQ.out]; exact (Int.natCast_mul _ _).symm
  have hmw : IntKind.i64.wrap (m : Int) = (m : Int) := by rw [IntKind.wrap_i64]; omega
  have hd5 : 262144 < ((m : Int)) := by omega
  have BX0 := Lib.hid bx0
  have BX1 := Lib.hid bx1
  clear bx0 bx1
  refine sK fun K hK => ?_
  refine wp_region_seqplan 14 [(true, 0), (true, 1), (true, 2), (true, 3), (true, 4), (true, 5), (true, 6), (true, 7), (true, 8), (true, 9), (true, 10), (true, 11), (true, 12), (true, 13)] (by rfl) (by simp) (fun T hT => ?_)
  iterate 9 (refine wpPlan_takeL (v := ?_) rfl (by rfl) (fun w' hw => ?_) ?_; rotate_left; go_simp; with_reducible rfl; simp only [Act.put, rA, rB, rC])
  refine wpPlan_callL rfl (by rfl) Tryd.call31 (fun w' hw => zrbits _ (a) q _ HNB.out (BX0.out.gr hw) (by omega)) (by rfl) ?_
  simp only [Act.put, rA, rB, rC]
  iterate 4 (refine wpPlan_takeL (v := ?_) rfl (by rfl) (fun w' hw => ?_) ?_; rotate_left; go_simp; with_reducible rfl; simp only [Act.put, rA, rB, rC])
  refine wpPlan_nil (hT.out _ _ ?_); clear hT T
  intro vw4 hg
  simp only [puts, Act.put, rA, rB, rC, rD, rE, ↓reduceIte, Nat.reduceEqDiff]
  have HG := Lib.hid (hg)
  clear hg
  replace BX0 := rG BX0 HG
  replace BX1 := bG BX1 HG
  have r0 := Gr.refl vw4
  go_wp2
  refine hK.out _ _ ?_; clear hK K
  show Code.wp _ _ _ _ _
  clear r0
  refine forgetW (fun w2 => Rn w2 (.slice ao1 nn1 cc1) (a) ∧ NX w2 gx1 (a) ∧ Below w.heap.size w w2) ⟨BX0.out, BX1.out, HB.out.trans (HG.out.mono HB.out.size)⟩ ?_
  clear HB HG BX0 BX1
  rintro Wx6 ⟨bx0, bx1, HB⟩
  replace HB := Lib.hid HB
  clear hd2 hd3 hd4 hmul hmw hd5
  refine wp_seq ?_
  have BX0 := Lib.hid bx0
  have BX1 := Lib.hid bx1
  clear bx0 bx1
  refine sK fun K hK => ?_
  refine wp_region_seqplan 23 [(true, 0), (true, 1), (true, 2), (true, 3), (true, 4), (true, 5), (true, 6), (true, 7), (true, 8), (true, 9), (true, 10), (true, 11), (true, 12), (true, 13), (true, 14), (true, 15), (true, 16), (true, 17), (true, 18), (true, 19), (true, 20), (true, 21), (true, 22)] (by rfl) (by simp) (fun T hT => ?_)
  iterate 3 (refine wpPlan_takeL (v := ?_) rfl (by rfl) (fun w' hw => ?_) ?_; rotate_left; go_simp; with_reducible rfl; simp only [Act.put, rA, rB, rC])
  iterate 19 (refine wpPlan_skipL rfl (by rfl) ?_; simp only [Act.put, rA, rB, rC])
  refine wpPlan_takeL (v := ?_) rfl (by rfl) (fun w' hw => ?_) ?_; rotate_left; go_simp; with_reducible rfl; simp only [Act.put, rA, rB, rC]
  refine wpPlan_nil (hT.out _ _ ?_); clear hT T
  intro vw5 hg
  simp only [puts, Act.put, rA, rB, rC, rD, rE, ↓reduceIte, Nat.reduceEqDiff]
  have HG := Lib.hid (hg)
  clear hg
  replace BX0 := rG BX0 HG
  replace BX1 := bG BX1 HG
  have r0 := Gr.refl vw5
  go_wp2
  refine hK.out _ _ ?_; clear hK K
  show Code.wp _ _ _ _ _
  clear r0
  refine forgetW (fun w2 => Rn w2 (.slice ao1 nn1 cc1) (a) ∧ NX w2 gx1 (a) ∧ Below w.heap.size w w2) ⟨BX0.out, BX1.out, HB.out.trans (HG.out.mono HB.out.size)⟩ ?_
  clear HB HG BX0 BX1
  rintro Wx7 ⟨bx0, bx1, HB⟩
  replace HB := Lib.hid HB
  refine wp_cond_false (by rfl) ?_
  refine wp_skip ?_
  show Code.wp _ _ _ _ _
  have lx1 := bx1.cells
  have BX0 := Lib.hid bx0
  have BX1 := Lib.hid bx1
  clear bx0 bx1
  refine sK fun K hK => ?_
  refine wp_region_seqplan 6 [(true, 0), (true, 1), (true, 2), (true, 3), (true, 4), (true, 5)] (by rfl) (by simp) (fun T hT => ?_)
  iterate 2 (refine wpPlan_takeL (v := ?_) rfl (by rfl) (fun w' hw => ?_) ?_; rotate_left; go_simp; with_reducible rfl; simp only [Act.put, rA, rB, rC])
  refine wpPlan_callL rfl (by rfl) Tryd.call32 (fun w' hw => pow_great (a) n _ (by omega) (by have := HNB.out; have := HMQ.out; rw [HNB.out, HMQ.out]; omega) (by omega)) (by rfl) ?_
  simp only [Act.put, rA, rB, rC]
  iterate 3 (refine wpPlan_takeL (v := ?_) rfl (by rfl) (fun w' hw => ?_) ?_; rotate_left; go_simp; with_reducible rfl; simp only [Act.put, rA, rB, rC])
  refine wpPlan_nil (hT.out _ _ ?_); clear hT T
  intro vw6 hg
  simp only [puts, Act.put, rA, rB, rC, rD, rE, ↓reduceIte, Nat.reduceEqDiff]
  clear lx1
  have HG := Lib.hid (hg)
  clear hg
  replace BX0 := rG BX0 HG
  replace BX1 := bG BX1 HG
  have r0 := Gr.refl vw6
  go_wp2
  refine hK.out _ _ ?_; clear hK K
  show Code.wp _ _ _ _ _
  clear r0
  have hsz : w.heap.size ≤ vw6.heap.size := Nat.le_trans HB.out.size HG.out.size
  have mx1 : gx1 < vw6.heap.size := BX1.out.lt
  refine forgetW (fun w2 => Rn w2 (.slice ao1 nn1 cc1) (a) ∧ NX w2 (vw6.heap.size) (0) ∧ Below w.heap.size w w2) ⟨(BX0.out).alloc _, (Bx.at (by simp) : Bx _ (vw6.heap.size) _ _), (HB.out.trans (HG.out.mono HB.out.size)).alloc (by first | omega | (simp; omega)) _⟩ ?_
  clear HB HG BX0 BX1
  rintro Wx9 ⟨bx0, bx3, HB⟩
  replace HB := Lib.hid HB
  have yx3 : w.heap.size ≤ vw6.heap.size := by omega
  have qx1_3 : gx1 < vw6.heap.size := by omega
  generalize hx3 : vw6.heap.size = gx3 at *
  clear hx3
  clear hsz mx1
  refine wp_seq ?_
  refine wp_block ?_
  have hd6 : ¬ ((((n : Nat) : Int)) < 0) := by omega
  have hd7 : ¬ (n < 0) := by have e := hd6; omega
  have BX0 := Lib.hid bx0
  have BX3 := Lib.hid bx3
  clear bx0 bx3
  refine sK fun K hK => ?_
  refine wp_region_seqplan 3 [(true, 0), (true, 1), (true, 2)] (by rfl) (by simp) (fun T hT => ?_)
  iterate 3 (refine wpPlan_takeL (v := ?_) rfl (by rfl) (fun w' hw => ?_) ?_; rotate_left; go_simp; with_reducible rfl; simp only [Act.put, rA, rB, rC])
  refine wpPlan_nil (hT.out _ _ ?_); clear hT T
  intro vw7 hg
  simp only [puts, Act.put, rA, rB, rC, rD, rE, ↓reduceIte, Nat.reduceEqDiff]
  have HG := Lib.hid (hg)
  clear hg
  replace BX0 := rG BX0 HG
  replace BX3 := bG BX3 HG
  have r0 := Gr.refl vw7
  go_wp2
  refine hK.out _ _ ?_; clear hK K
  show Code.wp _ _ _ _ _
  clear r0
  refine forgetW (fun w2 => Rn w2 (.slice ao1 nn1 cc1) (a) ∧ NX w2 gx3 (0) ∧ Below w.heap.size w w2) ⟨BX0.out, BX3.out, HB.out.trans (HG.out.mono HB.out.size)⟩ ?_
  clear HB HG BX0 BX3
  rintro Wx10 ⟨bx0, bx3, HB⟩
  replace HB := Lib.hid HB
  clear hd6 hd7
  refine wp_cond_false (by rfl) ?_
  have hd8 : ¬ (4096 < (((n : Nat) : Int))) := by omega
  have BX0 := Lib.hid bx0
  have BX3 := Lib.hid bx3
  clear bx0 bx3
  refine sK fun K hK => ?_
  refine wp_region_seqplan 6 [(true, 0), (true, 1), (true, 2), (true, 3), (true, 4), (true, 5)] (by rfl) (by simp) (fun T hT => ?_)
  iterate 6 (refine wpPlan_takeL (v := ?_) rfl (by rfl) (fun w' hw => ?_) ?_; rotate_left; go_simp; with_reducible rfl; simp only [Act.put, rA, rB, rC])
  refine wpPlan_nil (hT.out _ _ ?_); clear hT T
  intro vw8 hg
  simp only [puts, Act.put, rA, rB, rC, rD, rE, ↓reduceIte, Nat.reduceEqDiff]
  have HG := Lib.hid (hg)
  clear hg
  replace BX0 := rG BX0 HG
  replace BX3 := bG BX3 HG
  have r0 := Gr.refl vw8
  go_wp2
  refine hK.out _ _ ?_; clear hK K
  show Code.wp _ _ _ _ _
  clear r0
  refine forgetW (fun w2 => Rn w2 (.slice ao1 nn1 cc1) (a) ∧ NX w2 gx3 (0) ∧ Below w.heap.size w w2) ⟨BX0.out, BX3.out, HB.out.trans (HG.out.mono HB.out.size)⟩ ?_
  clear HB HG BX0 BX3
  rintro Wx12 ⟨bx0, bx3, HB⟩
  replace HB := Lib.hid HB
  clear hd8
  refine wp_cond_true (by rfl) ?_
  have lx3 := bx3.cells
  have BX0 := Lib.hid bx0
  have BX3 := Lib.hid bx3
  clear bx0 bx3
  refine sK fun K hK => ?_
  refine wp_region_seqplan 11 [(true, 0), (true, 1), (true, 2), (true, 3), (true, 4), (true, 5), (true, 6), (true, 7), (true, 8), (true, 9), (true, 10)] (by rfl) (by simp) (fun T hT => ?_)
  iterate 8 (refine wpPlan_takeL (v := ?_) rfl (by rfl) (fun w' hw => ?_) ?_; rotate_left; go_simp; with_reducible rfl; simp only [Act.put, rA, rB, rC])
  refine wpPlan_callL rfl (by rfl) Tryd.call12 (fun w' hw => works_any _ (Lib.hid (HT.out.gr (Gr.trans HB.out hw)))) (by rfl) ?_
  simp only [Act.put, rA, rB, rC]
  iterate 2 (refine wpPlan_takeL (v := ?_) rfl (by rfl) (fun w' hw => ?_) ?_; rotate_left; go_simp; with_reducible rfl; simp only [Act.put, rA, rB, rC])
  refine wpPlan_nil (hT.out _ _ ?_); clear hT T
  intro vw9 hg
  simp only [puts, Act.put, rA, rB, rC, rD, rE, ↓reduceIte, Nat.reduceEqDiff]
  clear lx3
  have HG := Lib.hid (hg)
  clear hg
  replace BX0 := rG BX0 HG
  replace BX3 := bG BX3 HG
  have r0 := Gr.refl vw9
  go_wp2
  refine hK.out _ _ ?_; clear hK K
  show Code.wp _ _ _ _ _
  clear r0
  refine forgetW (fun w2 => Rn w2 (.slice ao1 nn1 cc1) (a) ∧ NX w2 gx3 (0) ∧ Below w.heap.size w w2) ⟨BX0.out, BX3.out, HB.out.trans (HG.out.mono HB.out.size)⟩ ?_
  clear HB HG BX0 BX3
  rintro Wx13 ⟨bx0, bx3, HB⟩
  replace HB := Lib.hid HB
  refine wp_ret ?_
  try simp only [Exit.then, Exit.inBlock]
  have r0 := Gr.refl Wx13
  exact bodyPost_ret (v := .bool true) (by simp [results, Tryd.results5, go_sem]) rfl ⟨rfl, HB.out⟩

set_option maxRecDepth 100000 in
set_option maxHeartbeats 4000000 in
theorem root_mid (vx : Value) (kx : Nat) (fx : Nat → Nat) (a : Nat) (n m : Nat) (q : Nat) (w : World) (HWx : Hid (Wa w vx kx fx)) (HFx : Hid (∀ i, i < kx → fx i < 4294967296)) (HVx : Hid (vl fx kx = a)) (HNB : Hid (nb a = q)) (hq : q ≤ 384) (HMQ : Hid (n * q = m)) (hm : m ≤ 1572864) (hkx : kx ≤ 12) (hn0 : 20 < n) (hn : n ≤ 4096) (hg : m ≤ 262144) (HT : Hid (Tab w)) :
    Calls Tryd.prog 5 #[vx, .int .i64 (((n : Nat) : Int))] w fun e w' => e = .returned (.bool true) ∧ Below w.heap.size w w' := by
  obtain ⟨ao_x, c_x, rfl⟩ := HWx.out.slice
  have hb_a : wl a ≤ 12 := by rw [← HVx.out]; have := wl_le.2 (vl_lt HFx.out); omega
  go_enter Tryd.func5, Tryd.ntmps5
  refine sK fun K hK => ?_
  refine wp_region_lit ?_
  go_wp2
  refine hK.out _ _ ?_; clear hK K
  show Code.wp _ _ _ _ _
  refine forgetW (fun w2 => Below w.heap.size w w2) (Below.refl _ _) ?_
  rintro Wx HB
  replace HB := Lib.hid HB
  refine wp_seq ?_
  have hd1 : ¬ (12 < ((kx : Int))) := by omega
  refine sK fun K hK => ?_
  refine wp_region_seqplan 3 [(true, 0), (true, 1), (true, 2)] (by rfl) (by simp) (fun T hT => ?_)
  iterate 3 (refine wpPlan_takeL (v := ?_) rfl (by rfl) (fun w' hw => ?_) ?_; rotate_left; go_simp; with_reducible rfl; simp only [Act.put, rA, rB, rC])
  refine wpPlan_nil (hT.out _ _ ?_); clear hT T
  intro vw1 hg
  simp only [puts, Act.put, rA, rB, rC, rD, rE, ↓reduceIte, Nat.reduceEqDiff]
  have HG := Lib.hid (hg)
  clear hg
  have r0 := Gr.refl vw1
  go_wp2
  refine hK.out _ _ ?_; clear hK K
  show Code.wp _ _ _ _ _
  clear r0
  refine forgetW (fun w2 => Below w.heap.size w w2) (HB.out.trans (HG.out.mono HB.out.size)) ?_
  clear HB HG
  rintro Wx1 HB
  replace HB := Lib.hid HB
  clear hd1
  refine wp_cond_false (by rfl) ?_
  refine wp_skip ?_
  show Code.wp _ _ _ _ _
  have su1 : tw a ≤ 36 := by rw [← HVx.out]; have := tw_wl (vl fx kx); have := wl_le.2 (vl_lt HFx.out); omega
  refine sK fun K hK => ?_
  have HS0 := Lib.hid (HB.out.size)
  refine wp_region_seqplan 4 [(true, 0), (true, 1), (true, 2), (false, 3)] (by rfl) (by simp) (fun T hT => ?_)
  refine wpPlan_takeL (v := ?_) rfl (by rfl) (fun w' hw => ?_) ?_; rotate_left; go_simp; with_reducible rfl; simp only [Act.put, rA, rB, rC]
  refine wpPlan_callL rfl (by rfl) Tryd.call13 (fun w' hw => zmade _ kx fx a w _ HVx.out (by omega) HWx.out (Gr.trans HB.out hw) HFx.out) (by rfl) ?_
  simp only [Act.put, rA, rB, rC]
  refine wpPlan_takeL (v := ?_) rfl (by rfl) (fun w' hw => ?_) ?_; rotate_left; go_simp; with_reducible rfl; simp only [Act.put, rA, rB, rC]
  refine wpPlan_callE rfl (by rfl) Tryd.call14 (by rfl) (fun w' hw => (zrofw _ kx fx a w _ HVx.out (by omega) HWx.out (Gr.trans HB.out hw) HFx.out).mono ?_)
  rintro e vv1 ⟨⟨rv1, rfl, bx0⟩, hg0⟩
  obtain ⟨ao1, nn1, cc1, rfl⟩ := Rn.sl bx0
  refine ⟨_, rfl, hg0, ?_⟩
  replace hg0 := Gr.trans hw hg0; clear hw
  have HG0 := Lib.hid hg0; clear hg0
  replace HB := Lib.hid (HB.out.trans (HG0.out.mono HB.out.size))
  have BX0 := Lib.hid bx0; clear bx0
  clear HG0
  simp only [Act.put, rA, rB, rC]
  refine wpPlan_nil (hT.out _ _ ?_); clear hT T
  intro vw2 hg
  simp only [puts, Act.put, rA, rB, rC, rD, rE, ↓reduceIte, Nat.reduceEqDiff]
  have HG := Lib.hid (hg)
  clear hg
  replace BX0 := rG BX0 HG
  have r0 := Gr.refl vw2
  go_wp2
  refine hK.out _ _ ?_; clear hK K
  show Code.wp _ _ _ _ _
  clear r0
  have hsz : w.heap.size ≤ vw2.heap.size := Nat.le_trans HB.out.size HG.out.size
  refine forgetW (fun w2 => Rn w2 (.slice ao1 nn1 cc1) (a) ∧ NX w2 (vw2.heap.size) (a) ∧ Below w.heap.size w w2) ⟨(BX0.out).alloc _, (Bx.at (by simp) : Bx _ (vw2.heap.size) _ _), (HB.out.trans (HG.out.mono HB.out.size)).alloc (by first | omega | (simp; omega)) _⟩ ?_
  clear HB HG BX0
  rintro Wx3 ⟨bx0, bx1, HB⟩
  replace HB := Lib.hid HB
  have yx1 : w.heap.size ≤ vw2.heap.size := by omega
  generalize hx1 : vw2.heap.size = gx1 at *
  clear hx1
  clear hsz
  refine wp_seq ?_
  obtain ⟨u2, HZ2⟩ : ∃ z, Hid (rt (a) = z) := ⟨_, Lib.hid rfl⟩
  have su2 : wl (u2) ≤ 12 := by rw [← HZ2.out]; have := wl_mono (rt_self (a)); omega
  have HZ3 : Hid (rt (a) = u2) := Lib.hid (by first | omega | (try simp only [← HZ2.out]) <;> first | rfl | omega | (simp; done) | exact Nat.div_add_mod' _ _ | grind)
  have su3 : tw (u2) ≤ 36 := by have e := HZ3.out; first | omega | (rw [← e]; have := tw_mono (rt_self (a)); omega)
  have lx1 := bx1.cells
  have BX0 := Lib.hid bx0
  have BX1 := Lib.hid bx1
  clear bx0 bx1
  refine sK fun K hK => ?_
  have HS0 := Lib.hid (HB.out.size)
  have MX1 : gx1 < Wx3.heap.size := BX1.out.lt
  refine wp_region_seqplan 13 [(true, 0), (true, 1), (true, 2), (false, 3), (true, 4), (true, 5), (true, 6), (true, 7), (true, 8), (true, 9), (true, 10), (true, 11), (true, 12)] (by rfl) (by simp) (fun T hT => ?_)
  refine wpPlan_takeL (v := ?_) rfl (by rfl) (fun w' hw => ?_) ?_; rotate_left; go_simp; with_reducible rfl; simp only [Act.put, rA, rB, rC]
  refine wpPlan_callL rfl (by rfl) Tryd.call28 (fun w' hw => nzsqrt (a) (u2) _ HZ2.out (by omega)) (by rfl) ?_
  simp only [Act.put, rA, rB, rC]
  refine wpPlan_takeL (v := ?_) rfl (by rfl) (fun w' hw => ?_) ?_; rotate_left; go_simp; with_reducible rfl; simp only [Act.put, rA, rB, rC]
  refine wpPlan_callE rfl (by rfl) Tryd.call29 (by rfl) (fun w' hw => (zrsqrt _ (a) (u2) _ HZ3.out (BX0.out.gr hw) (by omega)).mono ?_)
  rintro e vv1 ⟨⟨rv2, rfl, bx2⟩, hg0⟩
  obtain ⟨ao2, nn2, cc2, rfl⟩ := Rn.sl bx2
  refine ⟨_, rfl, hg0, ?_⟩
  replace hg0 := Gr.trans hw hg0; clear hw
  have HG0 := Lib.hid hg0; clear hg0
  replace BX0 := rG BX0 HG0
  replace BX1 := bG BX1 HG0
  replace HB := Lib.hid (HB.out.trans (HG0.out.mono HB.out.size))
  have BX2 := Lib.hid bx2; clear bx2
  clear HG0
  clear lx1; have lx1 := BX1.out.cells
  simp only [Act.put, rA, rB, rC]
  refine wpPlan_callL rfl (by rfl) Tryd.call17 (fun w' hw => same_any (u2) (u2) _ _ (rfl) (BX2.out.gr hw) (by omega) (by omega) (Lib.hid (HT.out.gr (Gr.trans HB.out hw)))) (by rfl) ?_
  simp only [Act.put, rA, rB, rC]
  iterate 3 (refine wpPlan_takeL (v := ?_) rfl (by rfl) (fun w' hw => ?_) ?_; rotate_left; go_simp; with_reducible rfl; simp only [Act.put, rA, rB, rC])
  refine wpPlan_callL rfl (by rfl) Tryd.call30 (fun w' hw => nzbits (a) q _ HNB.out (by omega)) (by rfl) ?_
  simp only [Act.put, rA, rB, rC]
  refine wpPlan_takeL (v := ?_) rfl (by rfl) (fun w' hw => ?_) ?_; rotate_left; go_simp; with_reducible rfl; simp only [Act.put, rA, rB, rC]
  refine wpPlan_callL rfl (by rfl) Tryd.call31 (fun w' hw => zrbits _ (a) q _ HNB.out (BX0.out.gr hw) (by omega)) (by rfl) ?_
  simp only [Act.put, rA, rB, rC]
  iterate 2 (refine wpPlan_takeL (v := ?_) rfl (by rfl) (fun w' hw => ?_) ?_; rotate_left; go_simp; with_reducible rfl; simp only [Act.put, rA, rB, rC])
  refine wpPlan_nil (hT.out _ _ ?_); clear hT T
  intro vw3 hg
  simp only [puts, Act.put, rA, rB, rC, rD, rE, ↓reduceIte, Nat.reduceEqDiff]
  clear lx1
  have HG := Lib.hid (hg)
  clear hg
  replace BX0 := rG BX0 HG
  replace BX1 := bG BX1 HG
  replace BX2 := rG BX2 HG
  have r0 := Gr.refl vw3
  go_wp2
  refine hK.out _ _ ?_; clear hK K
  show Code.wp _ _ _ _ _
  clear r0
  refine forgetW (fun w2 => Rn w2 (.slice ao1 nn1 cc1) (a) ∧ NX w2 gx1 (a) ∧ Below w.heap.size w w2) ⟨BX0.out, BX1.out, HB.out.trans (HG.out.mono HB.out.size)⟩ ?_
  clear HB HG BX0 BX1 BX2
  rintro Wx4 ⟨bx0, bx1, HB⟩
  replace HB := Lib.hid HB
  refine wp_cond_false (by rfl) ?_
  refine wp_skip ?_
  show Code.wp _ _ _ _ _
  have hd2 : 0 < (((n : Nat) : Int)) := by omega
  have hd3 : 0 < n := by have e := hd2; omega
  have hd4 : (((n : Nat) : Int)) ≤ 4096 := by omega
  have hmul : ((n : Nat) : Int) * ((q : Nat) : Int) = (m : Int) := by rw [← HMQ.out]; exact (Int.natCast_mul _ _).symm
  have hmw : IntKind.i64.wrap (m : Int) = (m : Int) := by rw [IntKind.wrap_i64]; omega
  have hd5 : ¬ (262144 < ((m : Int))) := by omega
  have BX0 := Lib.hid bx0
  have BX1 := Lib.hid bx1
  clear bx0 bx1
  refine sK fun K hK => ?_
  refine wp_region_seqplan 14 [(true, 0), (true, 1), (true, 2), (true, 3), (true, 4), (true, 5), (true, 6), (true, 7), (true, 8), (true, 9), (true, 10), (true, 11), (true, 12), (true, 13)] (by rfl) (by simp) (fun T hT => ?_)
  iterate 9 (refine wpPlan_takeL (v := ?_) rfl (by rfl) (fun w' hw => ?_) ?_; rotate_left; go_simp; with_reducible rfl; simp only [Act.put, rA, rB, rC])
  refine wpPlan_callL rfl (by rfl) Tryd.call31 (fun w' hw => zrbits _ (a) q _ HNB.out (BX0.out.gr hw) (by omega)) (by rfl) ?_
  simp only [Act.put, rA, rB, rC]
  iterate 4 (refine wpPlan_takeL (v := ?_) rfl (by rfl) (fun w' hw => ?_) ?_; rotate_left; go_simp; with_reducible rfl; simp only [Act.put, rA, rB, rC])
  refine wpPlan_nil (hT.out _ _ ?_); clear hT T
  intro vw4 hg
  simp only [puts, Act.put, rA, rB, rC, rD, rE, ↓reduceIte, Nat.reduceEqDiff]
  have HG := Lib.hid (hg)
  clear hg
  replace BX0 := rG BX0 HG
  replace BX1 := bG BX1 HG
  have r0 := Gr.refl vw4
  go_wp2
  refine hK.out _ _ ?_; clear hK K
  show Code.wp _ _ _ _ _
  clear r0
  refine forgetW (fun w2 => Rn w2 (.slice ao1 nn1 cc1) (a) ∧ NX w2 gx1 (a) ∧ Below w.heap.size w w2) ⟨BX0.out, BX1.out, HB.out.trans (HG.out.mono HB.out.size)⟩ ?_
  clear HB HG BX0 BX1
  rintro Wx6 ⟨bx0, bx1, HB⟩
  replace HB := Lib.hid HB
  clear hd2 hd3 hd4 hmul hmw hd5
  refine wp_seq ?_
  have hd6 : 20 < (((n : Nat) : Int)) := by omega
  have hd7 : (((n : Nat) : Int)) ≤ 4096 := by omega
  have BX0 := Lib.hid bx0
  have BX1 := Lib.hid bx1
  clear bx0 bx1
  refine sK fun K hK => ?_
  refine wp_region_seqplan 23 [(true, 0), (true, 1), (true, 2), (true, 3), (true, 4), (true, 5), (true, 6), (true, 7), (true, 8), (true, 9), (true, 10), (true, 11), (true, 12), (true, 13), (true, 14), (true, 15), (true, 16), (true, 17), (true, 18), (true, 19), (true, 20), (true, 21), (true, 22)] (by rfl) (by simp) (fun T hT => ?_)
  iterate 10 (refine wpPlan_takeL (v := ?_) rfl (by rfl) (fun w' hw => ?_) ?_; rotate_left; go_simp; with_reducible rfl; simp only [Act.put, rA, rB, rC])
  iterate 11 (refine wpPlan_skipL rfl (by rfl) ?_; simp only [Act.put, rA, rB, rC])
  iterate 2 (refine wpPlan_takeL (v := ?_) rfl (by rfl) (fun w' hw => ?_) ?_; rotate_left; go_simp; with_reducible rfl; simp only [Act.put, rA, rB, rC])
  refine wpPlan_nil (hT.out _ _ ?_); clear hT T
  intro vw5 hg
  simp only [puts, Act.put, rA, rB, rC, rD, rE, ↓reduceIte, Nat.reduceEqDiff]
  have HG := Lib.hid (hg)
  clear hg
  replace BX0 := rG BX0 HG
  replace BX1 := bG BX1 HG
  have r0 := Gr.refl vw5
  go_wp2
  refine hK.out _ _ ?_; clear hK K
  show Code.wp _ _ _ _ _
  clear r0
  refine forgetW (fun w2 => Rn w2 (.slice ao1 nn1 cc1) (a) ∧ NX w2 gx1 (a) ∧ Below w.heap.size w w2) ⟨BX0.out, BX1.out, HB.out.trans (HG.out.mono HB.out.size)⟩ ?_
  clear HB HG BX0 BX1
  rintro Wx7 ⟨bx0, bx1, HB⟩
  replace HB := Lib.hid HB
  clear hd6 hd7
  refine wp_cond_true (by rfl) ?_
  have BX0 := Lib.hid bx0
  have BX1 := Lib.hid bx1
  clear bx0 bx1
  refine sK fun K hK => ?_
  refine wp_region_seqplan 2 [(true, 0), (true, 1)] (by rfl) (by simp) (fun T hT => ?_)
  refine wpPlan_callL rfl (by rfl) Tryd.call12 (fun w' hw => works_any _ (Lib.hid (HT.out.gr (Gr.trans HB.out hw)))) (by rfl) ?_
  simp only [Act.put, rA, rB, rC]
  refine wpPlan_takeL (v := ?_) rfl (by rfl) (fun w' hw => ?_) ?_; rotate_left; go_simp; with_reducible rfl; simp only [Act.put, rA, rB, rC]
  refine wpPlan_nil (hT.out _ _ ?_); clear hT T
  intro vw6 hg
  simp only [puts, Act.put, rA, rB, rC, rD, rE, ↓reduceIte, Nat.reduceEqDiff]
  have HG := Lib.hid (hg)
  clear hg
  replace BX0 := rG BX0 HG
  replace BX1 := bG BX1 HG
  have r0 := Gr.refl vw6
  go_wp2
  refine hK.out _ _ ?_; clear hK K
  show Code.wp _ _ _ _ _
  clear r0
  refine forgetW (fun w2 => Rn w2 (.slice ao1 nn1 cc1) (a) ∧ NX w2 gx1 (a) ∧ Below w.heap.size w w2) ⟨BX0.out, BX1.out, HB.out.trans (HG.out.mono HB.out.size)⟩ ?_
  clear HB HG BX0 BX1
  rintro Wx8 ⟨bx0, bx1, HB⟩
  replace HB := Lib.hid HB
  refine wp_ret ?_
  try simp only [Exit.then, Exit.inBlock]
  have r0 := Gr.refl Wx8
  exact bodyPost_ret (v := .bool true) (by simp [results, Tryd.results5, go_sem]) rfl ⟨rfl, HB.out⟩

set_option maxRecDepth 100000 in
set_option maxHeartbeats 4000000 in
theorem root_zlong (vx : Value) (kx : Nat) (fx : Nat → Nat) (a : Nat)  (q : Nat) (w : World) (HWx : Hid (Wa w vx kx fx)) (HFx : Hid (∀ i, i < kx → fx i < 4294967296)) (HVx : Hid (vl fx kx = a)) (HNB : Hid (nb a = q)) (hq : q ≤ 384) (hkx : kx ≤ 12) (hk4 : 4 < kx) (HT : Hid (Tab w)) :
    Calls Tryd.prog 5 #[vx, .int .i64 0] w fun e w' => e = .returned (.bool true) ∧ Below w.heap.size w w' := by
  obtain ⟨ao_x, c_x, rfl⟩ := HWx.out.slice
  have hb_a : wl a ≤ 12 := by rw [← HVx.out]; have := wl_le.2 (vl_lt HFx.out); omega
  go_enter Tryd.func5, Tryd.ntmps5
  refine sK fun K hK => ?_
  refine wp_region_lit ?_
  go_wp2
  refine hK.out _ _ ?_; clear hK K
  show Code.wp _ _ _ _ _
  refine forgetW (fun w2 => Below w.heap.size w w2) (Below.refl _ _) ?_
  rintro Wx HB
  replace HB := Lib.hid HB
  refine wp_seq ?_
  have hd1 : ¬ (12 < ((kx : Int))) := by omega
  refine sK fun K hK => ?_
  refine wp_region_seqplan 3 [(true, 0), (true, 1), (true, 2)] (by rfl) (by simp) (fun T hT => ?_)
  iterate 3 (refine wpPlan_takeL (v := ?_) rfl (by rfl) (fun w' hw => ?_) ?_; rotate_left; go_simp; with_reducible rfl; simp only [Act.put, rA, rB, rC])
  refine wpPlan_nil (hT.out _ _ ?_); clear hT T
  intro vw1 hg
  simp only [puts, Act.put, rA, rB, rC, rD, rE, ↓reduceIte, Nat.reduceEqDiff]
  have HG := Lib.hid (hg)
  clear hg
  have r0 := Gr.refl vw1
  go_wp2
  refine hK.out _ _ ?_; clear hK K
  show Code.wp _ _ _ _ _
  clear r0
  refine forgetW (fun w2 => Below w.heap.size w w2) (HB.out.trans (HG.out.mono HB.out.size)) ?_
  clear HB HG
  rintro Wx1 HB
  replace HB := Lib.hid HB
  clear hd1
  refine wp_cond_false (by rfl) ?_
  refine wp_skip ?_
  show Code.wp _ _ _ _ _
  have su1 : tw a ≤ 36 := by rw [← HVx.out]; have := tw_wl (vl fx kx); have := wl_le.2 (vl_lt HFx.out); omega
  refine sK fun K hK => ?_
  have HS0 := Lib.hid (HB.out.size)
  refine wp_region_seqplan 4 [(true, 0), (true, 1), (true, 2), (false, 3)] (by rfl) (by simp) (fun T hT => ?_)
  refine wpPlan_takeL (v := ?_) rfl (by rfl) (fun w' hw => ?_) ?_; rotate_left; go_simp; with_reducible rfl; simp only [Act.put, rA, rB, rC]
  refine wpPlan_callL rfl (by rfl) Tryd.call13 (fun w' hw => zmade _ kx fx a w _ HVx.out (by omega) HWx.out (Gr.trans HB.out hw) HFx.out) (by rfl) ?_
  simp only [Act.put, rA, rB, rC]
  refine wpPlan_takeL (v := ?_) rfl (by rfl) (fun w' hw => ?_) ?_; rotate_left; go_simp; with_reducible rfl; simp only [Act.put, rA, rB, rC]
  refine wpPlan_callE rfl (by rfl) Tryd.call14 (by rfl) (fun w' hw => (zrofw _ kx fx a w _ HVx.out (by omega) HWx.out (Gr.trans HB.out hw) HFx.out).mono ?_)
  rintro e vv1 ⟨⟨rv1, rfl, bx0⟩, hg0⟩
  obtain ⟨ao1, nn1, cc1, rfl⟩ := Rn.sl bx0
  refine ⟨_, rfl, hg0, ?_⟩
  replace hg0 := Gr.trans hw hg0; clear hw
  have HG0 := Lib.hid hg0; clear hg0
  replace HB := Lib.hid (HB.out.trans (HG0.out.mono HB.out.size))
  have BX0 := Lib.hid bx0; clear bx0
  clear HG0
  simp only [Act.put, rA, rB, rC]
  refine wpPlan_nil (hT.out _ _ ?_); clear hT T
  intro vw2 hg
  simp only [puts, Act.put, rA, rB, rC, rD, rE, ↓reduceIte, Nat.reduceEqDiff]
  have HG := Lib.hid (hg)
  clear hg
  replace BX0 := rG BX0 HG
  have r0 := Gr.refl vw2
  go_wp2
  refine hK.out _ _ ?_; clear hK K
  show Code.wp _ _ _ _ _
  clear r0
  have hsz : w.heap.size ≤ vw2.heap.size := Nat.le_trans HB.out.size HG.out.size
  refine forgetW (fun w2 => Rn w2 (.slice ao1 nn1 cc1) (a) ∧ NX w2 (vw2.heap.size) (a) ∧ Below w.heap.size w w2) ⟨(BX0.out).alloc _, (Bx.at (by simp) : Bx _ (vw2.heap.size) _ _), (HB.out.trans (HG.out.mono HB.out.size)).alloc (by first | omega | (simp; omega)) _⟩ ?_
  clear HB HG BX0
  rintro Wx3 ⟨bx0, bx1, HB⟩
  replace HB := Lib.hid HB
  have yx1 : w.heap.size ≤ vw2.heap.size := by omega
  generalize hx1 : vw2.heap.size = gx1 at *
  clear hx1
  clear hsz
  refine wp_seq ?_
  obtain ⟨u2, HZ2⟩ : ∃ z, Hid (rt (a) = z) := ⟨_, Lib.hid rfl⟩
  have su2 : wl (u2) ≤ 12 := by rw [← HZ2.out]; have := wl_mono (rt_self (a)); omega
  have HZ3 : Hid (rt (a) = u2) := Lib.hid (by first | omega | (try simp only [← HZ2.out]) <;> first | rfl | omega | (simp; done) | exact Nat.div_add_mod' _ _ | grind)
  have su3 : tw (u2) ≤ 36 := by have e := HZ3.out; first | omega | (rw [← e]; have := tw_mono (rt_self (a)); omega)
  have lx1 := bx1.cells
  have BX0 := Lib.hid bx0
  have BX1 := Lib.hid bx1
  clear bx0 bx1
  refine sK fun K hK => ?_
  have HS0 := Lib.hid (HB.out.size)
  have MX1 : gx1 < Wx3.heap.size := BX1.out.lt
  refine wp_region_seqplan 13 [(true, 0), (true, 1), (true, 2), (false, 3), (true, 4), (true, 5), (true, 6), (true, 7), (true, 8), (true, 9), (true, 10), (true, 11), (true, 12)] (by rfl) (by simp) (fun T hT => ?_)
  refine wpPlan_takeL (v := ?_) rfl (by rfl) (fun w' hw => ?_) ?_; rotate_left; go_simp; with_reducible rfl; simp only [Act.put, rA, rB, rC]
  refine wpPlan_callL rfl (by rfl) Tryd.call28 (fun w' hw => nzsqrt (a) (u2) _ HZ2.out (by omega)) (by rfl) ?_
  simp only [Act.put, rA, rB, rC]
  refine wpPlan_takeL (v := ?_) rfl (by rfl) (fun w' hw => ?_) ?_; rotate_left; go_simp; with_reducible rfl; simp only [Act.put, rA, rB, rC]
  refine wpPlan_callE rfl (by rfl) Tryd.call29 (by rfl) (fun w' hw => (zrsqrt _ (a) (u2) _ HZ3.out (BX0.out.gr hw) (by omega)).mono ?_)
  rintro e vv1 ⟨⟨rv2, rfl, bx2⟩, hg0⟩
  obtain ⟨ao2, nn2, cc2, rfl⟩ := Rn.sl bx2
  refine ⟨_, rfl, hg0, ?_⟩
  replace hg0 := Gr.trans hw hg0; clear hw
  have HG0 := Lib.hid hg0; clear hg0
  replace BX0 := rG BX0 HG0
  replace BX1 := bG BX1 HG0
  replace HB := Lib.hid (HB.out.trans (HG0.out.mono HB.out.size))
  have BX2 := Lib.hid bx2; clear bx2
  clear HG0
  clear lx1; have lx1 := BX1.out.cells
  simp only [Act.put, rA, rB, rC]
  refine wpPlan_callL rfl (by rfl) Tryd.call17 (fun w' hw => same_any (u2) (u2) _ _ (rfl) (BX2.out.gr hw) (by omega) (by omega) (Lib.hid (HT.out.gr (Gr.trans HB.out hw)))) (by rfl) ?_
  simp only [Act.put, rA, rB, rC]
  iterate 3 (refine wpPlan_takeL (v := ?_) rfl (by rfl) (fun w' hw => ?_) ?_; rotate_left; go_simp; with_reducible rfl; simp only [Act.put, rA, rB, rC])
  refine wpPlan_callL rfl (by rfl) Tryd.call30 (fun w' hw => nzbits (a) q _ HNB.out (by omega)) (by rfl) ?_
  simp only [Act.put, rA, rB, rC]
  refine wpPlan_takeL (v := ?_) rfl (by rfl) (fun w' hw => ?_) ?_; rotate_left; go_simp; with_reducible rfl; simp only [Act.put, rA, rB, rC]
  refine wpPlan_callL rfl (by rfl) Tryd.call31 (fun w' hw => zrbits _ (a) q _ HNB.out (BX0.out.gr hw) (by omega)) (by rfl) ?_
  simp only [Act.put, rA, rB, rC]
  iterate 2 (refine wpPlan_takeL (v := ?_) rfl (by rfl) (fun w' hw => ?_) ?_; rotate_left; go_simp; with_reducible rfl; simp only [Act.put, rA, rB, rC])
  refine wpPlan_nil (hT.out _ _ ?_); clear hT T
  intro vw3 hg
  simp only [puts, Act.put, rA, rB, rC, rD, rE, ↓reduceIte, Nat.reduceEqDiff]
  clear lx1
  have HG := Lib.hid (hg)
  clear hg
  replace BX0 := rG BX0 HG
  replace BX1 := bG BX1 HG
  replace BX2 := rG BX2 HG
  have r0 := Gr.refl vw3
  go_wp2
  refine hK.out _ _ ?_; clear hK K
  show Code.wp _ _ _ _ _
  clear r0
  refine forgetW (fun w2 => Rn w2 (.slice ao1 nn1 cc1) (a) ∧ NX w2 gx1 (a) ∧ Below w.heap.size w w2) ⟨BX0.out, BX1.out, HB.out.trans (HG.out.mono HB.out.size)⟩ ?_
  clear HB HG BX0 BX1 BX2
  rintro Wx4 ⟨bx0, bx1, HB⟩
  replace HB := Lib.hid HB
  refine wp_cond_false (by rfl) ?_
  refine wp_skip ?_
  show Code.wp _ _ _ _ _
  have BX0 := Lib.hid bx0
  have BX1 := Lib.hid bx1
  clear bx0 bx1
  refine sK fun K hK => ?_
  refine wp_region_seqplan 14 [(true, 0), (true, 1), (true, 2), (true, 3), (true, 4), (true, 5), (true, 6), (true, 7), (true, 8), (true, 9), (true, 10), (true, 11), (true, 12), (true, 13)] (by rfl) (by simp) (fun T hT => ?_)
  iterate 3 (refine wpPlan_takeL (v := ?_) rfl (by rfl) (fun w' hw => ?_) ?_; rotate_left; go_simp; with_reducible rfl; simp only [Act.put, rA, rB, rC])
  iterate 2 (refine wpPlan_skipL rfl (by rfl) ?_; simp only [Act.put, rA, rB, rC])
  iterate 2 (refine wpPlan_takeL (v := ?_) rfl (by rfl) (fun w' hw => ?_) ?_; rotate_left; go_simp; with_reducible rfl; simp only [Act.put, rA, rB, rC])
  iterate 5 (refine wpPlan_skipL rfl (by rfl) ?_; simp only [Act.put, rA, rB, rC])
  iterate 2 (refine wpPlan_takeL (v := ?_) rfl (by rfl) (fun w' hw => ?_) ?_; rotate_left; go_simp; with_reducible rfl; simp only [Act.put, rA, rB, rC])
  refine wpPlan_nil (hT.out _ _ ?_); clear hT T
  intro vw4 hg
  simp only [puts, Act.put, rA, rB, rC, rD, rE, ↓reduceIte, Nat.reduceEqDiff]
  have HG := Lib.hid (hg)
  clear hg
  replace BX0 := rG BX0 HG
  replace BX1 := bG BX1 HG
  have r0 := Gr.refl vw4
  go_wp2
  refine hK.out _ _ ?_; clear hK K
  show Code.wp _ _ _ _ _
  clear r0
  refine forgetW (fun w2 => Rn w2 (.slice ao1 nn1 cc1) (a) ∧ NX w2 gx1 (a) ∧ Below w.heap.size w w2) ⟨BX0.out, BX1.out, HB.out.trans (HG.out.mono HB.out.size)⟩ ?_
  clear HB HG BX0 BX1
  rintro Wx6 ⟨bx0, bx1, HB⟩
  replace HB := Lib.hid HB
  refine wp_seq ?_
  have hd2 : 4 < ((kx : Int)) := by omega
  have BX0 := Lib.hid bx0
  have BX1 := Lib.hid bx1
  clear bx0 bx1
  refine sK fun K hK => ?_
  refine wp_region_seqplan 23 [(true, 0), (true, 1), (true, 2), (true, 3), (true, 4), (true, 5), (true, 6), (true, 7), (true, 8), (true, 9), (true, 10), (true, 11), (true, 12), (true, 13), (true, 14), (true, 15), (true, 16), (true, 17), (true, 18), (true, 19), (true, 20), (true, 21), (true, 22)] (by rfl) (by simp) (fun T hT => ?_)
  iterate 6 (refine wpPlan_takeL (v := ?_) rfl (by rfl) (fun w' hw => ?_) ?_; rotate_left; go_simp; with_reducible rfl; simp only [Act.put, rA, rB, rC])
  iterate 2 (refine wpPlan_skipL rfl (by rfl) ?_; simp only [Act.put, rA, rB, rC])
  iterate 15 (refine wpPlan_takeL (v := ?_) rfl (by rfl) (fun w' hw => ?_) ?_; rotate_left; go_simp; with_reducible rfl; simp only [Act.put, rA, rB, rC])
  refine wpPlan_nil (hT.out _ _ ?_); clear hT T
  intro vw5 hg
  simp only [puts, Act.put, rA, rB, rC, rD, rE, ↓reduceIte, Nat.reduceEqDiff]
  have HG := Lib.hid (hg)
  clear hg
  replace BX0 := rG BX0 HG
  replace BX1 := bG BX1 HG
  have r0 := Gr.refl vw5
  go_wp2
  refine hK.out _ _ ?_; clear hK K
  show Code.wp _ _ _ _ _
  clear r0
  refine forgetW (fun w2 => Rn w2 (.slice ao1 nn1 cc1) (a) ∧ NX w2 gx1 (a) ∧ Below w.heap.size w w2) ⟨BX0.out, BX1.out, HB.out.trans (HG.out.mono HB.out.size)⟩ ?_
  clear HB HG BX0 BX1
  rintro Wx7 ⟨bx0, bx1, HB⟩
  replace HB := Lib.hid HB
  clear hd2
  refine wp_cond_true (by rfl) ?_
  have BX0 := Lib.hid bx0
  have BX1 := Lib.hid bx1
  clear bx0 bx1
  refine sK fun K hK => ?_
  refine wp_region_seqplan 2 [(true, 0), (true, 1)] (by rfl) (by simp) (fun T hT => ?_)
  refine wpPlan_callL rfl (by rfl) Tryd.call12 (fun w' hw => works_any _ (Lib.hid (HT.out.gr (Gr.trans HB.out hw)))) (by rfl) ?_
  simp only [Act.put, rA, rB, rC]
  refine wpPlan_takeL (v := ?_) rfl (by rfl) (fun w' hw => ?_) ?_; rotate_left; go_simp; with_reducible rfl; simp only [Act.put, rA, rB, rC]
  refine wpPlan_nil (hT.out _ _ ?_); clear hT T
  intro vw6 hg
  simp only [puts, Act.put, rA, rB, rC, rD, rE, ↓reduceIte, Nat.reduceEqDiff]
  have HG := Lib.hid (hg)
  clear hg
  replace BX0 := rG BX0 HG
  replace BX1 := bG BX1 HG
  have r0 := Gr.refl vw6
  go_wp2
  refine hK.out _ _ ?_; clear hK K
  show Code.wp _ _ _ _ _
  clear r0
  refine forgetW (fun w2 => Rn w2 (.slice ao1 nn1 cc1) (a) ∧ NX w2 gx1 (a) ∧ Below w.heap.size w w2) ⟨BX0.out, BX1.out, HB.out.trans (HG.out.mono HB.out.size)⟩ ?_
  clear HB HG BX0 BX1
  rintro Wx8 ⟨bx0, bx1, HB⟩
  replace HB := Lib.hid HB
  refine wp_ret ?_
  try simp only [Exit.then, Exit.inBlock]
  have r0 := Gr.refl Wx8
  exact bodyPost_ret (v := .bool true) (by simp [results, Tryd.results5, go_sem]) rfl ⟨rfl, HB.out⟩

set_option maxRecDepth 100000 in
set_option maxHeartbeats 4000000 in
theorem root_long (vx : Value) (kx : Nat) (fx : Nat → Nat) (a : Nat) (n m : Nat) (q : Nat) (w : World) (HWx : Hid (Wa w vx kx fx)) (HFx : Hid (∀ i, i < kx → fx i < 4294967296)) (HVx : Hid (vl fx kx = a)) (HNB : Hid (nb a = q)) (hq : q ≤ 384) (HMQ : Hid (n * q = m)) (hm : m ≤ 1572864) (hkx : kx ≤ 12) (hk4 : 4 < kx) (hn0 : 0 < n) (hn : n ≤ 20) (hg : m ≤ 262144) (HT : Hid (Tab w)) :
    Calls Tryd.prog 5 #[vx, .int .i64 (((n : Nat) : Int))] w fun e w' => e = .returned (.bool true) ∧ Below w.heap.size w w' := by
  obtain ⟨ao_x, c_x, rfl⟩ := HWx.out.slice
  have hb_a : wl a ≤ 12 := by rw [← HVx.out]; have := wl_le.2 (vl_lt HFx.out); omega
  go_enter Tryd.func5, Tryd.ntmps5
  refine sK fun K hK => ?_
  refine wp_region_lit ?_
  go_wp2
  refine hK.out _ _ ?_; clear hK K
  show Code.wp _ _ _ _ _
  refine forgetW (fun w2 => Below w.heap.size w w2) (Below.refl _ _) ?_
  rintro Wx HB
  replace HB := Lib.hid HB
  refine wp_seq ?_
  have hd1 : ¬ (12 < ((kx : Int))) := by omega
  refine sK fun K hK => ?_
  refine wp_region_seqplan 3 [(true, 0), (true, 1), (true, 2)] (by rfl) (by simp) (fun T hT => ?_)
  iterate 3 (refine wpPlan_takeL (v := ?_) rfl (by rfl) (fun w' hw => ?_) ?_; rotate_left; go_simp; with_reducible rfl; simp only [Act.put, rA, rB, rC])
  refine wpPlan_nil (hT.out _ _ ?_); clear hT T
  intro vw1 hg
  simp only [puts, Act.put, rA, rB, rC, rD, rE, ↓reduceIte, Nat.reduceEqDiff]
  have HG := Lib.hid (hg)
  clear hg
  have r0 := Gr.refl vw1
  go_wp2
  refine hK.out _ _ ?_; clear hK K
  show Code.wp _ _ _ _ _
  clear r0
  refine forgetW (fun w2 => Below w.heap.size w w2) (HB.out.trans (HG.out.mono HB.out.size)) ?_
  clear HB HG
  rintro Wx1 HB
  replace HB := Lib.hid HB
  clear hd1
  refine wp_cond_false (by rfl) ?_
  refine wp_skip ?_
  show Code.wp _ _ _ _ _
  have su1 : tw a ≤ 36 := by rw [← HVx.out]; have := tw_wl (vl fx kx); have := wl_le.2 (vl_lt HFx.out); omega
  refine sK fun K hK => ?_
  have HS0 := Lib.hid (HB.out.size)
  refine wp_region_seqplan 4 [(true, 0), (true, 1), (true, 2), (false, 3)] (by rfl) (by simp) (fun T hT => ?_)
  refine wpPlan_takeL (v := ?_) rfl (by rfl) (fun w' hw => ?_) ?_; rotate_left; go_simp; with_reducible rfl; simp only [Act.put, rA, rB, rC]
  refine wpPlan_callL rfl (by rfl) Tryd.call13 (fun w' hw => zmade _ kx fx a w _ HVx.out (by omega) HWx.out (Gr.trans HB.out hw) HFx.out) (by rfl) ?_
  simp only [Act.put, rA, rB, rC]
  refine wpPlan_takeL (v := ?_) rfl (by rfl) (fun w' hw => ?_) ?_; rotate_left; go_simp; with_reducible rfl; simp only [Act.put, rA, rB, rC]
  refine wpPlan_callE rfl (by rfl) Tryd.call14 (by rfl) (fun w' hw => (zrofw _ kx fx a w _ HVx.out (by omega) HWx.out (Gr.trans HB.out hw) HFx.out).mono ?_)
  rintro e vv1 ⟨⟨rv1, rfl, bx0⟩, hg0⟩
  obtain ⟨ao1, nn1, cc1, rfl⟩ := Rn.sl bx0
  refine ⟨_, rfl, hg0, ?_⟩
  replace hg0 := Gr.trans hw hg0; clear hw
  have HG0 := Lib.hid hg0; clear hg0
  replace HB := Lib.hid (HB.out.trans (HG0.out.mono HB.out.size))
  have BX0 := Lib.hid bx0; clear bx0
  clear HG0
  simp only [Act.put, rA, rB, rC]
  refine wpPlan_nil (hT.out _ _ ?_); clear hT T
  intro vw2 hg
  simp only [puts, Act.put, rA, rB, rC, rD, rE, ↓reduceIte, Nat.reduceEqDiff]
  have HG := Lib.hid (hg)
  clear hg
  replace BX0 := rG BX0 HG
  have r0 := Gr.refl vw2
  go_wp2
  refine hK.out _ _ ?_; clear hK K
  show Code.wp _ _ _ _ _
  clear r0
  have hsz : w.heap.size ≤ vw2.heap.size := Nat.le_trans HB.out.size HG.out.size
  refine forgetW (fun w2 => Rn w2 (.slice ao1 nn1 cc1) (a) ∧ NX w2 (vw2.heap.size) (a) ∧ Below w.heap.size w w2) ⟨(BX0.out).alloc _, (Bx.at (by simp) : Bx _ (vw2.heap.size) _ _), (HB.out.trans (HG.out.mono HB.out.size)).alloc (by first | omega | (simp; omega)) _⟩ ?_
  clear HB HG BX0
  rintro Wx3 ⟨bx0, bx1, HB⟩
  replace HB := Lib.hid HB
  have yx1 : w.heap.size ≤ vw2.heap.size := by omega
  generalize hx1 : vw2.heap.size = gx1 at *
  clear hx1
  clear hsz
  refine wp_seq ?_
  obtain ⟨u2, HZ2⟩ : ∃ z, Hid (rt (a) = z) := ⟨_, Lib.hid rfl⟩
  have su2 : wl (u2) ≤ 12 := by rw [← HZ2.out]; have := wl_mono (rt_self (a)); omega
  have HZ3 : Hid (rt (a) = u2) := Lib.hid (by first | omega | (try simp only [← HZ2.out]) <;> first | rfl | omega | (simp; done) | exact Nat.div_add_mod' _ _ | grind)
  have su3 : tw (u2) ≤ 36 := by have e := HZ3.out; first | omega | (rw [← e]; have := tw_mono (rt_self (a)); omega)
  have lx1 := bx1.cells
  have BX0 := Lib.hid bx0
  have BX1 := Lib.hid bx1
  clear bx0 bx1
  refine sK fun K hK => ?_
  have HS0 := Lib.hid (HB.out.size)
  have MX1 : gx1 < Wx3.heap.size := BX1.out.lt
  refine wp_region_seqplan 13 [(true, 0), (true, 1), (true, 2), (false, 3), (true, 4), (true, 5), (true, 6), (true, 7), (true, 8), (true, 9), (true, 10), (true, 11), (true, 12)] (by rfl) (by simp) (fun T hT => ?_)
  refine wpPlan_takeL (v := ?_) rfl (by rfl) (fun w' hw => ?_) ?_; rotate_left; go_simp; with_reducible rfl; simp only [Act.put, rA, rB, rC]
  refine wpPlan_callL rfl (by rfl) Tryd.call28 (fun w' hw => nzsqrt (a) (u2) _ HZ2.out (by omega)) (by rfl) ?_
  simp only [Act.put, rA, rB, rC]
  refine wpPlan_takeL (v := ?_) rfl (by rfl) (fun w' hw => ?_) ?_; rotate_left; go_simp; with_reducible rfl; simp only [Act.put, rA, rB, rC]
  refine wpPlan_callE rfl (by rfl) Tryd.call29 (by rfl) (fun w' hw => (zrsqrt _ (a) (u2) _ HZ3.out (BX0.out.gr hw) (by omega)).mono ?_)
  rintro e vv1 ⟨⟨rv2, rfl, bx2⟩, hg0⟩
  obtain ⟨ao2, nn2, cc2, rfl⟩ := Rn.sl bx2
  refine ⟨_, rfl, hg0, ?_⟩
  replace hg0 := Gr.trans hw hg0; clear hw
  have HG0 := Lib.hid hg0; clear hg0
  replace BX0 := rG BX0 HG0
  replace BX1 := bG BX1 HG0
  replace HB := Lib.hid (HB.out.trans (HG0.out.mono HB.out.size))
  have BX2 := Lib.hid bx2; clear bx2
  clear HG0
  clear lx1; have lx1 := BX1.out.cells
  simp only [Act.put, rA, rB, rC]
  refine wpPlan_callL rfl (by rfl) Tryd.call17 (fun w' hw => same_any (u2) (u2) _ _ (rfl) (BX2.out.gr hw) (by omega) (by omega) (Lib.hid (HT.out.gr (Gr.trans HB.out hw)))) (by rfl) ?_
  simp only [Act.put, rA, rB, rC]
  iterate 3 (refine wpPlan_takeL (v := ?_) rfl (by rfl) (fun w' hw => ?_) ?_; rotate_left; go_simp; with_reducible rfl; simp only [Act.put, rA, rB, rC])
  refine wpPlan_callL rfl (by rfl) Tryd.call30 (fun w' hw => nzbits (a) q _ HNB.out (by omega)) (by rfl) ?_
  simp only [Act.put, rA, rB, rC]
  refine wpPlan_takeL (v := ?_) rfl (by rfl) (fun w' hw => ?_) ?_; rotate_left; go_simp; with_reducible rfl; simp only [Act.put, rA, rB, rC]
  refine wpPlan_callL rfl (by rfl) Tryd.call31 (fun w' hw => zrbits _ (a) q _ HNB.out (BX0.out.gr hw) (by omega)) (by rfl) ?_
  simp only [Act.put, rA, rB, rC]
  iterate 2 (refine wpPlan_takeL (v := ?_) rfl (by rfl) (fun w' hw => ?_) ?_; rotate_left; go_simp; with_reducible rfl; simp only [Act.put, rA, rB, rC])
  refine wpPlan_nil (hT.out _ _ ?_); clear hT T
  intro vw3 hg
  simp only [puts, Act.put, rA, rB, rC, rD, rE, ↓reduceIte, Nat.reduceEqDiff]
  clear lx1
  have HG := Lib.hid (hg)
  clear hg
  replace BX0 := rG BX0 HG
  replace BX1 := bG BX1 HG
  replace BX2 := rG BX2 HG
  have r0 := Gr.refl vw3
  go_wp2
  refine hK.out _ _ ?_; clear hK K
  show Code.wp _ _ _ _ _
  clear r0
  refine forgetW (fun w2 => Rn w2 (.slice ao1 nn1 cc1) (a) ∧ NX w2 gx1 (a) ∧ Below w.heap.size w w2) ⟨BX0.out, BX1.out, HB.out.trans (HG.out.mono HB.out.size)⟩ ?_
  clear HB HG BX0 BX1 BX2
  rintro Wx4 ⟨bx0, bx1, HB⟩
  replace HB := Lib.hid HB
  refine wp_cond_false (by rfl) ?_
  refine wp_skip ?_
  show Code.wp _ _ _ _ _
  have hd2 : 0 < (((n : Nat) : Int)) := by omega
  have hd3 : 0 < n := by have e := hd2; omega
  have hd4 : (((n : Nat) : Int)) ≤ 4096 := by omega
  have hmul : ((n : Nat) : Int) * ((q : Nat) : Int) = (m : Int) := by rw [← HMQ.out]; exact (Int.natCast_mul _ _).symm
  have hmw : IntKind.i64.wrap (m : Int) = (m : Int) := by rw [IntKind.wrap_i64]; omega
  have hd5 : ¬ (262144 < ((m : Int))) := by omega
  have BX0 := Lib.hid bx0
  have BX1 := Lib.hid bx1
  clear bx0 bx1
  refine sK fun K hK => ?_
  refine wp_region_seqplan 14 [(true, 0), (true, 1), (true, 2), (true, 3), (true, 4), (true, 5), (true, 6), (true, 7), (true, 8), (true, 9), (true, 10), (true, 11), (true, 12), (true, 13)] (by rfl) (by simp) (fun T hT => ?_)
  iterate 9 (refine wpPlan_takeL (v := ?_) rfl (by rfl) (fun w' hw => ?_) ?_; rotate_left; go_simp; with_reducible rfl; simp only [Act.put, rA, rB, rC])
  refine wpPlan_callL rfl (by rfl) Tryd.call31 (fun w' hw => zrbits _ (a) q _ HNB.out (BX0.out.gr hw) (by omega)) (by rfl) ?_
  simp only [Act.put, rA, rB, rC]
  iterate 4 (refine wpPlan_takeL (v := ?_) rfl (by rfl) (fun w' hw => ?_) ?_; rotate_left; go_simp; with_reducible rfl; simp only [Act.put, rA, rB, rC])
  refine wpPlan_nil (hT.out _ _ ?_); clear hT T
  intro vw4 hg
  simp only [puts, Act.put, rA, rB, rC, rD, rE, ↓reduceIte, Nat.reduceEqDiff]
  have HG := Lib.hid (hg)
  clear hg
  replace BX0 := rG BX0 HG
  replace BX1 := bG BX1 HG
  have r0 := Gr.refl vw4
  go_wp2
  refine hK.out _ _ ?_; clear hK K
  show Code.wp _ _ _ _ _
  clear r0
  refine forgetW (fun w2 => Rn w2 (.slice ao1 nn1 cc1) (a) ∧ NX w2 gx1 (a) ∧ Below w.heap.size w w2) ⟨BX0.out, BX1.out, HB.out.trans (HG.out.mono HB.out.size)⟩ ?_
  clear HB HG BX0 BX1
  rintro Wx6 ⟨bx0, bx1, HB⟩
  replace HB := Lib.hid HB
  clear hd2 hd3 hd4 hmul hmw hd5
  refine wp_seq ?_
  have hd6 : ¬ (20 < (((n : Nat) : Int))) := by omega
  have hd7 : 0 ≤ (((n : Nat) : Int)) := by omega
  have hd8 : 0 ≤ n := by have e := hd7; omega
  have hd9 : (((n : Nat) : Int)) ≤ 4096 := by omega
  have hd10 : 4 < ((kx : Int)) := by omega
  have BX0 := Lib.hid bx0
  have BX1 := Lib.hid bx1
  clear bx0 bx1
  refine sK fun K hK => ?_
  refine wp_region_seqplan 23 [(true, 0), (true, 1), (true, 2), (true, 3), (true, 4), (true, 5), (true, 6), (true, 7), (true, 8), (true, 9), (true, 10), (true, 11), (true, 12), (true, 13), (true, 14), (true, 15), (true, 16), (true, 17), (true, 18), (true, 19), (true, 20), (true, 21), (true, 22)] (by rfl) (by simp) (fun T hT => ?_)
  iterate 6 (refine wpPlan_takeL (v := ?_) rfl (by rfl) (fun w' hw => ?_) ?_; rotate_left; go_simp; with_reducible rfl; simp only [Act.put, rA, rB, rC])
  iterate 2 (refine wpPlan_skipL rfl (by rfl) ?_; simp only [Act.put, rA, rB, rC])
  iterate 15 (refine wpPlan_takeL (v := ?_) rfl (by rfl) (fun w' hw => ?_) ?_; rotate_left; go_simp; with_reducible rfl; simp only [Act.put, rA, rB, rC])
  refine wpPlan_nil (hT.out _ _ ?_); clear hT T
  intro vw5 hg
  simp only [puts, Act.put, rA, rB, rC, rD, rE, ↓reduceIte, Nat.reduceEqDiff]
  have HG := Lib.hid (hg)
  clear hg
  replace BX0 := rG BX0 HG
  replace BX1 := bG BX1 HG
  have r0 := Gr.refl vw5
  go_wp2
  refine hK.out _ _ ?_; clear hK K
  show Code.wp _ _ _ _ _
  clear r0
  refine forgetW (fun w2 => Rn w2 (.slice ao1 nn1 cc1) (a) ∧ NX w2 gx1 (a) ∧ Below w.heap.size w w2) ⟨BX0.out, BX1.out, HB.out.trans (HG.out.mono HB.out.size)⟩ ?_
  clear HB HG BX0 BX1
  rintro Wx7 ⟨bx0, bx1, HB⟩
  replace HB := Lib.hid HB
  clear hd6 hd7 hd8 hd9 hd10
  refine wp_cond_true (by rfl) ?_
  have BX0 := Lib.hid bx0
  have BX1 := Lib.hid bx1
  clear bx0 bx1
  refine sK fun K hK => ?_
  refine wp_region_seqplan 2 [(true, 0), (true, 1)] (by rfl) (by simp) (fun T hT => ?_)
  refine wpPlan_callL rfl (by rfl) Tryd.call12 (fun w' hw => works_any _ (Lib.hid (HT.out.gr (Gr.trans HB.out hw)))) (by rfl) ?_
  simp only [Act.put, rA, rB, rC]
  refine wpPlan_takeL (v := ?_) rfl (by rfl) (fun w' hw => ?_) ?_; rotate_left; go_simp; with_reducible rfl; simp only [Act.put, rA, rB, rC]
  refine wpPlan_nil (hT.out _ _ ?_); clear hT T
  intro vw6 hg
  simp only [puts, Act.put, rA, rB, rC, rD, rE, ↓reduceIte, Nat.reduceEqDiff]
  have HG := Lib.hid (hg)
  clear hg
  replace BX0 := rG BX0 HG
  replace BX1 := bG BX1 HG
  have r0 := Gr.refl vw6
  go_wp2
  refine hK.out _ _ ?_; clear hK K
  show Code.wp _ _ _ _ _
  clear r0
  refine forgetW (fun w2 => Rn w2 (.slice ao1 nn1 cc1) (a) ∧ NX w2 gx1 (a) ∧ Below w.heap.size w w2) ⟨BX0.out, BX1.out, HB.out.trans (HG.out.mono HB.out.size)⟩ ?_
  clear HB HG BX0 BX1
  rintro Wx8 ⟨bx0, bx1, HB⟩
  replace HB := Lib.hid HB
  refine wp_ret ?_
  try simp only [Exit.then, Exit.inBlock]
  have r0 := Gr.refl Wx8
  exact bodyPost_ret (v := .bool true) (by simp [results, Tryd.results5, go_sem]) rfl ⟨rfl, HB.out⟩

set_option maxRecDepth 100000 in
set_option maxHeartbeats 4000000 in
theorem root_zero (vx : Value) (kx : Nat) (fx : Nat → Nat) (a : Nat)  (q : Nat) (w : World) (HWx : Hid (Wa w vx kx fx)) (HFx : Hid (∀ i, i < kx → fx i < 4294967296)) (HVx : Hid (vl fx kx = a)) (HNB : Hid (nb a = q)) (hq : q ≤ 384) (hkx : kx ≤ 4) (HT : Hid (Tab w)) :
    Calls Tryd.prog 5 #[vx, .int .i64 0] w fun e w' => e = .returned (.bool true) ∧ Below w.heap.size w w' := by
  obtain ⟨ao_x, c_x, rfl⟩ := HWx.out.slice
  have hb_a : wl a ≤ 4 := by rw [← HVx.out]; have := wl_le.2 (vl_lt HFx.out); omega
  go_enter Tryd.func5, Tryd.ntmps5
  refine sK fun K hK => ?_
  refine wp_region_lit ?_
  go_wp2
  refine hK.out _ _ ?_; clear hK K
  show Code.wp _ _ _ _ _
  refine forgetW (fun w2 => Below w.heap.size w w2) (Below.refl _ _) ?_
  rintro Wx HB
  replace HB := Lib.hid HB
  refine wp_seq ?_
  have hd1 : ¬ (12 < ((kx : Int))) := by omega
  refine sK fun K hK => ?_
  refine wp_region_seqplan 3 [(true, 0), (true, 1), (true, 2)] (by rfl) (by simp) (fun T hT => ?_)
  iterate 3 (refine wpPlan_takeL (v := ?_) rfl (by rfl) (fun w' hw => ?_) ?_; rotate_left; go_simp; with_reducible rfl; simp only [Act.put, rA, rB, rC])
  refine wpPlan_nil (hT.out _ _ ?_); clear hT T
  intro vw1 hg
  simp only [puts, Act.put, rA, rB, rC, rD, rE, ↓reduceIte, Nat.reduceEqDiff]
  have HG := Lib.hid (hg)
  clear hg
  have r0 := Gr.refl vw1
  go_wp2
  refine hK.out _ _ ?_; clear hK K
  show Code.wp _ _ _ _ _
  clear r0
  refine forgetW (fun w2 => Below w.heap.size w w2) (HB.out.trans (HG.out.mono HB.out.size)) ?_
  clear HB HG
  rintro Wx1 HB
  replace HB := Lib.hid HB
  clear hd1
  refine wp_cond_false (by rfl) ?_
  refine wp_skip ?_
  show Code.wp _ _ _ _ _
  have su1 : tw a ≤ 12 := by rw [← HVx.out]; have := tw_wl (vl fx kx); have := wl_le.2 (vl_lt HFx.out); omega
  refine sK fun K hK => ?_
  have HS0 := Lib.hid (HB.out.size)
  refine wp_region_seqplan 4 [(true, 0), (true, 1), (true, 2), (false, 3)] (by rfl) (by simp) (fun T hT => ?_)
  refine wpPlan_takeL (v := ?_) rfl (by rfl) (fun w' hw => ?_) ?_; rotate_left; go_simp; with_reducible rfl; simp only [Act.put, rA, rB, rC]
  refine wpPlan_callL rfl (by rfl) Tryd.call13 (fun w' hw => zmade _ kx fx a w _ HVx.out (by omega) HWx.out (Gr.trans HB.out hw) HFx.out) (by rfl) ?_
  simp only [Act.put, rA, rB, rC]
  refine wpPlan_takeL (v := ?_) rfl (by rfl) (fun w' hw => ?_) ?_; rotate_left; go_simp; with_reducible rfl; simp only [Act.put, rA, rB, rC]
  refine wpPlan_callE rfl (by rfl) Tryd.call14 (by rfl) (fun w' hw => (zrofw _ kx fx a w _ HVx.out (by omega) HWx.out (Gr.trans HB.out hw) HFx.out).mono ?_)
  rintro e vv1 ⟨⟨rv1, rfl, bx0⟩, hg0⟩
  obtain ⟨ao1, nn1, cc1, rfl⟩ := Rn.sl bx0
  refine ⟨_, rfl, hg0, ?_⟩
  replace hg0 := Gr.trans hw hg0; clear hw
  have HG0 := Lib.hid hg0; clear hg0
  replace HB := Lib.hid (HB.out.trans (HG0.out.mono HB.out.size))
  have BX0 := Lib.hid bx0; clear bx0
  clear HG0
  simp only [Act.put, rA, rB, rC]
  refine wpPlan_nil (hT.out _ _ ?_); clear hT T
  intro vw2 hg
  simp only [puts, Act.put, rA, rB, rC, rD, rE, ↓reduceIte, Nat.reduceEqDiff]
  have HG := Lib.hid (hg)
  clear hg
  replace BX0 := rG BX0 HG
  have r0 := Gr.refl vw2
  go_wp2
  refine hK.out _ _ ?_; clear hK K
  show Code.wp _ _ _ _ _
  clear r0
  have hsz : w.heap.size ≤ vw2.heap.size := Nat.le_trans HB.out.size HG.out.size
  refine forgetW (fun w2 => Rn w2 (.slice ao1 nn1 cc1) (a) ∧ NX w2 (vw2.heap.size) (a) ∧ Below w.heap.size w w2) ⟨(BX0.out).alloc _, (Bx.at (by simp) : Bx _ (vw2.heap.size) _ _), (HB.out.trans (HG.out.mono HB.out.size)).alloc (by first | omega | (simp; omega)) _⟩ ?_
  clear HB HG BX0
  rintro Wx3 ⟨bx0, bx1, HB⟩
  replace HB := Lib.hid HB
  have yx1 : w.heap.size ≤ vw2.heap.size := by omega
  generalize hx1 : vw2.heap.size = gx1 at *
  clear hx1
  clear hsz
  refine wp_seq ?_
  obtain ⟨u2, HZ2⟩ : ∃ z, Hid (rt (a) = z) := ⟨_, Lib.hid rfl⟩
  have su2 : wl (u2) ≤ 4 := by rw [← HZ2.out]; have := wl_mono (rt_self (a)); omega
  have HZ3 : Hid (rt (a) = u2) := Lib.hid (by first | omega | (try simp only [← HZ2.out]) <;> first | rfl | omega | (simp; done) | exact Nat.div_add_mod' _ _ | grind)
  have su3 : tw (u2) ≤ 12 := by have e := HZ3.out; first | omega | (rw [← e]; have := tw_mono (rt_self (a)); omega)
  have lx1 := bx1.cells
  have BX0 := Lib.hid bx0
  have BX1 := Lib.hid bx1
  clear bx0 bx1
  refine sK fun K hK => ?_
  have HS0 := Lib.hid (HB.out.size)
  have MX1 : gx1 < Wx3.heap.size := BX1.out.lt
  refine wp_region_seqplan 13 [(true, 0), (true, 1), (true, 2), (false, 3), (true, 4), (true, 5), (true, 6), (true, 7), (true, 8), (true, 9), (true, 10), (true, 11), (true, 12)] (by rfl) (by simp) (fun T hT => ?_)
  refine wpPlan_takeL (v := ?_) rfl (by rfl) (fun w' hw => ?_) ?_; rotate_left; go_simp; with_reducible rfl; simp only [Act.put, rA, rB, rC]
  refine wpPlan_callL rfl (by rfl) Tryd.call28 (fun w' hw => nzsqrt (a) (u2) _ HZ2.out (by omega)) (by rfl) ?_
  simp only [Act.put, rA, rB, rC]
  refine wpPlan_takeL (v := ?_) rfl (by rfl) (fun w' hw => ?_) ?_; rotate_left; go_simp; with_reducible rfl; simp only [Act.put, rA, rB, rC]
  refine wpPlan_callE rfl (by rfl) Tryd.call29 (by rfl) (fun w' hw => (zrsqrt _ (a) (u2) _ HZ3.out (BX0.out.gr hw) (by omega)).mono ?_)
  rintro e vv1 ⟨⟨rv2, rfl, bx2⟩, hg0⟩
  obtain ⟨ao2, nn2, cc2, rfl⟩ := Rn.sl bx2
  refine ⟨_, rfl, hg0, ?_⟩
  replace hg0 := Gr.trans hw hg0; clear hw
  have HG0 := Lib.hid hg0; clear hg0
  replace BX0 := rG BX0 HG0
  replace BX1 := bG BX1 HG0
  replace HB := Lib.hid (HB.out.trans (HG0.out.mono HB.out.size))
  have BX2 := Lib.hid bx2; clear bx2
  clear HG0
  clear lx1; have lx1 := BX1.out.cells
  simp only [Act.put, rA, rB, rC]
  refine wpPlan_callL rfl (by rfl) Tryd.call17 (fun w' hw => same_any (u2) (u2) _ _ (rfl) (BX2.out.gr hw) (by omega) (by omega) (Lib.hid (HT.out.gr (Gr.trans HB.out hw)))) (by rfl) ?_
  simp only [Act.put, rA, rB, rC]
  iterate 3 (refine wpPlan_takeL (v := ?_) rfl (by rfl) (fun w' hw => ?_) ?_; rotate_left; go_simp; with_reducible rfl; simp only [Act.put, rA, rB, rC])
  refine wpPlan_callL rfl (by rfl) Tryd.call30 (fun w' hw => nzbits (a) q _ HNB.out (by omega)) (by rfl) ?_
  simp only [Act.put, rA, rB, rC]
  refine wpPlan_takeL (v := ?_) rfl (by rfl) (fun w' hw => ?_) ?_; rotate_left; go_simp; with_reducible rfl; simp only [Act.put, rA, rB, rC]
  refine wpPlan_callL rfl (by rfl) Tryd.call31 (fun w' hw => zrbits _ (a) q _ HNB.out (BX0.out.gr hw) (by omega)) (by rfl) ?_
  simp only [Act.put, rA, rB, rC]
  iterate 2 (refine wpPlan_takeL (v := ?_) rfl (by rfl) (fun w' hw => ?_) ?_; rotate_left; go_simp; with_reducible rfl; simp only [Act.put, rA, rB, rC])
  refine wpPlan_nil (hT.out _ _ ?_); clear hT T
  intro vw3 hg
  simp only [puts, Act.put, rA, rB, rC, rD, rE, ↓reduceIte, Nat.reduceEqDiff]
  clear lx1
  have HG := Lib.hid (hg)
  clear hg
  replace BX0 := rG BX0 HG
  replace BX1 := bG BX1 HG
  replace BX2 := rG BX2 HG
  have r0 := Gr.refl vw3
  go_wp2
  refine hK.out _ _ ?_; clear hK K
  show Code.wp _ _ _ _ _
  clear r0
  refine forgetW (fun w2 => Rn w2 (.slice ao1 nn1 cc1) (a) ∧ NX w2 gx1 (a) ∧ Below w.heap.size w w2) ⟨BX0.out, BX1.out, HB.out.trans (HG.out.mono HB.out.size)⟩ ?_
  clear HB HG BX0 BX1 BX2
  rintro Wx4 ⟨bx0, bx1, HB⟩
  replace HB := Lib.hid HB
  refine wp_cond_false (by rfl) ?_
  refine wp_skip ?_
  show Code.wp _ _ _ _ _
  have BX0 := Lib.hid bx0
  have BX1 := Lib.hid bx1
  clear bx0 bx1
  refine sK fun K hK => ?_
  refine wp_region_seqplan 14 [(true, 0), (true, 1), (true, 2), (true, 3), (true, 4), (true, 5), (true, 6), (true, 7), (true, 8), (true, 9), (true, 10), (true, 11), (true, 12), (true, 13)] (by rfl) (by simp) (fun T hT => ?_)
  iterate 3 (refine wpPlan_takeL (v := ?_) rfl (by rfl) (fun w' hw => ?_) ?_; rotate_left; go_simp; with_reducible rfl; simp only [Act.put, rA, rB, rC])
  iterate 2 (refine wpPlan_skipL rfl (by rfl) ?_; simp only [Act.put, rA, rB, rC])
  iterate 2 (refine wpPlan_takeL (v := ?_) rfl (by rfl) (fun w' hw => ?_) ?_; rotate_left; go_simp; with_reducible rfl; simp only [Act.put, rA, rB, rC])
  iterate 5 (refine wpPlan_skipL rfl (by rfl) ?_; simp only [Act.put, rA, rB, rC])
  iterate 2 (refine wpPlan_takeL (v := ?_) rfl (by rfl) (fun w' hw => ?_) ?_; rotate_left; go_simp; with_reducible rfl; simp only [Act.put, rA, rB, rC])
  refine wpPlan_nil (hT.out _ _ ?_); clear hT T
  intro vw4 hg
  simp only [puts, Act.put, rA, rB, rC, rD, rE, ↓reduceIte, Nat.reduceEqDiff]
  have HG := Lib.hid (hg)
  clear hg
  replace BX0 := rG BX0 HG
  replace BX1 := bG BX1 HG
  have r0 := Gr.refl vw4
  go_wp2
  refine hK.out _ _ ?_; clear hK K
  show Code.wp _ _ _ _ _
  clear r0
  refine forgetW (fun w2 => Rn w2 (.slice ao1 nn1 cc1) (a) ∧ NX w2 gx1 (a) ∧ Below w.heap.size w w2) ⟨BX0.out, BX1.out, HB.out.trans (HG.out.mono HB.out.size)⟩ ?_
  clear HB HG BX0 BX1
  rintro Wx6 ⟨bx0, bx1, HB⟩
  replace HB := Lib.hid HB
  refine wp_seq ?_
  have hd2 : ¬ (4 < ((kx : Int))) := by omega
  have BX0 := Lib.hid bx0
  have BX1 := Lib.hid bx1
  clear bx0 bx1
  refine sK fun K hK => ?_
  refine wp_region_seqplan 23 [(true, 0), (true, 1), (true, 2), (true, 3), (true, 4), (true, 5), (true, 6), (true, 7), (true, 8), (true, 9), (true, 10), (true, 11), (true, 12), (true, 13), (true, 14), (true, 15), (true, 16), (true, 17), (true, 18), (true, 19), (true, 20), (true, 21), (true, 22)] (by rfl) (by simp) (fun T hT => ?_)
  iterate 6 (refine wpPlan_takeL (v := ?_) rfl (by rfl) (fun w' hw => ?_) ?_; rotate_left; go_simp; with_reducible rfl; simp only [Act.put, rA, rB, rC])
  iterate 2 (refine wpPlan_skipL rfl (by rfl) ?_; simp only [Act.put, rA, rB, rC])
  iterate 15 (refine wpPlan_takeL (v := ?_) rfl (by rfl) (fun w' hw => ?_) ?_; rotate_left; go_simp; with_reducible rfl; simp only [Act.put, rA, rB, rC])
  refine wpPlan_nil (hT.out _ _ ?_); clear hT T
  intro vw5 hg
  simp only [puts, Act.put, rA, rB, rC, rD, rE, ↓reduceIte, Nat.reduceEqDiff]
  have HG := Lib.hid (hg)
  clear hg
  replace BX0 := rG BX0 HG
  replace BX1 := bG BX1 HG
  have r0 := Gr.refl vw5
  go_wp2
  refine hK.out _ _ ?_; clear hK K
  show Code.wp _ _ _ _ _
  clear r0
  refine forgetW (fun w2 => Rn w2 (.slice ao1 nn1 cc1) (a) ∧ NX w2 gx1 (a) ∧ Below w.heap.size w w2) ⟨BX0.out, BX1.out, HB.out.trans (HG.out.mono HB.out.size)⟩ ?_
  clear HB HG BX0 BX1
  rintro Wx7 ⟨bx0, bx1, HB⟩
  replace HB := Lib.hid HB
  clear hd2
  refine wp_cond_false (by rfl) ?_
  refine wp_skip ?_
  show Code.wp _ _ _ _ _
  have HZ5 : Hid ((a) ^ 0 = 1) := Lib.hid (by first | omega | (try simp only [← HZ2.out]) <;> first | rfl | omega | (simp; done) | exact Nat.div_add_mod' _ _ | grind)
  have su5 : wl (1) ≤ 1 := by have e := HZ5.out; first | omega | (rw [← e]; omega) | exact wl_le.2 (by decide +kernel)
  have lx1 := bx1.cells
  have BX0 := Lib.hid bx0
  have BX1 := Lib.hid bx1
  clear bx0 bx1
  refine sK fun K hK => ?_
  refine wp_region_seqplan 6 [(true, 0), (true, 1), (true, 2), (true, 3), (true, 4), (true, 5)] (by rfl) (by simp) (fun T hT => ?_)
  iterate 2 (refine wpPlan_takeL (v := ?_) rfl (by rfl) (fun w' hw => ?_) ?_; rotate_left; go_simp; with_reducible rfl; simp only [Act.put, rA, rB, rC])
  refine wpPlan_callL rfl (by rfl) Tryd.call32 (fun w' hw => nzpow (a) 0 (1) _ HZ5.out (by decide) (by first | (simp; done) | decide +kernel | omega) (by omega)) (by rfl) ?_
  simp only [Act.put, rA, rB, rC]
  iterate 3 (refine wpPlan_takeL (v := ?_) rfl (by rfl) (fun w' hw => ?_) ?_; rotate_left; go_simp; with_reducible rfl; simp only [Act.put, rA, rB, rC])
  refine wpPlan_nil (hT.out _ _ ?_); clear hT T
  intro vw6 hg
  simp only [puts, Act.put, rA, rB, rC, rD, rE, ↓reduceIte, Nat.reduceEqDiff]
  clear lx1
  have HG := Lib.hid (hg)
  clear hg
  replace BX0 := rG BX0 HG
  replace BX1 := bG BX1 HG
  have r0 := Gr.refl vw6
  go_wp2
  refine hK.out _ _ ?_; clear hK K
  show Code.wp _ _ _ _ _
  clear r0
  have hsz : w.heap.size ≤ vw6.heap.size := Nat.le_trans HB.out.size HG.out.size
  have mx1 : gx1 < vw6.heap.size := BX1.out.lt
  refine forgetW (fun w2 => Rn w2 (.slice ao1 nn1 cc1) (a) ∧ NX w2 (vw6.heap.size) (1) ∧ Below w.heap.size w w2) ⟨(BX0.out).alloc _, (Bx.at (by simp) : Bx _ (vw6.heap.size) _ _), (HB.out.trans (HG.out.mono HB.out.size)).alloc (by first | omega | (simp; omega)) _⟩ ?_
  clear HB HG BX0 BX1
  rintro Wx9 ⟨bx0, bx3, HB⟩
  replace HB := Lib.hid HB
  have yx3 : w.heap.size ≤ vw6.heap.size := by omega
  have qx1_3 : gx1 < vw6.heap.size := by omega
  generalize hx3 : vw6.heap.size = gx3 at *
  clear hx3
  clear hsz mx1
  refine wp_seq ?_
  refine wp_block ?_
  have BX0 := Lib.hid bx0
  have BX3 := Lib.hid bx3
  clear bx0 bx3
  refine sK fun K hK => ?_
  refine wp_region_seqplan 3 [(true, 0), (true, 1), (true, 2)] (by rfl) (by simp) (fun T hT => ?_)
  iterate 3 (refine wpPlan_takeL (v := ?_) rfl (by rfl) (fun w' hw => ?_) ?_; rotate_left; go_simp; with_reducible rfl; simp only [Act.put, rA, rB, rC])
  refine wpPlan_nil (hT.out _ _ ?_); clear hT T
  intro vw7 hg
  simp only [puts, Act.put, rA, rB, rC, rD, rE, ↓reduceIte, Nat.reduceEqDiff]
  have HG := Lib.hid (hg)
  clear hg
  replace BX0 := rG BX0 HG
  replace BX3 := bG BX3 HG
  have r0 := Gr.refl vw7
  go_wp2
  refine hK.out _ _ ?_; clear hK K
  show Code.wp _ _ _ _ _
  clear r0
  refine forgetW (fun w2 => Rn w2 (.slice ao1 nn1 cc1) (a) ∧ NX w2 gx3 (1) ∧ Below w.heap.size w w2) ⟨BX0.out, BX3.out, HB.out.trans (HG.out.mono HB.out.size)⟩ ?_
  clear HB HG BX0 BX3
  rintro Wx10 ⟨bx0, bx3, HB⟩
  replace HB := Lib.hid HB
  refine wp_cond_false (by rfl) ?_
  have BX0 := Lib.hid bx0
  have BX3 := Lib.hid bx3
  clear bx0 bx3
  refine sK fun K hK => ?_
  refine wp_region_seqplan 6 [(true, 0), (true, 1), (true, 2), (true, 3), (true, 4), (true, 5)] (by rfl) (by simp) (fun T hT => ?_)
  iterate 6 (refine wpPlan_takeL (v := ?_) rfl (by rfl) (fun w' hw => ?_) ?_; rotate_left; go_simp; with_reducible rfl; simp only [Act.put, rA, rB, rC])
  refine wpPlan_nil (hT.out _ _ ?_); clear hT T
  intro vw8 hg
  simp only [puts, Act.put, rA, rB, rC, rD, rE, ↓reduceIte, Nat.reduceEqDiff]
  have HG := Lib.hid (hg)
  clear hg
  replace BX0 := rG BX0 HG
  replace BX3 := bG BX3 HG
  have r0 := Gr.refl vw8
  go_wp2
  refine hK.out _ _ ?_; clear hK K
  show Code.wp _ _ _ _ _
  clear r0
  refine forgetW (fun w2 => Rn w2 (.slice ao1 nn1 cc1) (a) ∧ NX w2 gx3 (1) ∧ Below w.heap.size w w2) ⟨BX0.out, BX3.out, HB.out.trans (HG.out.mono HB.out.size)⟩ ?_
  clear HB HG BX0 BX3
  rintro Wx12 ⟨bx0, bx3, HB⟩
  replace HB := Lib.hid HB
  refine wp_cond_false (by rfl) ?_
  refine wp_skip ?_
  show Code.wp _ _ _ _ _
  have HZ6 : Hid ((a) ^ 0 = 1) := Lib.hid (by first | omega | (try simp only [← HZ2.out]) <;> first | rfl | omega | (simp; done) | exact Nat.div_add_mod' _ _ | grind)
  have su6 : tw (1) ≤ 241 := by have e := HZ6.out; first | omega | (rw [← e]; have := tw_pow (a) 0; have := Nat.mul_le_mul (show 0 ≤ 20 by omega) (show tw (a) ≤ 12 by omega); omega) | exact tw_le.2 (by decide +kernel)
  have lx3 := bx3.cells
  have BX0 := Lib.hid bx0
  have BX3 := Lib.hid bx3
  clear bx0 bx3
  refine sK fun K hK => ?_
  have HS0 := Lib.hid (HB.out.size)
  have MX3 : gx3 < Wx12.heap.size := BX3.out.lt
  refine wp_region_plan 12 [] [] (fun _ => 0) (fun _ => .cells #[] 0) [(true, 0), (true, 1), (true, 2), (false, 3), (true, 4), (true, 5), (true, 6), (true, 7), (true, 8), (true, 9), (true, 10), (true, 11)] (by kernel_rfl) (by kernel_rfl) (fun i hi => by cases hi) (fun i hi => by cases hi) (fun _ _ _ _ _ h => h) (fun T hT => ?_)
  iterate 3 (refine wpPlan_takeL (v := ?_) rfl (by rfl) (fun w' hw => ?_) ?_; rotate_left; go_simp; with_reducible rfl; simp only [Act.put, rA, rB, rC])
  refine wpPlan_callE rfl (by rfl) Tryd.call33 (by rfl) (fun w' hw => (zrpow _ (a) 0 (1) _ HZ6.out (BX0.out.gr hw) (by decide) (by omega)).mono ?_)
  rintro e vv1 ⟨⟨rv3, rfl, bx4⟩, hg0⟩
  obtain ⟨ao3, nn3, cc3, rfl⟩ := Rn.sl bx4
  refine ⟨_, rfl, hg0, ?_⟩
  replace hg0 := Gr.trans hw hg0; clear hw
  have HG0 := Lib.hid hg0; clear hg0
  replace BX0 := rG BX0 HG0
  replace BX3 := bG BX3 HG0
  replace HB := Lib.hid (HB.out.trans (HG0.out.mono HB.out.size))
  have BX4 := Lib.hid bx4; clear bx4
  clear HG0
  clear lx3; have lx3 := BX3.out.cells
  simp only [Act.put, rA, rB, rC]
  refine wpPlan_callL rfl (by rfl) Tryd.call17 (fun w' hw => same_any (1) (1) _ _ (rfl) (BX4.out.gr hw) (by omega) (by omega) (Lib.hid (HT.out.gr (Gr.trans HB.out hw)))) (by rfl) ?_
  simp only [Act.put, rA, rB, rC]
  iterate 5 (refine wpPlan_takeL (v := ?_) rfl (by rfl) (fun w' hw => ?_) ?_; rotate_left; go_simp; with_reducible rfl; simp only [Act.put, rA, rB, rC])
  refine wpPlan_callL rfl (by rfl) Tryd.call12 (fun w' hw => works_any _ (Lib.hid (HT.out.gr (Gr.trans HB.out hw)))) (by rfl) ?_
  simp only [Act.put, rA, rB, rC]
  refine wpPlan_takeL (v := ?_) rfl (by rfl) (fun w' hw => ?_) ?_; rotate_left; go_simp; with_reducible rfl; simp only [Act.put, rA, rB, rC]
  refine wpPlan_nil (hT.out _ _ ?_); clear hT T
  intro G vw9 hg hf
  simp only [puts, Act.put, rA, rB, rC, rD, rE, ↓reduceIte, Nat.reduceEqDiff]
  clear lx3
  have HG := Lib.hid (hg)
  clear hg
  replace BX0 := rG BX0 HG
  replace BX3 := bG BX3 HG
  replace BX4 := rG BX4 HG
  have r0 := Gr.refl vw9
  go_wp2
  refine hK.out _ _ ?_; clear hK K
  show Code.wp _ _ _ _ _
  clear r0
  refine forgetW (fun w2 => Below w.heap.size w w2) (HB.out.trans (HG.out.mono HB.out.size)) ?_
  clear HB HG BX0 BX3 BX4
  rintro Wx14 HB
  replace HB := Lib.hid HB
  refine wp_ret ?_
  try simp only [Exit.then, Exit.inBlock]
  have r0 := Gr.refl Wx14
  exact bodyPost_ret (v := .bool true) (by simp [results, Tryd.results5, go_sem]) rfl ⟨rfl, HB.out⟩

set_option maxRecDepth 100000 in
set_option maxHeartbeats 4000000 in
theorem root_low (vx : Value) (kx : Nat) (fx : Nat → Nat) (a : Nat) (n m : Nat) (q : Nat) (w : World) (HWx : Hid (Wa w vx kx fx)) (HFx : Hid (∀ i, i < kx → fx i < 4294967296)) (HVx : Hid (vl fx kx = a)) (HNB : Hid (nb a = q)) (hq : q ≤ 384) (HMQ : Hid (n * q = m)) (hm : m ≤ 1572864) (hkx : kx ≤ 4) (hn0 : 0 < n) (hn : n ≤ 20) (hg : m ≤ 262144) (HT : Hid (Tab w)) :
    Calls Tryd.prog 5 #[vx, .int .i64 (((n : Nat) : Int))] w fun e w' => e = .returned (.bool true) ∧ Below w.heap.size w w' := by
  obtain ⟨ao_x, c_x, rfl⟩ := HWx.out.slice
  have hb_a : wl a ≤ 4 := by rw [← HVx.out]; have := wl_le.2 (vl_lt HFx.out); omega
  go_enter Tryd.func5, Tryd.ntmps5
  refine sK fun K hK => ?_
  refine wp_region_lit ?_
  go_wp2
  refine hK.out _ _ ?_; clear hK K
  show Code.wp _ _ _ _ _
  refine forgetW (fun w2 => Below w.heap.size w w2) (Below.refl _ _) ?_
  rintro Wx HB
  replace HB := Lib.hid HB
  refine wp_seq ?_
  have hd1 : ¬ (12 < ((kx : Int))) := by omega
  refine sK fun K hK => ?_
  refine wp_region_seqplan 3 [(true, 0), (true, 1), (true, 2)] (by rfl) (by simp) (fun T hT => ?_)
  iterate 3 (refine wpPlan_takeL (v := ?_) rfl (by rfl) (fun w' hw => ?_) ?_; rotate_left; go_simp; with_reducible rfl; simp only [Act.put, rA, rB, rC])
  refine wpPlan_nil (hT.out _ _ ?_); clear hT T
  intro vw1 hg
  simp only [puts, Act.put, rA, rB, rC, rD, rE, ↓reduceIte, Nat.reduceEqDiff]
  have HG := Lib.hid (hg)
  clear hg
  have r0 := Gr.refl vw1
  go_wp2
  refine hK.out _ _ ?_; clear hK K
  show Code.wp _ _ _ _ _
  clear r0
  refine forgetW (fun w2 => Below w.heap.size w w2) (HB.out.trans (HG.out.mono HB.out.size)) ?_
  clear HB HG
  rintro Wx1 HB
  replace HB := Lib.hid HB
  clear hd1
  refine wp_cond_false (by rfl) ?_
  refine wp_skip ?_
  show Code.wp _ _ _ _ _
  have su1 : tw a ≤ 12 := by rw [← HVx.out]; have := tw_wl (vl fx kx); have := wl_le.2 (vl_lt HFx.out); omega
  refine sK fun K hK => ?_
  have HS0 := Lib.hid (HB.out.size)
  refine wp_region_seqplan 4 [(true, 0), (true, 1), (true, 2), (false, 3)] (by rfl) (by simp) (fun T hT => ?_)
  refine wpPlan_takeL (v := ?_) rfl (by rfl) (fun w' hw => ?_) ?_; rotate_left; go_simp; with_reducible rfl; simp only [Act.put, rA, rB, rC]
  refine wpPlan_callL rfl (by rfl) Tryd.call13 (fun w' hw => zmade _ kx fx a w _ HVx.out (by omega) HWx.out (Gr.trans HB.out hw) HFx.out) (by rfl) ?_
  simp only [Act.put, rA, rB, rC]
  refine wpPlan_takeL (v := ?_) rfl (by rfl) (fun w' hw => ?_) ?_; rotate_left; go_simp; with_reducible rfl; simp only [Act.put, rA, rB, rC]
  refine wpPlan_callE rfl (by rfl) Tryd.call14 (by rfl) (fun w' hw => (zrofw _ kx fx a w _ HVx.out (by omega) HWx.out (Gr.trans HB.out hw) HFx.out).mono ?_)
  rintro e vv1 ⟨⟨rv1, rfl, bx0⟩, hg0⟩
  obtain ⟨ao1, nn1, cc1, rfl⟩ := Rn.sl bx0
  refine ⟨_, rfl, hg0, ?_⟩
  replace hg0 := Gr.trans hw hg0; clear hw
  have HG0 := Lib.hid hg0; clear hg0
  replace HB := Lib.hid (HB.out.trans (HG0.out.mono HB.out.size))
  have BX0 := Lib.hid bx0; clear bx0
  clear HG0
  simp only [Act.put, rA, rB, rC]
  refine wpPlan_nil (hT.out _ _ ?_); clear hT T
  intro vw2 hg
  simp only [puts, Act.put, rA, rB, rC, rD, rE, ↓reduceIte, Nat.reduceEqDiff]
  have HG := Lib.hid (hg)
  clear hg
  replace BX0 := rG BX0 HG
  have r0 := Gr.refl vw2
  go_wp2
  refine hK.out _ _ ?_; clear hK K
  show Code.wp _ _ _ _ _
  clear r0
  have hsz : w.heap.size ≤ vw2.heap.size := Nat.le_trans HB.out.size HG.out.size
  refine forgetW (fun w2 => Rn w2 (.slice ao1 nn1 cc1) (a) ∧ NX w2 (vw2.heap.size) (a) ∧ Below w.heap.size w w2) ⟨(BX0.out).alloc _, (Bx.at (by simp) : Bx _ (vw2.heap.size) _ _), (HB.out.trans (HG.out.mono HB.out.size)).alloc (by first | omega | (simp; omega)) _⟩ ?_
  clear HB HG BX0
  rintro Wx3 ⟨bx0, bx1, HB⟩
  replace HB := Lib.hid HB
  have yx1 : w.heap.size ≤ vw2.heap.size := by omega
  generalize hx1 : vw2.heap.size = gx1 at *
  clear hx1
  clear hsz
  refine wp_seq ?_
  obtain ⟨u2, HZ2⟩ : ∃ z, Hid (rt (a) = z) := ⟨_, Lib.hid rfl⟩
  have su2 : wl (u2) ≤ 4 := by rw [← HZ2.out]; have := wl_mono (rt_self (a)); omega
  have HZ3 : Hid (rt (a) = u2) := Lib.hid (by first | omega | (try simp only [← HZ2.out]) <;> first | rfl | omega | (simp; done) | exact Nat.div_add_mod' _ _ | grind)
  have su3 : tw (u2) ≤ 12 := by have e := HZ3.out; first | omega | (rw [← e]; have := tw_mono (rt_self (a)); omega)
  have lx1 := bx1.cells
  have BX0 := Lib.hid bx0
  have BX1 := Lib.hid bx1
  clear bx0 bx1
  refine sK fun K hK => ?_
  have HS0 := Lib.hid (HB.out.size)
  have MX1 : gx1 < Wx3.heap.size := BX1.out.lt
  refine wp_region_seqplan 13 [(true, 0), (true, 1), (true, 2), (false, 3), (true, 4), (true, 5), (true, 6), (true, 7), (true, 8), (true, 9), (true, 10), (true, 11), (true, 12)] (by rfl) (by simp) (fun T hT => ?_)
  refine wpPlan_takeL (v := ?_) rfl (by rfl) (fun w' hw => ?_) ?_; rotate_left; go_simp; with_reducible rfl; simp only [Act.put, rA, rB, rC]
  refine wpPlan_callL rfl (by rfl) Tryd.call28 (fun w' hw => nzsqrt (a) (u2) _ HZ2.out (by omega)) (by rfl) ?_
  simp only [Act.put, rA, rB, rC]
  refine wpPlan_takeL (v := ?_) rfl (by rfl) (fun w' hw => ?_) ?_; rotate_left; go_simp; with_reducible rfl; simp only [Act.put, rA, rB, rC]
  refine wpPlan_callE rfl (by rfl) Tryd.call29 (by rfl) (fun w' hw => (zrsqrt _ (a) (u2) _ HZ3.out (BX0.out.gr hw) (by omega)).mono ?_)
  rintro e vv1 ⟨⟨rv2, rfl, bx2⟩, hg0⟩
  obtain ⟨ao2, nn2, cc2, rfl⟩ := Rn.sl bx2
  refine ⟨_, rfl, hg0, ?_⟩
  replace hg0 := Gr.trans hw hg0; clear hw
  have HG0 := Lib.hid hg0; clear hg0
  replace BX0 := rG BX0 HG0
  replace BX1 := bG BX1 HG0
  replace HB := Lib.hid (HB.out.trans (HG0.out.mono HB.out.size))
  have BX2 := Lib.hid bx2; clear bx2
  clear HG0
  clear lx1; have lx1 := BX1.out.cells
  simp only [Act.put, rA, rB, rC]
  refine wpPlan_callL rfl (by rfl) Tryd.call17 (fun w' hw => same_any (u2) (u2) _ _ (rfl) (BX2.out.gr hw) (by omega) (by omega) (Lib.hid (HT.out.gr (Gr.trans HB.out hw)))) (by rfl) ?_
  simp only [Act.put, rA, rB, rC]
  iterate 3 (refine wpPlan_takeL (v := ?_) rfl (by rfl) (fun w' hw => ?_) ?_; rotate_left; go_simp; with_reducible rfl; simp only [Act.put, rA, rB, rC])
  refine wpPlan_callL rfl (by rfl) Tryd.call30 (fun w' hw => nzbits (a) q _ HNB.out (by omega)) (by rfl) ?_
  simp only [Act.put, rA, rB, rC]
  refine wpPlan_takeL (v := ?_) rfl (by rfl) (fun w' hw => ?_) ?_; rotate_left; go_simp; with_reducible rfl; simp only [Act.put, rA, rB, rC]
  refine wpPlan_callL rfl (by rfl) Tryd.call31 (fun w' hw => zrbits _ (a) q _ HNB.out (BX0.out.gr hw) (by omega)) (by rfl) ?_
  simp only [Act.put, rA, rB, rC]
  iterate 2 (refine wpPlan_takeL (v := ?_) rfl (by rfl) (fun w' hw => ?_) ?_; rotate_left; go_simp; with_reducible rfl; simp only [Act.put, rA, rB, rC])
  refine wpPlan_nil (hT.out _ _ ?_); clear hT T
  intro vw3 hg
  simp only [puts, Act.put, rA, rB, rC, rD, rE, ↓reduceIte, Nat.reduceEqDiff]
  clear lx1
  have HG := Lib.hid (hg)
  clear hg
  replace BX0 := rG BX0 HG
  replace BX1 := bG BX1 HG
  replace BX2 := rG BX2 HG
  have r0 := Gr.refl vw3
  go_wp2
  refine hK.out _ _ ?_; clear hK K
  show Code.wp _ _ _ _ _
  clear r0
  refine forgetW (fun w2 => Rn w2 (.slice ao1 nn1 cc1) (a) ∧ NX w2 gx1 (a) ∧ Below w.heap.size w w2) ⟨BX0.out, BX1.out, HB.out.trans (HG.out.mono HB.out.size)⟩ ?_
  clear HB HG BX0 BX1 BX2
  rintro Wx4 ⟨bx0, bx1, HB⟩
  replace HB := Lib.hid HB
  refine wp_cond_false (by rfl) ?_
  refine wp_skip ?_
  show Code.wp _ _ _ _ _
  have hd2 : 0 < (((n : Nat) : Int)) := by omega
  have hd3 : 0 < n := by have e := hd2; omega
  have hd4 : (((n : Nat) : Int)) ≤ 4096 := by omega
  have hmul : ((n : Nat) : Int) * ((q : Nat) : Int) = (m : Int) := by rw [← HMQ.out]; exact (Int.natCast_mul _ _).symm
  have hmw : IntKind.i64.wrap (m : Int) = (m : Int) := by rw [IntKind.wrap_i64]; omega
  have hd5 : ¬ (262144 < ((m : Int))) := by omega
  have BX0 := Lib.hid bx0
  have BX1 := Lib.hid bx1
  clear bx0 bx1
  refine sK fun K hK => ?_
  refine wp_region_seqplan 14 [(true, 0), (true, 1), (true, 2), (true, 3), (true, 4), (true, 5), (true, 6), (true, 7), (true, 8), (true, 9), (true, 10), (true, 11), (true, 12), (true, 13)] (by rfl) (by simp) (fun T hT => ?_)
  iterate 9 (refine wpPlan_takeL (v := ?_) rfl (by rfl) (fun w' hw => ?_) ?_; rotate_left; go_simp; with_reducible rfl; simp only [Act.put, rA, rB, rC])
  refine wpPlan_callL rfl (by rfl) Tryd.call31 (fun w' hw => zrbits _ (a) q _ HNB.out (BX0.out.gr hw) (by omega)) (by rfl) ?_
  simp only [Act.put, rA, rB, rC]
  iterate 4 (refine wpPlan_takeL (v := ?_) rfl (by rfl) (fun w' hw => ?_) ?_; rotate_left; go_simp; with_reducible rfl; simp only [Act.put, rA, rB, rC])
  refine wpPlan_nil (hT.out _ _ ?_); clear hT T
  intro vw4 hg
  simp only [puts, Act.put, rA, rB, rC, rD, rE, ↓reduceIte, Nat.reduceEqDiff]
  have HG := Lib.hid (hg)
  clear hg
  replace BX0 := rG BX0 HG
  replace BX1 := bG BX1 HG
  have r0 := Gr.refl vw4
  go_wp2
  refine hK.out _ _ ?_; clear hK K
  show Code.wp _ _ _ _ _
  clear r0
  refine forgetW (fun w2 => Rn w2 (.slice ao1 nn1 cc1) (a) ∧ NX w2 gx1 (a) ∧ Below w.heap.size w w2) ⟨BX0.out, BX1.out, HB.out.trans (HG.out.mono HB.out.size)⟩ ?_
  clear HB HG BX0 BX1
  rintro Wx6 ⟨bx0, bx1, HB⟩
  replace HB := Lib.hid HB
  clear hd2 hd3 hd4 hmul hmw hd5
  refine wp_seq ?_
  have hd6 : ¬ (20 < (((n : Nat) : Int))) := by omega
  have hd7 : 0 ≤ (((n : Nat) : Int)) := by omega
  have hd8 : 0 ≤ n := by have e := hd7; omega
  have hd9 : (((n : Nat) : Int)) ≤ 4096 := by omega
  have hd10 : ¬ (4 < ((kx : Int))) := by omega
  have BX0 := Lib.hid bx0
  have BX1 := Lib.hid bx1
  clear bx0 bx1
  refine sK fun K hK => ?_
  refine wp_region_seqplan 23 [(true, 0), (true, 1), (true, 2), (true, 3), (true, 4), (true, 5), (true, 6), (true, 7), (true, 8), (true, 9), (true, 10), (true, 11), (true, 12), (true, 13), (true, 14), (true, 15), (true, 16), (true, 17), (true, 18), (true, 19), (true, 20), (true, 21), (true, 22)] (by rfl) (by simp) (fun T hT => ?_)
  iterate 6 (refine wpPlan_takeL (v := ?_) rfl (by rfl) (fun w' hw => ?_) ?_; rotate_left; go_simp; with_reducible rfl; simp only [Act.put, rA, rB, rC])
  iterate 2 (refine wpPlan_skipL rfl (by rfl) ?_; simp only [Act.put, rA, rB, rC])
  iterate 15 (refine wpPlan_takeL (v := ?_) rfl (by rfl) (fun w' hw => ?_) ?_; rotate_left; go_simp; with_reducible rfl; simp only [Act.put, rA, rB, rC])
  refine wpPlan_nil (hT.out _ _ ?_); clear hT T
  intro vw5 hg
  simp only [puts, Act.put, rA, rB, rC, rD, rE, ↓reduceIte, Nat.reduceEqDiff]
  have HG := Lib.hid (hg)
  clear hg
  replace BX0 := rG BX0 HG
  replace BX1 := bG BX1 HG
  have r0 := Gr.refl vw5
  go_wp2
  refine hK.out _ _ ?_; clear hK K
  show Code.wp _ _ _ _ _
  clear r0
  refine forgetW (fun w2 => Rn w2 (.slice ao1 nn1 cc1) (a) ∧ NX w2 gx1 (a) ∧ Below w.heap.size w w2) ⟨BX0.out, BX1.out, HB.out.trans (HG.out.mono HB.out.size)⟩ ?_
  clear HB HG BX0 BX1
  rintro Wx7 ⟨bx0, bx1, HB⟩
  replace HB := Lib.hid HB
  clear hd6 hd7 hd8 hd9 hd10
  refine wp_cond_false (by rfl) ?_
  refine wp_skip ?_
  show Code.wp _ _ _ _ _
  obtain ⟨u5, HZ5⟩ : ∃ z, Hid ((a) ^ n = z) := ⟨_, Lib.hid rfl⟩
  have su5 : wl (u5) ≤ 8192 := by rw [← HZ5.out]; exact wl_pow _ _ (by rw [HNB.out, HMQ.out]; omega)
  have lx1 := bx1.cells
  have BX0 := Lib.hid bx0
  have BX1 := Lib.hid bx1
  clear bx0 bx1
  refine sK fun K hK => ?_
  refine wp_region_seqplan 6 [(true, 0), (true, 1), (true, 2), (true, 3), (true, 4), (true, 5)] (by rfl) (by simp) (fun T hT => ?_)
  iterate 2 (refine wpPlan_takeL (v := ?_) rfl (by rfl) (fun w' hw => ?_) ?_; rotate_left; go_simp; with_reducible rfl; simp only [Act.put, rA, rB, rC])
  refine wpPlan_callL rfl (by rfl) Tryd.call32 (fun w' hw => nzpow (a) n (u5) _ HZ5.out (by omega) (by rw [HNB.out, HMQ.out]; omega) (by omega)) (by rfl) ?_
  simp only [Act.put, rA, rB, rC]
  iterate 3 (refine wpPlan_takeL (v := ?_) rfl (by rfl) (fun w' hw => ?_) ?_; rotate_left; go_simp; with_reducible rfl; simp only [Act.put, rA, rB, rC])
  refine wpPlan_nil (hT.out _ _ ?_); clear hT T
  intro vw6 hg
  simp only [puts, Act.put, rA, rB, rC, rD, rE, ↓reduceIte, Nat.reduceEqDiff]
  clear lx1
  have HG := Lib.hid (hg)
  clear hg
  replace BX0 := rG BX0 HG
  replace BX1 := bG BX1 HG
  have r0 := Gr.refl vw6
  go_wp2
  refine hK.out _ _ ?_; clear hK K
  show Code.wp _ _ _ _ _
  clear r0
  have hsz : w.heap.size ≤ vw6.heap.size := Nat.le_trans HB.out.size HG.out.size
  have mx1 : gx1 < vw6.heap.size := BX1.out.lt
  refine forgetW (fun w2 => Rn w2 (.slice ao1 nn1 cc1) (a) ∧ NX w2 (vw6.heap.size) (u5) ∧ Below w.heap.size w w2) ⟨(BX0.out).alloc _, (Bx.at (by simp) : Bx _ (vw6.heap.size) _ _), (HB.out.trans (HG.out.mono HB.out.size)).alloc (by first | omega | (simp; omega)) _⟩ ?_
  clear HB HG BX0 BX1
  rintro Wx9 ⟨bx0, bx3, HB⟩
  replace HB := Lib.hid HB
  have yx3 : w.heap.size ≤ vw6.heap.size := by omega
  have qx1_3 : gx1 < vw6.heap.size := by omega
  generalize hx3 : vw6.heap.size = gx3 at *
  clear hx3
  clear hsz mx1
  refine wp_seq ?_
  refine wp_block ?_
  have hd11 : ¬ ((((n : Nat) : Int)) < 0) := by omega
  have hd12 : ¬ (n < 0) := by have e := hd11; omega
  have BX0 := Lib.hid bx0
  have BX3 := Lib.hid bx3
  clear bx0 bx3
  refine sK fun K hK => ?_
  refine wp_region_seqplan 3 [(true, 0), (true, 1), (true, 2)] (by rfl) (by simp) (fun T hT => ?_)
  iterate 3 (refine wpPlan_takeL (v := ?_) rfl (by rfl) (fun w' hw => ?_) ?_; rotate_left; go_simp; with_reducible rfl; simp only [Act.put, rA, rB, rC])
  refine wpPlan_nil (hT.out _ _ ?_); clear hT T
  intro vw7 hg
  simp only [puts, Act.put, rA, rB, rC, rD, rE, ↓reduceIte, Nat.reduceEqDiff]
  have HG := Lib.hid (hg)
  clear hg
  replace BX0 := rG BX0 HG
  replace BX3 := bG BX3 HG
  have r0 := Gr.refl vw7
  go_wp2
  refine hK.out _ _ ?_; clear hK K
  show Code.wp _ _ _ _ _
  clear r0
  refine forgetW (fun w2 => Rn w2 (.slice ao1 nn1 cc1) (a) ∧ NX w2 gx3 (u5) ∧ Below w.heap.size w w2) ⟨BX0.out, BX3.out, HB.out.trans (HG.out.mono HB.out.size)⟩ ?_
  clear HB HG BX0 BX3
  rintro Wx10 ⟨bx0, bx3, HB⟩
  replace HB := Lib.hid HB
  clear hd11 hd12
  refine wp_cond_false (by rfl) ?_
  have hd13 : ¬ (4096 < (((n : Nat) : Int))) := by omega
  have BX0 := Lib.hid bx0
  have BX3 := Lib.hid bx3
  clear bx0 bx3
  refine sK fun K hK => ?_
  refine wp_region_seqplan 6 [(true, 0), (true, 1), (true, 2), (true, 3), (true, 4), (true, 5)] (by rfl) (by simp) (fun T hT => ?_)
  iterate 6 (refine wpPlan_takeL (v := ?_) rfl (by rfl) (fun w' hw => ?_) ?_; rotate_left; go_simp; with_reducible rfl; simp only [Act.put, rA, rB, rC])
  refine wpPlan_nil (hT.out _ _ ?_); clear hT T
  intro vw8 hg
  simp only [puts, Act.put, rA, rB, rC, rD, rE, ↓reduceIte, Nat.reduceEqDiff]
  have HG := Lib.hid (hg)
  clear hg
  replace BX0 := rG BX0 HG
  replace BX3 := bG BX3 HG
  have r0 := Gr.refl vw8
  go_wp2
  refine hK.out _ _ ?_; clear hK K
  show Code.wp _ _ _ _ _
  clear r0
  refine forgetW (fun w2 => Rn w2 (.slice ao1 nn1 cc1) (a) ∧ NX w2 gx3 (u5) ∧ Below w.heap.size w w2) ⟨BX0.out, BX3.out, HB.out.trans (HG.out.mono HB.out.size)⟩ ?_
  clear HB HG BX0 BX3
  rintro Wx12 ⟨bx0, bx3, HB⟩
  replace HB := Lib.hid HB
  clear hd13
  refine wp_cond_false (by rfl) ?_
  refine wp_skip ?_
  show Code.wp _ _ _ _ _
  have HZ6 : Hid ((a) ^ n = u5) := Lib.hid (by first | omega | (try simp only [← HZ5.out, ← HZ2.out]) <;> first | rfl | omega | (simp; done) | exact Nat.div_add_mod' _ _ | grind)
  have su6 : tw (u5) ≤ 241 := by have e := HZ6.out; first | omega | (rw [← e]; have := tw_pow (a) n; have := Nat.mul_le_mul (show n ≤ 20 by omega) (show tw (a) ≤ 12 by omega); omega)
  have lx3 := bx3.cells
  have BX0 := Lib.hid bx0
  have BX3 := Lib.hid bx3
  clear bx0 bx3
  refine sK fun K hK => ?_
  have HS0 := Lib.hid (HB.out.size)
  have MX3 : gx3 < Wx12.heap.size := BX3.out.lt
  refine wp_region_plan 12 [] [] (fun _ => 0) (fun _ => .cells #[] 0) [(true, 0), (true, 1), (true, 2), (false, 3), (true, 4), (true, 5), (true, 6), (true, 7), (true, 8), (true, 9), (true, 10), (true, 11)] (by kernel_rfl) (by kernel_rfl) (fun i hi => by cases hi) (fun i hi => by cases hi) (fun _ _ _ _ _ h => h) (fun T hT => ?_)
  iterate 3 (refine wpPlan_takeL (v := ?_) rfl (by rfl) (fun w' hw => ?_) ?_; rotate_left; go_simp; with_reducible rfl; simp only [Act.put, rA, rB, rC])
  refine wpPlan_callE rfl (by rfl) Tryd.call33 (by rfl) (fun w' hw => (zrpow _ (a) n (u5) _ HZ6.out (BX0.out.gr hw) (by omega) (by omega)).mono ?_)
  rintro e vv1 ⟨⟨rv3, rfl, bx4⟩, hg0⟩
  obtain ⟨ao3, nn3, cc3, rfl⟩ := Rn.sl bx4
  refine ⟨_, rfl, hg0, ?_⟩
  replace hg0 := Gr.trans hw hg0; clear hw
  have HG0 := Lib.hid hg0; clear hg0
  replace BX0 := rG BX0 HG0
  replace BX3 := bG BX3 HG0
  replace HB := Lib.hid (HB.out.trans (HG0.out.mono HB.out.size))
  have BX4 := Lib.hid bx4; clear bx4
  clear HG0
  clear lx3; have lx3 := BX3.out.cells
  simp only [Act.put, rA, rB, rC]
  refine wpPlan_callL rfl (by rfl) Tryd.call17 (fun w' hw => same_any (u5) (u5) _ _ (rfl) (BX4.out.gr hw) (by omega) (by omega) (Lib.hid (HT.out.gr (Gr.trans HB.out hw)))) (by rfl) ?_
  simp only [Act.put, rA, rB, rC]
  iterate 5 (refine wpPlan_takeL (v := ?_) rfl (by rfl) (fun w' hw => ?_) ?_; rotate_left; go_simp; with_reducible rfl; simp only [Act.put, rA, rB, rC])
  refine wpPlan_callL rfl (by rfl) Tryd.call12 (fun w' hw => works_any _ (Lib.hid (HT.out.gr (Gr.trans HB.out hw)))) (by rfl) ?_
  simp only [Act.put, rA, rB, rC]
  refine wpPlan_takeL (v := ?_) rfl (by rfl) (fun w' hw => ?_) ?_; rotate_left; go_simp; with_reducible rfl; simp only [Act.put, rA, rB, rC]
  refine wpPlan_nil (hT.out _ _ ?_); clear hT T
  intro G vw9 hg hf
  simp only [puts, Act.put, rA, rB, rC, rD, rE, ↓reduceIte, Nat.reduceEqDiff]
  clear lx3
  have HG := Lib.hid (hg)
  clear hg
  replace BX0 := rG BX0 HG
  replace BX3 := bG BX3 HG
  replace BX4 := rG BX4 HG
  have r0 := Gr.refl vw9
  go_wp2
  refine hK.out _ _ ?_; clear hK K
  show Code.wp _ _ _ _ _
  clear r0
  refine forgetW (fun w2 => Below w.heap.size w w2) (HB.out.trans (HG.out.mono HB.out.size)) ?_
  clear HB HG BX0 BX3 BX4
  rintro Wx14 HB
  replace HB := Lib.hid HB
  refine wp_ret ?_
  try simp only [Exit.then, Exit.inBlock]
  have r0 := Gr.refl Wx14
  exact bodyPost_ret (v := .bool true) (by simp [results, Tryd.results5, go_sem]) rfl ⟨rfl, HB.out⟩

theorem roots_law (vx : Value) (kx : Nat) (fx : Nat → Nat) (n : Int) (w : World) (HWx : Hid (Wa w vx kx fx)) (HFx : Hid (∀ i, i < kx → fx i < 4294967296)) (lo : -9223372036854775808 ≤ n) (hi : n ≤ 9223372036854775807) (HT : Hid (Tab w)) :
    Calls Tryd.prog 5 #[vx, .int .i64 n] w fun e w' => e = .returned (.bool true) ∧ Below w.heap.size w w' := by
  obtain ⟨a, ha⟩ : ∃ z, vl fx kx = z := ⟨_, rfl⟩
  by_cases hkx : kx ≤ 12
  · obtain ⟨q, hq⟩ : ∃ q, nb a = q := ⟨_, rfl⟩
    have hwa : wl a ≤ 12 := by rw [← ha]; have := wl_le.2 (vl_lt HFx.out); omega
    have hqb : q ≤ 384 := by rw [← hq]; have := nb_wl a; omega
    by_cases hneg : n < 0
    · exact root_neg vx kx fx a n q w HWx HFx (Lib.hid ha) (Lib.hid hq) hqb hkx hneg lo HT
    · by_cases hfar : 4096 < n
      · exact root_far vx kx fx a n q w HWx HFx (Lib.hid ha) (Lib.hid hq) hqb hkx hfar hi HT
      · obtain ⟨N, rfl⟩ : ∃ N : Nat, n = (N : Int) := ⟨n.toNat, by omega⟩
        obtain ⟨m, hm⟩ : ∃ m, N * q = m := ⟨_, rfl⟩
        have hmb : m ≤ 1572864 := by rw [← hm]; exact Nat.mul_le_mul (show N ≤ 4096 by omega) hqb
        by_cases h0 : N = 0
        · subst h0
          by_cases h4 : kx ≤ 4
          · exact root_zero vx kx fx a q w HWx HFx (Lib.hid ha) (Lib.hid hq) hqb h4 HT
          · exact root_zlong vx kx fx a q w HWx HFx (Lib.hid ha) (Lib.hid hq) hqb hkx (by omega) HT
        · by_cases hg : m ≤ 262144
          · by_cases h20 : N ≤ 20
            · by_cases h4 : kx ≤ 4
              · exact root_low vx kx fx a N m q w HWx HFx (Lib.hid ha) (Lib.hid hq) hqb (Lib.hid hm) hmb h4 (by omega) h20 hg HT
              · exact root_long vx kx fx a N m q w HWx HFx (Lib.hid ha) (Lib.hid hq) hqb (Lib.hid hm) hmb hkx (by omega) (by omega) h20 hg HT
            · exact root_mid vx kx fx a N m q w HWx HFx (Lib.hid ha) (Lib.hid hq) hqb (Lib.hid hm) hmb hkx (by omega) (by omega) hg HT
          · exact root_great vx kx fx a N m q w HWx HFx (Lib.hid ha) (Lib.hid hq) hqb (Lib.hid hm) hmb hkx (by omega) (by omega) (by omega) HT
  · exact root_big vx kx fx a n w HWx HFx (Lib.hid ha) (by omega) HT

end Go.Proofs.YteenojfbnbkedaaDoor
