/- Parts of the row's proof: 5 texts in one. No condition but those stated. -/
import Derived.Test.YtenpbnmmadbkdaaGreatG5

/- gussetref23: Turn, On, Middle. -/
namespace Go.Proofs.YtenpbnmmadbkdaaGreat
open Go.RowKit
set_option linter.unusedSimpArgs false
set_option linter.unusedVariables false
attribute [local go_sem ↓] Go.wp_at_zero Go.wp_at_succ
set_option maxRecDepth 20000 in
set_option maxHeartbeats 2000000 in
theorem rpturn (a1 a2 b1 b2 c1 c2 : Rat) (t : Int) (va11 va12 va21 va22 vb11 vb12 vb21 vb22 vc11 vc12 vc21 vc22 : Value) (w : World) (ht : turn a1 a2 b1 b2 c1 c2 = t) (hs_a1 : rz a1 ≤ 1000000) (hs_a2 : rz a2 ≤ 1000000) (hs_b1 : rz b1 ≤ 1000000) (hs_b2 : rz b2 ≤ 1000000) (hs_c1 : rz c1 ≤ 1000000) (hs_c2 : rz c2 ≤ 1000000) (bx21 : Rn w va11 (a1.num.natAbs)) (bx22 : Rn w va12 (a1.den - 1)) (bx23 : Rn w va21 (a2.num.natAbs)) (bx24 : Rn w va22 (a2.den - 1)) (bx25 : Rn w vb11 (b1.num.natAbs)) (bx26 : Rn w vb12 (b1.den - 1)) (bx27 : Rn w vb21 (b2.num.natAbs)) (bx28 : Rn w vb22 (b2.den - 1)) (bx29 : Rn w vc11 (c1.num.natAbs)) (bx30 : Rn w vc12 (c1.den - 1)) (bx31 : Rn w vc21 (c2.num.natAbs)) (bx32 : Rn w vc22 (c2.den - 1)) :
    Calls Tryz.prog 7 #[(Value.agg #[.bool (decide (a1.num < 0)), va11, va12, .bool (decide (a2.num < 0)), va21, va22]), (Value.agg #[.bool (decide (b1.num < 0)), vb11, vb12, .bool (decide (b2.num < 0)), vb21, vb22]), (Value.agg #[.bool (decide (c1.num < 0)), vc11, vc12, .bool (decide (c2.num < 0)), vc21, vc22])] w fun e w' => e = .returned (.int .i64 (t)) ∧ Below w.heap.size w w' := by
  replace ht := Lib.hid ht
  obtain ⟨ao_va11, n_va11, c_va11, rfl⟩ := Rn.sl bx21
  obtain ⟨ao_va12, n_va12, c_va12, rfl⟩ := Rn.sl bx22
  obtain ⟨ao_va21, n_va21, c_va21, rfl⟩ := Rn.sl bx23
  obtain ⟨ao_va22, n_va22, c_va22, rfl⟩ := Rn.sl bx24
  obtain ⟨ao_vb11, n_vb11, c_vb11, rfl⟩ := Rn.sl bx25
  obtain ⟨ao_vb12, n_vb12, c_vb12, rfl⟩ := Rn.sl bx26
  obtain ⟨ao_vb21, n_vb21, c_vb21, rfl⟩ := Rn.sl bx27
  obtain ⟨ao_vb22, n_vb22, c_vb22, rfl⟩ := Rn.sl bx28
  obtain ⟨ao_vc11, n_vc11, c_vc11, rfl⟩ := Rn.sl bx29
  obtain ⟨ao_vc12, n_vc12, c_vc12, rfl⟩ := Rn.sl bx30
  obtain ⟨ao_vc21, n_vc21, c_vc21, rfl⟩ := Rn.sl bx31
  obtain ⟨ao_vc22, n_vc22, c_vc22, rfl⟩ := Rn.sl bx32
  go_enter Tryz.func7, Tryz.ntmps7
  -- region 0
  refine wp_seq_k fun K hK => ?_
  replace hK := Lib.hid hK
  refine wp_region_lit ?_
  go_wp2
  refine hK.out _ _ ?_; clear hK K
  show Code.wp _ _ _ _ _
  refine forgetW (fun w2 => Rn w2 (.slice ao_va11 n_va11 c_va11) (a1.num.natAbs) ∧ Rn w2 (.slice ao_va12 n_va12 c_va12) (a1.den - 1) ∧ Rn w2 (.slice ao_va21 n_va21 c_va21) (a2.num.natAbs) ∧ Rn w2 (.slice ao_va22 n_va22 c_va22) (a2.den - 1) ∧ Rn w2 (.slice ao_vb11 n_vb11 c_vb11) (b1.num.natAbs) ∧ Rn w2 (.slice ao_vb12 n_vb12 c_vb12) (b1.den - 1) ∧ Rn w2 (.slice ao_vb21 n_vb21 c_vb21) (b2.num.natAbs) ∧ Rn w2 (.slice ao_vb22 n_vb22 c_vb22) (b2.den - 1) ∧ Rn w2 (.slice ao_vc11 n_vc11 c_vc11) (c1.num.natAbs) ∧ Rn w2 (.slice ao_vc12 n_vc12 c_vc12) (c1.den - 1) ∧ Rn w2 (.slice ao_vc21 n_vc21 c_vc21) (c2.num.natAbs) ∧ Rn w2 (.slice ao_vc22 n_vc22 c_vc22) (c2.den - 1) ∧ Bx w2 (w.heap.size) 47 #[.bool (decide (a1.num < 0)), (.slice ao_va11 n_va11 c_va11), (.slice ao_va12 n_va12 c_va12), .bool (decide (a2.num < 0)), (.slice ao_va21 n_va21 c_va21), (.slice ao_va22 n_va22 c_va22)] ∧ Bx w2 (w.heap.size + 1) 47 #[.bool (decide (b1.num < 0)), (.slice ao_vb11 n_vb11 c_vb11), (.slice ao_vb12 n_vb12 c_vb12), .bool (decide (b2.num < 0)), (.slice ao_vb21 n_vb21 c_vb21), (.slice ao_vb22 n_vb22 c_vb22)] ∧ Bx w2 (w.heap.size + 1 + 1) 47 #[.bool (decide (c1.num < 0)), (.slice ao_vc11 n_vc11 c_vc11), (.slice ao_vc12 n_vc12 c_vc12), .bool (decide (c2.num < 0)), (.slice ao_vc21 n_vc21 c_vc21), (.slice ao_vc22 n_vc22 c_vc22)] ∧ Below w.heap.size w w2) ⟨(((bx21).alloc _).alloc _).alloc _, (((bx22).alloc _).alloc _).alloc _, (((bx23).alloc _).alloc _).alloc _, (((bx24).alloc _).alloc _).alloc _, (((bx25).alloc _).alloc _).alloc _, (((bx26).alloc _).alloc _).alloc _, (((bx27).alloc _).alloc _).alloc _, (((bx28).alloc _).alloc _).alloc _, (((bx29).alloc _).alloc _).alloc _, (((bx30).alloc _).alloc _).alloc _, (((bx31).alloc _).alloc _).alloc _, (((bx32).alloc _).alloc _).alloc _, ((Bx.at rfl).alloc _).alloc _, (Bx.at (by simp)).alloc _, Bx.at (by simp), (((Below.refl _ _).alloc (Nat.le_refl _) _).alloc (by simp) _).alloc (by simp; omega) _⟩ ?_
  clear bx21 bx22 bx23 bx24 bx25 bx26 bx27 bx28 bx29 bx30 bx31 bx32
  rintro Wx ⟨bx21, bx22, bx23, bx24, bx25, bx26, bx27, bx28, bx29, bx30, bx31, bx32, bx33, bx34, bx35, HB⟩
  replace HB := Lib.hid HB
  -- region 1
  obtain ⟨u1, HZ1⟩ : ∃ z, Hid ((b1) - (a1) = z) := ⟨_, Lib.hid rfl⟩
  have su1 : rz u1 ≤ 2000001 := by rw [← HZ1.out]; have := rz_sub (b1) (a1); omega
  obtain ⟨u2, HZ2⟩ : ∃ z, Hid ((b2) - (a2) = z) := ⟨_, Lib.hid rfl⟩
  have su2 : rz u2 ≤ 2000001 := by rw [← HZ2.out]; have := rz_sub (b2) (a2); omega
  obtain ⟨u3, HZ3⟩ : ∃ z, Hid ((c1) - (a1) = z) := ⟨_, Lib.hid rfl⟩
  have su3 : rz u3 ≤ 2000001 := by rw [← HZ3.out]; have := rz_sub (c1) (a1); omega
  obtain ⟨u4, HZ4⟩ : ∃ z, Hid ((c2) - (a2) = z) := ⟨_, Lib.hid rfl⟩
  have su4 : rz u4 ≤ 2000001 := by rw [← HZ4.out]; have := rz_sub (c2) (a2); omega
  obtain ⟨u5, HZ5⟩ : ∃ z, Hid ((u1) * (u4) - (u2) * (u3) = z) := ⟨_, Lib.hid rfl⟩
  have su5 : rz u5 ≤ 8000005 := by rw [← HZ5.out]; have := rz_cross (u1) (u2) (u3) (u4); omega
  have lx33 := bx33.cells
  have lx34 := bx34.cells
  have lx35 := bx35.cells
  have BX21 := Lib.hid bx21
  have BX22 := Lib.hid bx22
  have BX23 := Lib.hid bx23
  have BX24 := Lib.hid bx24
  have BX25 := Lib.hid bx25
  have BX26 := Lib.hid bx26
  have BX27 := Lib.hid bx27
  have BX28 := Lib.hid bx28
  have BX29 := Lib.hid bx29
  have BX30 := Lib.hid bx30
  have BX31 := Lib.hid bx31
  have BX32 := Lib.hid bx32
  have BX33 := Lib.hid bx33
  have BX34 := Lib.hid bx34
  have BX35 := Lib.hid bx35
  clear bx21 bx22 bx23 bx24 bx25 bx26 bx27 bx28 bx29 bx30 bx31 bx32 bx33 bx34 bx35
  refine wp_seq_k fun K hK => ?_
  replace hK := Lib.hid hK
  have HS0 := Lib.hid (HB.out.size)
  have MX33 : w.heap.size < Wx.heap.size := BX33.out.lt
  have MX34 : w.heap.size + 1 < Wx.heap.size := BX34.out.lt
  have MX35 : w.heap.size + 1 + 1 < Wx.heap.size := BX35.out.lt
  refine wp_region_plan 8 [] [] (fun _ => 0) (fun _ => .cells #[] 0) [(true, 0), (true, 1), (true, 3), (true, 4), (false, 2), (false, 5), (false, 6), (true, 7)] (by kernel_rfl) (by kernel_rfl) (fun i hi => by cases hi) (fun i hi => by cases hi) (fun _ _ _ _ _ h => h) (fun T hT => ?_)
  iterate 4
    refine wpPlan_takeL (v := ?_) rfl (by rfl) (fun w' hw => ?_) ?_
    rotate_left
    · go_simp
      with_reducible rfl
    simp only [Act.put, rA, rB, rC]
  refine wpPlan_callE rfl (by rfl) Tryz.call20 (by rfl) (fun w' hw => (rpsub (b1) (b2) (a1) (a2) (u1) (u2) _ _ _ _ _ _ _ _ _ HZ1.out HZ2.out (by omega) (by omega) (by omega) (by omega) (BX25.out.gr hw) (BX26.out.gr hw) (BX27.out.gr hw) (BX28.out.gr hw) (BX21.out.gr hw) (BX22.out.gr hw) (BX23.out.gr hw) (BX24.out.gr hw)).mono ?_)
  rintro e vv1 ⟨⟨rv1, rv2, rv3, rv4, rfl, bx36, bx37, bx38, bx39⟩, hg0⟩
  obtain ⟨ao1, nn1, cc1, rfl⟩ := Rn.sl bx36
  obtain ⟨ao2, nn2, cc2, rfl⟩ := Rn.sl bx37
  obtain ⟨ao3, nn3, cc3, rfl⟩ := Rn.sl bx38
  obtain ⟨ao4, nn4, cc4, rfl⟩ := Rn.sl bx39
  refine ⟨_, rfl, hg0, ?_⟩
  replace hg0 := Gr.trans hw hg0; clear hw
  have HG0 := Lib.hid hg0; clear hg0
  replace BX21 := rG BX21 HG0
  replace BX22 := rG BX22 HG0
  replace BX23 := rG BX23 HG0
  replace BX24 := rG BX24 HG0
  replace BX25 := rG BX25 HG0
  replace BX26 := rG BX26 HG0
  replace BX27 := rG BX27 HG0
  replace BX28 := rG BX28 HG0
  replace BX29 := rG BX29 HG0
  replace BX30 := rG BX30 HG0
  replace BX31 := rG BX31 HG0
  replace BX32 := rG BX32 HG0
  replace BX33 := bG BX33 HG0
  replace BX34 := bG BX34 HG0
  replace BX35 := bG BX35 HG0
  replace HB := Lib.hid (HB.out.trans (HG0.out.mono HB.out.size))
  have BX36 := Lib.hid bx36; clear bx36
  have BX37 := Lib.hid bx37; clear bx37
  have BX38 := Lib.hid bx38; clear bx38
  have BX39 := Lib.hid bx39; clear bx39
  clear HG0
  clear lx33; have lx33 := BX33.out.cells
  clear lx34; have lx34 := BX34.out.cells
  clear lx35; have lx35 := BX35.out.cells
  simp only [Act.put, rA, rB, rC]
  refine wpPlan_callE rfl (by rfl) Tryz.call20 (by rfl) (fun w' hw => (rpsub (c1) (c2) (a1) (a2) (u3) (u4) _ _ _ _ _ _ _ _ _ HZ3.out HZ4.out (by omega) (by omega) (by omega) (by omega) (BX29.out.gr hw) (BX30.out.gr hw) (BX31.out.gr hw) (BX32.out.gr hw) (BX21.out.gr hw) (BX22.out.gr hw) (BX23.out.gr hw) (BX24.out.gr hw)).mono ?_)
  rintro e vv2 ⟨⟨rv5, rv6, rv7, rv8, rfl, bx40, bx41, bx42, bx43⟩, hg0⟩
  obtain ⟨ao5, nn5, cc5, rfl⟩ := Rn.sl bx40
  obtain ⟨ao6, nn6, cc6, rfl⟩ := Rn.sl bx41
  obtain ⟨ao7, nn7, cc7, rfl⟩ := Rn.sl bx42
  obtain ⟨ao8, nn8, cc8, rfl⟩ := Rn.sl bx43
  refine ⟨_, rfl, hg0, ?_⟩
  replace hg0 := Gr.trans hw hg0; clear hw
  have HG0 := Lib.hid hg0; clear hg0
  replace BX21 := rG BX21 HG0
  replace BX22 := rG BX22 HG0
  replace BX23 := rG BX23 HG0
  replace BX24 := rG BX24 HG0
  replace BX25 := rG BX25 HG0
  replace BX26 := rG BX26 HG0
  replace BX27 := rG BX27 HG0
  replace BX28 := rG BX28 HG0
  replace BX29 := rG BX29 HG0
  replace BX30 := rG BX30 HG0
  replace BX31 := rG BX31 HG0
  replace BX32 := rG BX32 HG0
  replace BX33 := bG BX33 HG0
  replace BX34 := bG BX34 HG0
  replace BX35 := bG BX35 HG0
  replace BX36 := rG BX36 HG0
  replace BX37 := rG BX37 HG0
  replace BX38 := rG BX38 HG0
  replace BX39 := rG BX39 HG0
  replace HB := Lib.hid (HB.out.trans (HG0.out.mono HB.out.size))
  have BX40 := Lib.hid bx40; clear bx40
  have BX41 := Lib.hid bx41; clear bx41
  have BX42 := Lib.hid bx42; clear bx42
  have BX43 := Lib.hid bx43; clear bx43
  clear HG0
  clear lx33; have lx33 := BX33.out.cells
  clear lx34; have lx34 := BX34.out.cells
  clear lx35; have lx35 := BX35.out.cells
  simp only [Act.put, rA, rB, rC]
  refine wpPlan_callE rfl (by rfl) Tryz.call19 (by rfl) (fun w' hw => (rpcross (u1) (u2) (u3) (u4) (u5) _ _ _ _ _ _ _ _ _ HZ5.out (by omega) (by omega) (by omega) (by omega) (BX36.out.gr hw) (BX37.out.gr hw) (BX38.out.gr hw) (BX39.out.gr hw) (BX40.out.gr hw) (BX41.out.gr hw) (BX42.out.gr hw) (BX43.out.gr hw)).mono ?_)
  rintro e vv3 ⟨⟨rv9, rv10, rfl, bx44, bx45⟩, hg0⟩
  obtain ⟨ao9, nn9, cc9, rfl⟩ := Rn.sl bx44
  obtain ⟨ao10, nn10, cc10, rfl⟩ := Rn.sl bx45
  refine ⟨_, rfl, hg0, ?_⟩
  replace hg0 := Gr.trans hw hg0; clear hw
  have HG0 := Lib.hid hg0; clear hg0
  replace BX21 := rG BX21 HG0
  replace BX22 := rG BX22 HG0
  replace BX23 := rG BX23 HG0
  replace BX24 := rG BX24 HG0
  replace BX25 := rG BX25 HG0
  replace BX26 := rG BX26 HG0
  replace BX27 := rG BX27 HG0
  replace BX28 := rG BX28 HG0
  replace BX29 := rG BX29 HG0
  replace BX30 := rG BX30 HG0
  replace BX31 := rG BX31 HG0
  replace BX32 := rG BX32 HG0
  replace BX33 := bG BX33 HG0
  replace BX34 := bG BX34 HG0
  replace BX35 := bG BX35 HG0
  replace BX36 := rG BX36 HG0
  replace BX37 := rG BX37 HG0
  replace BX38 := rG BX38 HG0
  replace BX39 := rG BX39 HG0
  replace BX40 := rG BX40 HG0
  replace BX41 := rG BX41 HG0
  replace BX42 := rG BX42 HG0
  replace BX43 := rG BX43 HG0
  replace HB := Lib.hid (HB.out.trans (HG0.out.mono HB.out.size))
  have BX44 := Lib.hid bx44; clear bx44
  have BX45 := Lib.hid bx45; clear bx45
  clear HG0
  clear lx33; have lx33 := BX33.out.cells
  clear lx34; have lx34 := BX34.out.cells
  clear lx35; have lx35 := BX35.out.cells
  simp only [Act.put, rA, rB, rC]
  refine wpPlan_callL rfl (by rfl) Tryz.call18 (fun w' hw => qsign_any (u5) (t) _ _ _ (by simp only [← HZ5.out, ← HZ4.out, ← HZ3.out, ← HZ2.out, ← HZ1.out]; exact ht.out) (BX44.out.gr hw) (BX45.out.gr hw)) (by rfl) ?_
  simp only [Act.put, rA, rB, rC]
  refine wpPlan_nil (hT.out _ _ ?_); clear hT T
  intro G vw1 hg hf
  simp only [puts, Act.put, rA, rB, rC, rD, rE, ↓reduceIte, Nat.reduceEqDiff]
  clear lx33 lx34 lx35
  have HG := Lib.hid (hg)
  clear hg
  replace BX21 := rG BX21 HG
  replace BX22 := rG BX22 HG
  replace BX23 := rG BX23 HG
  replace BX24 := rG BX24 HG
  replace BX25 := rG BX25 HG
  replace BX26 := rG BX26 HG
  replace BX27 := rG BX27 HG
  replace BX28 := rG BX28 HG
  replace BX29 := rG BX29 HG
  replace BX30 := rG BX30 HG
  replace BX31 := rG BX31 HG
  replace BX32 := rG BX32 HG
  replace BX33 := bG BX33 HG
  replace BX34 := bG BX34 HG
  replace BX35 := bG BX35 HG
  replace BX36 := rG BX36 HG
  replace BX37 := rG BX37 HG
  replace BX38 := rG BX38 HG
  replace BX39 := rG BX39 HG
  replace BX40 := rG BX40 HG
  replace BX41 := rG BX41 HG
  replace BX42 := rG BX42 HG
  replace BX43 := rG BX43 HG
  replace BX44 := rG BX44 HG
  replace BX45 := rG BX45 HG
  have r0 := Gr.refl vw1
  go_wp2
  refine hK.out _ _ ?_; clear hK K
  show Code.wp _ _ _ _ _
  clear r0
  refine forgetW (fun w2 => Below w.heap.size w w2) (HB.out.trans (HG.out.mono HB.out.size)) ?_
  clear HB HG BX21 BX22 BX23 BX24 BX25 BX26 BX27 BX28 BX29 BX30 BX31 BX32 BX33 BX34 BX35 BX36 BX37 BX38 BX39 BX40 BX41 BX42 BX43 BX44 BX45
  rintro Wx1 HB
  replace HB := Lib.hid HB
  refine wp_ret ?_
  try simp only [Exit.then, Exit.inBlock]
  have r0 := Gr.refl Wx1
  exact bodyPost_ret (v := .int .i64 (t)) (by simp [results, Tryz.results7, go_sem]) rfl ⟨rfl, HB.out⟩

set_option maxRecDepth 20000 in
set_option maxHeartbeats 2000000 in
theorem rpon_no (a1 a2 b1 b2 p1 p2 : Rat) (t : Int) (va11 va12 va21 va22 vb11 vb12 vb21 vb22 vp11 vp12 vp21 vp22 : Value) (w : World) (ht : Hid (turn a1 a2 b1 b2 p1 p2 = t)) (h0 : (t == 0) = false) (hs_a1 : rz a1 ≤ 1000000) (hs_a2 : rz a2 ≤ 1000000) (hs_b1 : rz b1 ≤ 1000000) (hs_b2 : rz b2 ≤ 1000000) (hs_p1 : rz p1 ≤ 1000000) (hs_p2 : rz p2 ≤ 1000000) (bx21 : Rn w va11 (a1.num.natAbs)) (bx22 : Rn w va12 (a1.den - 1)) (bx23 : Rn w va21 (a2.num.natAbs)) (bx24 : Rn w va22 (a2.den - 1)) (bx25 : Rn w vb11 (b1.num.natAbs)) (bx26 : Rn w vb12 (b1.den - 1)) (bx27 : Rn w vb21 (b2.num.natAbs)) (bx28 : Rn w vb22 (b2.den - 1)) (bx29 : Rn w vp11 (p1.num.natAbs)) (bx30 : Rn w vp12 (p1.den - 1)) (bx31 : Rn w vp21 (p2.num.natAbs)) (bx32 : Rn w vp22 (p2.den - 1)) :
    Calls Tryz.prog 9 #[(Value.agg #[.bool (decide (a1.num < 0)), va11, va12, .bool (decide (a2.num < 0)), va21, va22]), (Value.agg #[.bool (decide (b1.num < 0)), vb11, vb12, .bool (decide (b2.num < 0)), vb21, vb22]), (Value.agg #[.bool (decide (p1.num < 0)), vp11, vp12, .bool (decide (p2.num < 0)), vp21, vp22])] w fun e w' => e = .returned (.bool false) ∧ Below w.heap.size w w' := by
  obtain ⟨ao_va11, n_va11, c_va11, rfl⟩ := Rn.sl bx21
  obtain ⟨ao_va12, n_va12, c_va12, rfl⟩ := Rn.sl bx22
  obtain ⟨ao_va21, n_va21, c_va21, rfl⟩ := Rn.sl bx23
  obtain ⟨ao_va22, n_va22, c_va22, rfl⟩ := Rn.sl bx24
  obtain ⟨ao_vb11, n_vb11, c_vb11, rfl⟩ := Rn.sl bx25
  obtain ⟨ao_vb12, n_vb12, c_vb12, rfl⟩ := Rn.sl bx26
  obtain ⟨ao_vb21, n_vb21, c_vb21, rfl⟩ := Rn.sl bx27
  obtain ⟨ao_vb22, n_vb22, c_vb22, rfl⟩ := Rn.sl bx28
  obtain ⟨ao_vp11, n_vp11, c_vp11, rfl⟩ := Rn.sl bx29
  obtain ⟨ao_vp12, n_vp12, c_vp12, rfl⟩ := Rn.sl bx30
  obtain ⟨ao_vp21, n_vp21, c_vp21, rfl⟩ := Rn.sl bx31
  obtain ⟨ao_vp22, n_vp22, c_vp22, rfl⟩ := Rn.sl bx32
  go_enter Tryz.func9, Tryz.ntmps9
  -- region 0
  refine wp_seq_k fun K hK => ?_
  replace hK := Lib.hid hK
  refine wp_region_lit ?_
  go_wp2
  refine hK.out _ _ ?_; clear hK K
  show Code.wp _ _ _ _ _
  refine forgetW (fun w2 => Rn w2 (.slice ao_va11 n_va11 c_va11) (a1.num.natAbs) ∧ Rn w2 (.slice ao_va12 n_va12 c_va12) (a1.den - 1) ∧ Rn w2 (.slice ao_va21 n_va21 c_va21) (a2.num.natAbs) ∧ Rn w2 (.slice ao_va22 n_va22 c_va22) (a2.den - 1) ∧ Rn w2 (.slice ao_vb11 n_vb11 c_vb11) (b1.num.natAbs) ∧ Rn w2 (.slice ao_vb12 n_vb12 c_vb12) (b1.den - 1) ∧ Rn w2 (.slice ao_vb21 n_vb21 c_vb21) (b2.num.natAbs) ∧ Rn w2 (.slice ao_vb22 n_vb22 c_vb22) (b2.den - 1) ∧ Rn w2 (.slice ao_vp11 n_vp11 c_vp11) (p1.num.natAbs) ∧ Rn w2 (.slice ao_vp12 n_vp12 c_vp12) (p1.den - 1) ∧ Rn w2 (.slice ao_vp21 n_vp21 c_vp21) (p2.num.natAbs) ∧ Rn w2 (.slice ao_vp22 n_vp22 c_vp22) (p2.den - 1) ∧ Bx w2 (w.heap.size) 47 #[.bool (decide (a1.num < 0)), (.slice ao_va11 n_va11 c_va11), (.slice ao_va12 n_va12 c_va12), .bool (decide (a2.num < 0)), (.slice ao_va21 n_va21 c_va21), (.slice ao_va22 n_va22 c_va22)] ∧ Bx w2 (w.heap.size + 1) 47 #[.bool (decide (b1.num < 0)), (.slice ao_vb11 n_vb11 c_vb11), (.slice ao_vb12 n_vb12 c_vb12), .bool (decide (b2.num < 0)), (.slice ao_vb21 n_vb21 c_vb21), (.slice ao_vb22 n_vb22 c_vb22)] ∧ Bx w2 (w.heap.size + 1 + 1) 47 #[.bool (decide (p1.num < 0)), (.slice ao_vp11 n_vp11 c_vp11), (.slice ao_vp12 n_vp12 c_vp12), .bool (decide (p2.num < 0)), (.slice ao_vp21 n_vp21 c_vp21), (.slice ao_vp22 n_vp22 c_vp22)] ∧ Below w.heap.size w w2) ⟨(((bx21).alloc _).alloc _).alloc _, (((bx22).alloc _).alloc _).alloc _, (((bx23).alloc _).alloc _).alloc _, (((bx24).alloc _).alloc _).alloc _, (((bx25).alloc _).alloc _).alloc _, (((bx26).alloc _).alloc _).alloc _, (((bx27).alloc _).alloc _).alloc _, (((bx28).alloc _).alloc _).alloc _, (((bx29).alloc _).alloc _).alloc _, (((bx30).alloc _).alloc _).alloc _, (((bx31).alloc _).alloc _).alloc _, (((bx32).alloc _).alloc _).alloc _, ((Bx.at rfl).alloc _).alloc _, (Bx.at (by simp)).alloc _, Bx.at (by simp), (((Below.refl _ _).alloc (Nat.le_refl _) _).alloc (by simp) _).alloc (by simp; omega) _⟩ ?_
  clear bx21 bx22 bx23 bx24 bx25 bx26 bx27 bx28 bx29 bx30 bx31 bx32
  rintro Wx ⟨bx21, bx22, bx23, bx24, bx25, bx26, bx27, bx28, bx29, bx30, bx31, bx32, bx33, bx34, bx35, HB⟩
  replace HB := Lib.hid HB
  -- region 1
  have lx33 := bx33.cells
  have lx34 := bx34.cells
  have lx35 := bx35.cells
  have BX21 := Lib.hid bx21
  have BX22 := Lib.hid bx22
  have BX23 := Lib.hid bx23
  have BX24 := Lib.hid bx24
  have BX25 := Lib.hid bx25
  have BX26 := Lib.hid bx26
  have BX27 := Lib.hid bx27
  have BX28 := Lib.hid bx28
  have BX29 := Lib.hid bx29
  have BX30 := Lib.hid bx30
  have BX31 := Lib.hid bx31
  have BX32 := Lib.hid bx32
  have BX33 := Lib.hid bx33
  have BX34 := Lib.hid bx34
  have BX35 := Lib.hid bx35
  clear bx21 bx22 bx23 bx24 bx25 bx26 bx27 bx28 bx29 bx30 bx31 bx32 bx33 bx34 bx35
  refine wp_seq_k fun K hK => ?_
  replace hK := Lib.hid hK
  refine wp_region_plan 16 [] [] (fun _ => 0) (fun _ => .cells #[] 0) [(true, 0), (true, 1), (true, 2), (true, 3), (true, 4), (true, 5), (true, 6), (true, 7), (true, 9), (true, 10), (true, 8), (true, 11), (true, 12), (true, 13), (true, 14), (true, 15)] (by kernel_rfl) (by kernel_rfl) (fun i hi => by cases hi) (fun i hi => by cases hi) (fun _ _ _ _ _ h => h) (fun T hT => ?_)
  iterate 3
    refine wpPlan_takeL (v := ?_) rfl (by rfl) (fun w' hw => ?_) ?_
    rotate_left
    · go_simp
      with_reducible rfl
    simp only [Act.put, rA, rB, rC]
  refine wpPlan_callL rfl (by rfl) Tryz.call7 (fun w' hw => rpturn (a1) (a2) (b1) (b2) (p1) (p2) (t) _ _ _ _ _ _ _ _ _ _ _ _ _ (ht.out) (by omega) (by omega) (by omega) (by omega) (by omega) (by omega) (BX21.out.gr hw) (BX22.out.gr hw) (BX23.out.gr hw) (BX24.out.gr hw) (BX25.out.gr hw) (BX26.out.gr hw) (BX27.out.gr hw) (BX28.out.gr hw) (BX29.out.gr hw) (BX30.out.gr hw) (BX31.out.gr hw) (BX32.out.gr hw)) (by rfl) ?_
  simp only [Act.put, rA, rB, rC]
  iterate 2
    refine wpPlan_takeL (v := ?_) rfl (by rfl) (fun w' hw => ?_) ?_
    rotate_left
    · go_simp
      with_reducible rfl
    simp only [Act.put, rA, rB, rC]
  refine wpPlan_skipL rfl (by rfl) ?_
  simp only [Act.put, rA, rB, rC]
  refine wpPlan_skipL rfl (by rfl) ?_
  simp only [Act.put, rA, rB, rC]
  refine wpPlan_skipL rfl (by rfl) ?_
  simp only [Act.put, rA, rB, rC]
  refine wpPlan_skipL rfl (by rfl) ?_
  simp only [Act.put, rA, rB, rC]
  refine wpPlan_skipL rfl (by rfl) ?_
  simp only [Act.put, rA, rB, rC]
  refine wpPlan_skipL rfl (by rfl) ?_
  simp only [Act.put, rA, rB, rC]
  refine wpPlan_skipL rfl (by rfl) ?_
  simp only [Act.put, rA, rB, rC]
  refine wpPlan_skipL rfl (by rfl) ?_
  simp only [Act.put, rA, rB, rC]
  refine wpPlan_skipL rfl (by rfl) ?_
  simp only [Act.put, rA, rB, rC]
  iterate 1
    refine wpPlan_takeL (v := ?_) rfl (by rfl) (fun w' hw => ?_) ?_
    rotate_left
    · go_simp
      with_reducible rfl
    simp only [Act.put, rA, rB, rC]
  refine wpPlan_nil (hT.out _ _ ?_); clear hT T
  intro G vw1 hg hf
  simp only [puts, Act.put, rA, rB, rC, rD, rE, ↓reduceIte, Nat.reduceEqDiff]
  clear lx33 lx34 lx35
  have HG := Lib.hid (hg)
  clear hg
  replace BX21 := rG BX21 HG
  replace BX22 := rG BX22 HG
  replace BX23 := rG BX23 HG
  replace BX24 := rG BX24 HG
  replace BX25 := rG BX25 HG
  replace BX26 := rG BX26 HG
  replace BX27 := rG BX27 HG
  replace BX28 := rG BX28 HG
  replace BX29 := rG BX29 HG
  replace BX30 := rG BX30 HG
  replace BX31 := rG BX31 HG
  replace BX32 := rG BX32 HG
  replace BX33 := bG BX33 HG
  replace BX34 := bG BX34 HG
  replace BX35 := bG BX35 HG
  have r0 := Gr.refl vw1
  go_wp2
  refine hK.out _ _ ?_; clear hK K
  show Code.wp _ _ _ _ _
  clear r0
  refine forgetW (fun w2 => Below w.heap.size w w2) (HB.out.trans (HG.out.mono HB.out.size)) ?_
  clear HB HG BX21 BX22 BX23 BX24 BX25 BX26 BX27 BX28 BX29 BX30 BX31 BX32 BX33 BX34 BX35
  rintro Wx1 HB
  replace HB := Lib.hid HB
  refine wp_ret ?_
  try simp only [Exit.then, Exit.inBlock]
  have r0 := Gr.refl Wx1
  exact bodyPost_ret (v := .bool false) (by simp [results, Tryz.results9, go_sem]) rfl ⟨rfl, HB.out⟩

set_option maxRecDepth 20000 in
set_option maxHeartbeats 2000000 in
theorem rpon_yes (a1 a2 b1 b2 p1 p2 : Rat) (t u : Int) (r : Bool) (va11 va12 va21 va22 vb11 vb12 vb21 vb22 vp11 vp12 vp21 vp22 : Value) (w : World) (ht : Hid (turn a1 a2 b1 b2 p1 p2 = t)) (h0 : (t == 0) = true) (hu : Hid (sgQ ((a1 - p1) * (b1 - p1) + (a2 - p2) * (b2 - p2)) = u)) (hr : decide (u ≤ 0) = r) (hs_a1 : rz a1 ≤ 1000000) (hs_a2 : rz a2 ≤ 1000000) (hs_b1 : rz b1 ≤ 1000000) (hs_b2 : rz b2 ≤ 1000000) (hs_p1 : rz p1 ≤ 1000000) (hs_p2 : rz p2 ≤ 1000000) (bx21 : Rn w va11 (a1.num.natAbs)) (bx22 : Rn w va12 (a1.den - 1)) (bx23 : Rn w va21 (a2.num.natAbs)) (bx24 : Rn w va22 (a2.den - 1)) (bx25 : Rn w vb11 (b1.num.natAbs)) (bx26 : Rn w vb12 (b1.den - 1)) (bx27 : Rn w vb21 (b2.num.natAbs)) (bx28 : Rn w vb22 (b2.den - 1)) (bx29 : Rn w vp11 (p1.num.natAbs)) (bx30 : Rn w vp12 (p1.den - 1)) (bx31 : Rn w vp21 (p2.num.natAbs)) (bx32 : Rn w vp22 (p2.den - 1)) :
    Calls Tryz.prog 9 #[(Value.agg #[.bool (decide (a1.num < 0)), va11, va12, .bool (decide (a2.num < 0)), va21, va22]), (Value.agg #[.bool (decide (b1.num < 0)), vb11, vb12, .bool (decide (b2.num < 0)), vb21, vb22]), (Value.agg #[.bool (decide (p1.num < 0)), vp11, vp12, .bool (decide (p2.num < 0)), vp21, vp22])] w fun e w' => e = .returned (.bool (r)) ∧ Below w.heap.size w w' := by
  obtain ⟨ao_va11, n_va11, c_va11, rfl⟩ := Rn.sl bx21
  obtain ⟨ao_va12, n_va12, c_va12, rfl⟩ := Rn.sl bx22
  obtain ⟨ao_va21, n_va21, c_va21, rfl⟩ := Rn.sl bx23
  obtain ⟨ao_va22, n_va22, c_va22, rfl⟩ := Rn.sl bx24
  obtain ⟨ao_vb11, n_vb11, c_vb11, rfl⟩ := Rn.sl bx25
  obtain ⟨ao_vb12, n_vb12, c_vb12, rfl⟩ := Rn.sl bx26
  obtain ⟨ao_vb21, n_vb21, c_vb21, rfl⟩ := Rn.sl bx27
  obtain ⟨ao_vb22, n_vb22, c_vb22, rfl⟩ := Rn.sl bx28
  obtain ⟨ao_vp11, n_vp11, c_vp11, rfl⟩ := Rn.sl bx29
  obtain ⟨ao_vp12, n_vp12, c_vp12, rfl⟩ := Rn.sl bx30
  obtain ⟨ao_vp21, n_vp21, c_vp21, rfl⟩ := Rn.sl bx31
  obtain ⟨ao_vp22, n_vp22, c_vp22, rfl⟩ := Rn.sl bx32
  go_enter Tryz.func9, Tryz.ntmps9
  -- region 0
  refine wp_seq_k fun K hK => ?_
  replace hK := Lib.hid hK
  refine wp_region_lit ?_
  go_wp2
  refine hK.out _ _ ?_; clear hK K
  show Code.wp _ _ _ _ _
  refine forgetW (fun w2 => Rn w2 (.slice ao_va11 n_va11 c_va11) (a1.num.natAbs) ∧ Rn w2 (.slice ao_va12 n_va12 c_va12) (a1.den - 1) ∧ Rn w2 (.slice ao_va21 n_va21 c_va21) (a2.num.natAbs) ∧ Rn w2 (.slice ao_va22 n_va22 c_va22) (a2.den - 1) ∧ Rn w2 (.slice ao_vb11 n_vb11 c_vb11) (b1.num.natAbs) ∧ Rn w2 (.slice ao_vb12 n_vb12 c_vb12) (b1.den - 1) ∧ Rn w2 (.slice ao_vb21 n_vb21 c_vb21) (b2.num.natAbs) ∧ Rn w2 (.slice ao_vb22 n_vb22 c_vb22) (b2.den - 1) ∧ Rn w2 (.slice ao_vp11 n_vp11 c_vp11) (p1.num.natAbs) ∧ Rn w2 (.slice ao_vp12 n_vp12 c_vp12) (p1.den - 1) ∧ Rn w2 (.slice ao_vp21 n_vp21 c_vp21) (p2.num.natAbs) ∧ Rn w2 (.slice ao_vp22 n_vp22 c_vp22) (p2.den - 1) ∧ Bx w2 (w.heap.size) 47 #[.bool (decide (a1.num < 0)), (.slice ao_va11 n_va11 c_va11), (.slice ao_va12 n_va12 c_va12), .bool (decide (a2.num < 0)), (.slice ao_va21 n_va21 c_va21), (.slice ao_va22 n_va22 c_va22)] ∧ Bx w2 (w.heap.size + 1) 47 #[.bool (decide (b1.num < 0)), (.slice ao_vb11 n_vb11 c_vb11), (.slice ao_vb12 n_vb12 c_vb12), .bool (decide (b2.num < 0)), (.slice ao_vb21 n_vb21 c_vb21), (.slice ao_vb22 n_vb22 c_vb22)] ∧ Bx w2 (w.heap.size + 1 + 1) 47 #[.bool (decide (p1.num < 0)), (.slice ao_vp11 n_vp11 c_vp11), (.slice ao_vp12 n_vp12 c_vp12), .bool (decide (p2.num < 0)), (.slice ao_vp21 n_vp21 c_vp21), (.slice ao_vp22 n_vp22 c_vp22)] ∧ Below w.heap.size w w2) ⟨(((bx21).alloc _).alloc _).alloc _, (((bx22).alloc _).alloc _).alloc _, (((bx23).alloc _).alloc _).alloc _, (((bx24).alloc _).alloc _).alloc _, (((bx25).alloc _).alloc _).alloc _, (((bx26).alloc _).alloc _).alloc _, (((bx27).alloc _).alloc _).alloc _, (((bx28).alloc _).alloc _).alloc _, (((bx29).alloc _).alloc _).alloc _, (((bx30).alloc _).alloc _).alloc _, (((bx31).alloc _).alloc _).alloc _, (((bx32).alloc _).alloc _).alloc _, ((Bx.at rfl).alloc _).alloc _, (Bx.at (by simp)).alloc _, Bx.at (by simp), (((Below.refl _ _).alloc (Nat.le_refl _) _).alloc (by simp) _).alloc (by simp; omega) _⟩ ?_
  clear bx21 bx22 bx23 bx24 bx25 bx26 bx27 bx28 bx29 bx30 bx31 bx32
  rintro Wx ⟨bx21, bx22, bx23, bx24, bx25, bx26, bx27, bx28, bx29, bx30, bx31, bx32, bx33, bx34, bx35, HB⟩
  replace HB := Lib.hid HB
  -- region 1
  obtain ⟨u1, HZ1⟩ : ∃ z, Hid ((a1) - (p1) = z) := ⟨_, Lib.hid rfl⟩
  have su1 : rz u1 ≤ 2000001 := by rw [← HZ1.out]; have := rz_sub (a1) (p1); omega
  obtain ⟨u2, HZ2⟩ : ∃ z, Hid ((a2) - (p2) = z) := ⟨_, Lib.hid rfl⟩
  have su2 : rz u2 ≤ 2000001 := by rw [← HZ2.out]; have := rz_sub (a2) (p2); omega
  obtain ⟨u3, HZ3⟩ : ∃ z, Hid ((b1) - (p1) = z) := ⟨_, Lib.hid rfl⟩
  have su3 : rz u3 ≤ 2000001 := by rw [← HZ3.out]; have := rz_sub (b1) (p1); omega
  obtain ⟨u4, HZ4⟩ : ∃ z, Hid ((b2) - (p2) = z) := ⟨_, Lib.hid rfl⟩
  have su4 : rz u4 ≤ 2000001 := by rw [← HZ4.out]; have := rz_sub (b2) (p2); omega
  obtain ⟨u5, HZ5⟩ : ∃ z, Hid ((u1) * (u3) + (u2) * (u4) = z) := ⟨_, Lib.hid rfl⟩
  have su5 : rz u5 ≤ 8000005 := by rw [← HZ5.out]; have := rz_dot (u1) (u2) (u3) (u4); omega
  have lx33 := bx33.cells
  have lx34 := bx34.cells
  have lx35 := bx35.cells
  have BX21 := Lib.hid bx21
  have BX22 := Lib.hid bx22
  have BX23 := Lib.hid bx23
  have BX24 := Lib.hid bx24
  have BX25 := Lib.hid bx25
  have BX26 := Lib.hid bx26
  have BX27 := Lib.hid bx27
  have BX28 := Lib.hid bx28
  have BX29 := Lib.hid bx29
  have BX30 := Lib.hid bx30
  have BX31 := Lib.hid bx31
  have BX32 := Lib.hid bx32
  have BX33 := Lib.hid bx33
  have BX34 := Lib.hid bx34
  have BX35 := Lib.hid bx35
  clear bx21 bx22 bx23 bx24 bx25 bx26 bx27 bx28 bx29 bx30 bx31 bx32 bx33 bx34 bx35
  refine wp_seq_k fun K hK => ?_
  replace hK := Lib.hid hK
  have HS0 := Lib.hid (HB.out.size)
  have MX33 : w.heap.size < Wx.heap.size := BX33.out.lt
  have MX34 : w.heap.size + 1 < Wx.heap.size := BX34.out.lt
  have MX35 : w.heap.size + 1 + 1 < Wx.heap.size := BX35.out.lt
  refine wp_region_plan 16 [] [] (fun _ => 0) (fun _ => .cells #[] 0) [(true, 0), (true, 1), (true, 2), (true, 3), (true, 4), (true, 5), (true, 6), (true, 7), (true, 9), (true, 10), (false, 8), (false, 11), (false, 12), (true, 13), (true, 14), (true, 15)] (by kernel_rfl) (by kernel_rfl) (fun i hi => by cases hi) (fun i hi => by cases hi) (fun _ _ _ _ _ h => h) (fun T hT => ?_)
  iterate 3
    refine wpPlan_takeL (v := ?_) rfl (by rfl) (fun w' hw => ?_) ?_
    rotate_left
    · go_simp
      with_reducible rfl
    simp only [Act.put, rA, rB, rC]
  refine wpPlan_callL rfl (by rfl) Tryz.call7 (fun w' hw => rpturn (a1) (a2) (b1) (b2) (p1) (p2) (t) _ _ _ _ _ _ _ _ _ _ _ _ _ (ht.out) (by omega) (by omega) (by omega) (by omega) (by omega) (by omega) (BX21.out.gr hw) (BX22.out.gr hw) (BX23.out.gr hw) (BX24.out.gr hw) (BX25.out.gr hw) (BX26.out.gr hw) (BX27.out.gr hw) (BX28.out.gr hw) (BX29.out.gr hw) (BX30.out.gr hw) (BX31.out.gr hw) (BX32.out.gr hw)) (by rfl) ?_
  simp only [Act.put, rA, rB, rC]
  iterate 6
    refine wpPlan_takeL (v := ?_) rfl (by rfl) (fun w' hw => ?_) ?_
    rotate_left
    · go_simp
      with_reducible rfl
    simp only [Act.put, rA, rB, rC]
  refine wpPlan_callE rfl (by rfl) Tryz.call20 (by rfl) (fun w' hw => (rpsub (a1) (a2) (p1) (p2) (u1) (u2) _ _ _ _ _ _ _ _ _ HZ1.out HZ2.out (by omega) (by omega) (by omega) (by omega) (BX21.out.gr hw) (BX22.out.gr hw) (BX23.out.gr hw) (BX24.out.gr hw) (BX29.out.gr hw) (BX30.out.gr hw) (BX31.out.gr hw) (BX32.out.gr hw)).mono ?_)
  rintro e vv1 ⟨⟨rv1, rv2, rv3, rv4, rfl, bx36, bx37, bx38, bx39⟩, hg0⟩
  obtain ⟨ao1, nn1, cc1, rfl⟩ := Rn.sl bx36
  obtain ⟨ao2, nn2, cc2, rfl⟩ := Rn.sl bx37
  obtain ⟨ao3, nn3, cc3, rfl⟩ := Rn.sl bx38
  obtain ⟨ao4, nn4, cc4, rfl⟩ := Rn.sl bx39
  refine ⟨_, rfl, hg0, ?_⟩
  replace hg0 := Gr.trans hw hg0; clear hw
  have HG0 := Lib.hid hg0; clear hg0
  replace BX21 := rG BX21 HG0
  replace BX22 := rG BX22 HG0
  replace BX23 := rG BX23 HG0
  replace BX24 := rG BX24 HG0
  replace BX25 := rG BX25 HG0
  replace BX26 := rG BX26 HG0
  replace BX27 := rG BX27 HG0
  replace BX28 := rG BX28 HG0
  replace BX29 := rG BX29 HG0
  replace BX30 := rG BX30 HG0
  replace BX31 := rG BX31 HG0
  replace BX32 := rG BX32 HG0
  replace BX33 := bG BX33 HG0
  replace BX34 := bG BX34 HG0
  replace BX35 := bG BX35 HG0
  replace HB := Lib.hid (HB.out.trans (HG0.out.mono HB.out.size))
  have BX36 := Lib.hid bx36; clear bx36
  have BX37 := Lib.hid bx37; clear bx37
  have BX38 := Lib.hid bx38; clear bx38
  have BX39 := Lib.hid bx39; clear bx39
  clear HG0
  clear lx33; have lx33 := BX33.out.cells
  clear lx34; have lx34 := BX34.out.cells
  clear lx35; have lx35 := BX35.out.cells
  simp only [Act.put, rA, rB, rC]
  refine wpPlan_callE rfl (by rfl) Tryz.call20 (by rfl) (fun w' hw => (rpsub (b1) (b2) (p1) (p2) (u3) (u4) _ _ _ _ _ _ _ _ _ HZ3.out HZ4.out (by omega) (by omega) (by omega) (by omega) (BX25.out.gr hw) (BX26.out.gr hw) (BX27.out.gr hw) (BX28.out.gr hw) (BX29.out.gr hw) (BX30.out.gr hw) (BX31.out.gr hw) (BX32.out.gr hw)).mono ?_)
  rintro e vv2 ⟨⟨rv5, rv6, rv7, rv8, rfl, bx40, bx41, bx42, bx43⟩, hg0⟩
  obtain ⟨ao5, nn5, cc5, rfl⟩ := Rn.sl bx40
  obtain ⟨ao6, nn6, cc6, rfl⟩ := Rn.sl bx41
  obtain ⟨ao7, nn7, cc7, rfl⟩ := Rn.sl bx42
  obtain ⟨ao8, nn8, cc8, rfl⟩ := Rn.sl bx43
  refine ⟨_, rfl, hg0, ?_⟩
  replace hg0 := Gr.trans hw hg0; clear hw
  have HG0 := Lib.hid hg0; clear hg0
  replace BX21 := rG BX21 HG0
  replace BX22 := rG BX22 HG0
  replace BX23 := rG BX23 HG0
  replace BX24 := rG BX24 HG0
  replace BX25 := rG BX25 HG0
  replace BX26 := rG BX26 HG0
  replace BX27 := rG BX27 HG0
  replace BX28 := rG BX28 HG0
  replace BX29 := rG BX29 HG0
  replace BX30 := rG BX30 HG0
  replace BX31 := rG BX31 HG0
  replace BX32 := rG BX32 HG0
  replace BX33 := bG BX33 HG0
  replace BX34 := bG BX34 HG0
  replace BX35 := bG BX35 HG0
  replace BX36 := rG BX36 HG0
  replace BX37 := rG BX37 HG0
  replace BX38 := rG BX38 HG0
  replace BX39 := rG BX39 HG0
  replace HB := Lib.hid (HB.out.trans (HG0.out.mono HB.out.size))
  have BX40 := Lib.hid bx40; clear bx40
  have BX41 := Lib.hid bx41; clear bx41
  have BX42 := Lib.hid bx42; clear bx42
  have BX43 := Lib.hid bx43; clear bx43
  clear HG0
  clear lx33; have lx33 := BX33.out.cells
  clear lx34; have lx34 := BX34.out.cells
  clear lx35; have lx35 := BX35.out.cells
  simp only [Act.put, rA, rB, rC]
  refine wpPlan_callE rfl (by rfl) Tryz.call24 (by rfl) (fun w' hw => (rpdot (u1) (u2) (u3) (u4) (u5) _ _ _ _ _ _ _ _ _ HZ5.out (by omega) (by omega) (by omega) (by omega) (BX36.out.gr hw) (BX37.out.gr hw) (BX38.out.gr hw) (BX39.out.gr hw) (BX40.out.gr hw) (BX41.out.gr hw) (BX42.out.gr hw) (BX43.out.gr hw)).mono ?_)
  rintro e vv3 ⟨⟨rv9, rv10, rfl, bx44, bx45⟩, hg0⟩
  obtain ⟨ao9, nn9, cc9, rfl⟩ := Rn.sl bx44
  obtain ⟨ao10, nn10, cc10, rfl⟩ := Rn.sl bx45
  refine ⟨_, rfl, hg0, ?_⟩
  replace hg0 := Gr.trans hw hg0; clear hw
  have HG0 := Lib.hid hg0; clear hg0
  replace BX21 := rG BX21 HG0
  replace BX22 := rG BX22 HG0
  replace BX23 := rG BX23 HG0
  replace BX24 := rG BX24 HG0
  replace BX25 := rG BX25 HG0
  replace BX26 := rG BX26 HG0
  replace BX27 := rG BX27 HG0
  replace BX28 := rG BX28 HG0
  replace BX29 := rG BX29 HG0
  replace BX30 := rG BX30 HG0
  replace BX31 := rG BX31 HG0
  replace BX32 := rG BX32 HG0
  replace BX33 := bG BX33 HG0
  replace BX34 := bG BX34 HG0
  replace BX35 := bG BX35 HG0
  replace BX36 := rG BX36 HG0
  replace BX37 := rG BX37 HG0
  replace BX38 := rG BX38 HG0
  replace BX39 := rG BX39 HG0
  replace BX40 := rG BX40 HG0
  replace BX41 := rG BX41 HG0
  replace BX42 := rG BX42 HG0
  replace BX43 := rG BX43 HG0
  replace HB := Lib.hid (HB.out.trans (HG0.out.mono HB.out.size))
  have BX44 := Lib.hid bx44; clear bx44
  have BX45 := Lib.hid bx45; clear bx45
  clear HG0
  clear lx33; have lx33 := BX33.out.cells
  clear lx34; have lx34 := BX34.out.cells
  clear lx35; have lx35 := BX35.out.cells
  simp only [Act.put, rA, rB, rC]
  refine wpPlan_callL rfl (by rfl) Tryz.call18 (fun w' hw => qsign_any (u5) (u) _ _ _ (by simp only [← HZ5.out, ← HZ4.out, ← HZ3.out, ← HZ2.out, ← HZ1.out]; exact hu.out) (BX44.out.gr hw) (BX45.out.gr hw)) (by rfl) ?_
  simp only [Act.put, rA, rB, rC]
  iterate 2
    refine wpPlan_takeL (v := ?_) rfl (by rfl) (fun w' hw => ?_) ?_
    rotate_left
    · go_simp
      with_reducible rfl
    simp only [Act.put, rA, rB, rC]
  refine wpPlan_nil (hT.out _ _ ?_); clear hT T
  intro G vw1 hg hf
  simp only [puts, Act.put, rA, rB, rC, rD, rE, ↓reduceIte, Nat.reduceEqDiff]
  clear lx33 lx34 lx35
  have HG := Lib.hid (hg)
  clear hg
  replace BX21 := rG BX21 HG
  replace BX22 := rG BX22 HG
  replace BX23 := rG BX23 HG
  replace BX24 := rG BX24 HG
  replace BX25 := rG BX25 HG
  replace BX26 := rG BX26 HG
  replace BX27 := rG BX27 HG
  replace BX28 := rG BX28 HG
  replace BX29 := rG BX29 HG
  replace BX30 := rG BX30 HG
  replace BX31 := rG BX31 HG
  replace BX32 := rG BX32 HG
  replace BX33 := bG BX33 HG
  replace BX34 := bG BX34 HG
  replace BX35 := bG BX35 HG
  replace BX36 := rG BX36 HG
  replace BX37 := rG BX37 HG
  replace BX38 := rG BX38 HG
  replace BX39 := rG BX39 HG
  replace BX40 := rG BX40 HG
  replace BX41 := rG BX41 HG
  replace BX42 := rG BX42 HG
  replace BX43 := rG BX43 HG
  replace BX44 := rG BX44 HG
  replace BX45 := rG BX45 HG
  have r0 := Gr.refl vw1
  go_wp2
  refine hK.out _ _ ?_; clear hK K
  show Code.wp _ _ _ _ _
  clear r0
  refine forgetW (fun w2 => Below w.heap.size w w2) (HB.out.trans (HG.out.mono HB.out.size)) ?_
  clear HB HG BX21 BX22 BX23 BX24 BX25 BX26 BX27 BX28 BX29 BX30 BX31 BX32 BX33 BX34 BX35 BX36 BX37 BX38 BX39 BX40 BX41 BX42 BX43 BX44 BX45
  rintro Wx1 HB
  replace HB := Lib.hid HB
  refine wp_ret ?_
  try simp only [Exit.then, Exit.inBlock]
  have r0 := Gr.refl Wx1
  exact bodyPost_ret (v := .bool (r)) (by simp [results, Tryz.results9, go_sem]) rfl ⟨rfl, HB.out⟩

/-- whether a point lies on a segment, as the reference says it -/
def onR (a1 a2 b1 b2 p1 p2 : Rat) : Bool := (turn a1 a2 b1 b2 p1 p2 == 0) && decide (sgQ ((a1 - p1) * (b1 - p1) + (a2 - p2) * (b2 - p2)) ≤ 0)
theorem rpon (a1 a2 b1 b2 p1 p2 : Rat) (r : Bool) (va11 va12 va21 va22 vb11 vb12 vb21 vb22 vp11 vp12 vp21 vp22 : Value) (w : World) (hr : onR a1 a2 b1 b2 p1 p2 = r) (hs_a1 : rz a1 ≤ 1000000) (hs_a2 : rz a2 ≤ 1000000) (hs_b1 : rz b1 ≤ 1000000) (hs_b2 : rz b2 ≤ 1000000) (hs_p1 : rz p1 ≤ 1000000) (hs_p2 : rz p2 ≤ 1000000) (bx21 : Rn w va11 (a1.num.natAbs)) (bx22 : Rn w va12 (a1.den - 1)) (bx23 : Rn w va21 (a2.num.natAbs)) (bx24 : Rn w va22 (a2.den - 1)) (bx25 : Rn w vb11 (b1.num.natAbs)) (bx26 : Rn w vb12 (b1.den - 1)) (bx27 : Rn w vb21 (b2.num.natAbs)) (bx28 : Rn w vb22 (b2.den - 1)) (bx29 : Rn w vp11 (p1.num.natAbs)) (bx30 : Rn w vp12 (p1.den - 1)) (bx31 : Rn w vp21 (p2.num.natAbs)) (bx32 : Rn w vp22 (p2.den - 1)) :
    Calls Tryz.prog 9 #[(Value.agg #[.bool (decide (a1.num < 0)), va11, va12, .bool (decide (a2.num < 0)), va21, va22]), (Value.agg #[.bool (decide (b1.num < 0)), vb11, vb12, .bool (decide (b2.num < 0)), vb21, vb22]), (Value.agg #[.bool (decide (p1.num < 0)), vp11, vp12, .bool (decide (p2.num < 0)), vp21, vp22])] w fun e w' => e = .returned (.bool r) ∧ Below w.heap.size w w' := by
  unfold onR at hr
  cases h0 : (turn a1 a2 b1 b2 p1 p2 == 0)
  · rw [h0] at hr
    rw [← hr]
    exact rpon_no a1 a2 b1 b2 p1 p2 _ va11 va12 va21 va22 vb11 vb12 vb21 vb22 vp11 vp12 vp21 vp22 w (Lib.hid rfl) h0 hs_a1 hs_a2 hs_b1 hs_b2 hs_p1 hs_p2 bx21 bx22 bx23 bx24 bx25 bx26 bx27 bx28 bx29 bx30 bx31 bx32
  · rw [h0, Bool.true_and] at hr
    exact rpon_yes a1 a2 b1 b2 p1 p2 _ _ r va11 va12 va21 va22 vb11 vb12 vb21 vb22 vp11 vp12 vp21 vp22 w (Lib.hid rfl) h0 (Lib.hid rfl) hr hs_a1 hs_a2 hs_b1 hs_b2 hs_p1 hs_p2 bx21 bx22 bx23 bx24 bx25 bx26 bx27 bx28 bx29 bx30 bx31 bx32

set_option maxRecDepth 20000 in
set_option maxHeartbeats 8000000 in
theorem rpmiddle (a1 a2 b1 b2 c1 c2 z1 z2 : Rat) (va11 va12 va21 va22 vb11 vb12 vb21 vb22 vc11 vc12 vc21 vc22 : Value) (w : World) (hz1 : a1 + (((b1 - a1) * (b1 - a1) + (b2 - a2) * (b2 - a2)) * (c2 - a2) - ((c1 - a1) * (c1 - a1) + (c2 - a2) * (c2 - a2)) * (b2 - a2)) / (((2 : Int) : Rat) * ((b1 - a1) * (c2 - a2) - (b2 - a2) * (c1 - a1))) = z1) (hz2 : a2 + (((c1 - a1) * (c1 - a1) + (c2 - a2) * (c2 - a2)) * (b1 - a1) - ((b1 - a1) * (b1 - a1) + (b2 - a2) * (b2 - a2)) * (c1 - a1)) / (((2 : Int) : Rat) * ((b1 - a1) * (c2 - a2) - (b2 - a2) * (c1 - a1))) = z2) (hs_a1 : rz a1 ≤ 10000) (hs_a2 : rz a2 ≤ 10000) (hs_b1 : rz b1 ≤ 10000) (hs_b2 : rz b2 ≤ 10000) (hs_c1 : rz c1 ≤ 10000) (hs_c2 : rz c2 ≤ 10000) (bx21 : Rn w va11 (a1.num.natAbs)) (bx22 : Rn w va12 (a1.den - 1)) (bx23 : Rn w va21 (a2.num.natAbs)) (bx24 : Rn w va22 (a2.den - 1)) (bx25 : Rn w vb11 (b1.num.natAbs)) (bx26 : Rn w vb12 (b1.den - 1)) (bx27 : Rn w vb21 (b2.num.natAbs)) (bx28 : Rn w vb22 (b2.den - 1)) (bx29 : Rn w vc11 (c1.num.natAbs)) (bx30 : Rn w vc12 (c1.den - 1)) (bx31 : Rn w vc21 (c2.num.natAbs)) (bx32 : Rn w vc22 (c2.den - 1)) :
    Calls Tryz.prog 28 #[(Value.agg #[.bool (decide (a1.num < 0)), va11, va12, .bool (decide (a2.num < 0)), va21, va22]), (Value.agg #[.bool (decide (b1.num < 0)), vb11, vb12, .bool (decide (b2.num < 0)), vb21, vb22]), (Value.agg #[.bool (decide (c1.num < 0)), vc11, vc12, .bool (decide (c2.num < 0)), vc21, vc22])] w fun e w' => (∃ r1 r2 r3 r4 : Value, e = .returned (.agg #[.bool (decide (z1.num < 0)), r1, r2, .bool (decide (z2.num < 0)), r3, r4]) ∧ Rn w' r1 (z1.num.natAbs) ∧ Rn w' r2 (z1.den - 1) ∧ Rn w' r3 (z2.num.natAbs) ∧ Rn w' r4 (z2.den - 1)) ∧ Below w.heap.size w w' := by
  replace hz1 := Lib.hid hz1
  replace hz2 := Lib.hid hz2
  obtain ⟨ao_va11, n_va11, c_va11, rfl⟩ := Rn.sl bx21
  obtain ⟨ao_va12, n_va12, c_va12, rfl⟩ := Rn.sl bx22
  obtain ⟨ao_va21, n_va21, c_va21, rfl⟩ := Rn.sl bx23
  obtain ⟨ao_va22, n_va22, c_va22, rfl⟩ := Rn.sl bx24
  obtain ⟨ao_vb11, n_vb11, c_vb11, rfl⟩ := Rn.sl bx25
  obtain ⟨ao_vb12, n_vb12, c_vb12, rfl⟩ := Rn.sl bx26
  obtain ⟨ao_vb21, n_vb21, c_vb21, rfl⟩ := Rn.sl bx27
  obtain ⟨ao_vb22, n_vb22, c_vb22, rfl⟩ := Rn.sl bx28
  obtain ⟨ao_vc11, n_vc11, c_vc11, rfl⟩ := Rn.sl bx29
  obtain ⟨ao_vc12, n_vc12, c_vc12, rfl⟩ := Rn.sl bx30
  obtain ⟨ao_vc21, n_vc21, c_vc21, rfl⟩ := Rn.sl bx31
  obtain ⟨ao_vc22, n_vc22, c_vc22, rfl⟩ := Rn.sl bx32
  go_enter Tryz.func28, Tryz.ntmps28
  -- region 0
  refine wp_seq_k fun K hK => ?_
  replace hK := Lib.hid hK
  refine wp_region_lit ?_
  go_wp2
  refine hK.out _ _ ?_; clear hK K
  show Code.wp _ _ _ _ _
  refine forgetW (fun w2 => Rn w2 (.slice ao_va11 n_va11 c_va11) (a1.num.natAbs) ∧ Rn w2 (.slice ao_va12 n_va12 c_va12) (a1.den - 1) ∧ Rn w2 (.slice ao_va21 n_va21 c_va21) (a2.num.natAbs) ∧ Rn w2 (.slice ao_va22 n_va22 c_va22) (a2.den - 1) ∧ Rn w2 (.slice ao_vb11 n_vb11 c_vb11) (b1.num.natAbs) ∧ Rn w2 (.slice ao_vb12 n_vb12 c_vb12) (b1.den - 1) ∧ Rn w2 (.slice ao_vb21 n_vb21 c_vb21) (b2.num.natAbs) ∧ Rn w2 (.slice ao_vb22 n_vb22 c_vb22) (b2.den - 1) ∧ Rn w2 (.slice ao_vc11 n_vc11 c_vc11) (c1.num.natAbs) ∧ Rn w2 (.slice ao_vc12 n_vc12 c_vc12) (c1.den - 1) ∧ Rn w2 (.slice ao_vc21 n_vc21 c_vc21) (c2.num.natAbs) ∧ Rn w2 (.slice ao_vc22 n_vc22 c_vc22) (c2.den - 1) ∧ Bx w2 (w.heap.size) 47 #[.bool (decide (a1.num < 0)), (.slice ao_va11 n_va11 c_va11), (.slice ao_va12 n_va12 c_va12), .bool (decide (a2.num < 0)), (.slice ao_va21 n_va21 c_va21), (.slice ao_va22 n_va22 c_va22)] ∧ Bx w2 (w.heap.size + 1) 47 #[.bool (decide (b1.num < 0)), (.slice ao_vb11 n_vb11 c_vb11), (.slice ao_vb12 n_vb12 c_vb12), .bool (decide (b2.num < 0)), (.slice ao_vb21 n_vb21 c_vb21), (.slice ao_vb22 n_vb22 c_vb22)] ∧ Bx w2 (w.heap.size + 1 + 1) 47 #[.bool (decide (c1.num < 0)), (.slice ao_vc11 n_vc11 c_vc11), (.slice ao_vc12 n_vc12 c_vc12), .bool (decide (c2.num < 0)), (.slice ao_vc21 n_vc21 c_vc21), (.slice ao_vc22 n_vc22 c_vc22)] ∧ Bx w2 (w.heap.size + 1 + 1 + 1) 47 #[.bool false, .slice none 0 0, .slice none 0 0, .bool false, .slice none 0 0, .slice none 0 0] ∧ Below w.heap.size w w2) ⟨((((bx21).alloc _).alloc _).alloc _).alloc _, ((((bx22).alloc _).alloc _).alloc _).alloc _, ((((bx23).alloc _).alloc _).alloc _).alloc _, ((((bx24).alloc _).alloc _).alloc _).alloc _, ((((bx25).alloc _).alloc _).alloc _).alloc _, ((((bx26).alloc _).alloc _).alloc _).alloc _, ((((bx27).alloc _).alloc _).alloc _).alloc _, ((((bx28).alloc _).alloc _).alloc _).alloc _, ((((bx29).alloc _).alloc _).alloc _).alloc _, ((((bx30).alloc _).alloc _).alloc _).alloc _, ((((bx31).alloc _).alloc _).alloc _).alloc _, ((((bx32).alloc _).alloc _).alloc _).alloc _, (((Bx.at rfl).alloc _).alloc _).alloc _, ((Bx.at (by simp)).alloc _).alloc _, (Bx.at (by simp)).alloc _, Bx.at (by simp), ((((Below.refl _ _).alloc (Nat.le_refl _) _).alloc (by simp) _).alloc (by simp; omega) _).alloc (by simp; omega) _⟩ ?_
  clear bx21 bx22 bx23 bx24 bx25 bx26 bx27 bx28 bx29 bx30 bx31 bx32
  rintro Wx ⟨bx21, bx22, bx23, bx24, bx25, bx26, bx27, bx28, bx29, bx30, bx31, bx32, bx33, bx34, bx35, bx36, HB⟩
  replace HB := Lib.hid HB
  -- region 1
  obtain ⟨u1, HZ1⟩ : ∃ z, Hid ((b1) - (a1) = z) := ⟨_, Lib.hid rfl⟩
  have su1 : rz u1 ≤ 20001 := by rw [← HZ1.out]; have := rz_sub (b1) (a1); omega
  obtain ⟨u2, HZ2⟩ : ∃ z, Hid ((b2) - (a2) = z) := ⟨_, Lib.hid rfl⟩
  have su2 : rz u2 ≤ 20001 := by rw [← HZ2.out]; have := rz_sub (b2) (a2); omega
  have lx33 := bx33.cells
  have lx34 := bx34.cells
  have BX21 := Lib.hid bx21
  have BX22 := Lib.hid bx22
  have BX23 := Lib.hid bx23
  have BX24 := Lib.hid bx24
  have BX25 := Lib.hid bx25
  have BX26 := Lib.hid bx26
  have BX27 := Lib.hid bx27
  have BX28 := Lib.hid bx28
  have BX29 := Lib.hid bx29
  have BX30 := Lib.hid bx30
  have BX31 := Lib.hid bx31
  have BX32 := Lib.hid bx32
  have BX33 := Lib.hid bx33
  have BX34 := Lib.hid bx34
  have BX35 := Lib.hid bx35
  have BX36 := Lib.hid bx36
  clear bx21 bx22 bx23 bx24 bx25 bx26 bx27 bx28 bx29 bx30 bx31 bx32 bx33 bx34 bx35 bx36
  refine wp_seq_k fun K hK => ?_
  replace hK := Lib.hid hK
  have HS0 := Lib.hid (HB.out.size)
  have MX33 : w.heap.size < Wx.heap.size := BX33.out.lt
  have MX34 : w.heap.size + 1 < Wx.heap.size := BX34.out.lt
  have MX35 : w.heap.size + 1 + 1 < Wx.heap.size := BX35.out.lt
  have MX36 : w.heap.size + 1 + 1 + 1 < Wx.heap.size := BX36.out.lt
  refine wp_region_seqplan 3 [(true, 0), (true, 1), (false, 2)] (by rfl) (by simp) (fun T hT => ?_)
  iterate 2
    refine wpPlan_takeL (v := ?_) rfl (by rfl) (fun w' hw => ?_) ?_
    rotate_left
    · go_simp
      with_reducible rfl
    simp only [Act.put, rA, rB, rC]
  refine wpPlan_callE rfl (by rfl) Tryz.call20 (by rfl) (fun w' hw => (rpsub (b1) (b2) (a1) (a2) (u1) (u2) _ _ _ _ _ _ _ _ _ HZ1.out HZ2.out (by omega) (by omega) (by omega) (by omega) (BX25.out.gr hw) (BX26.out.gr hw) (BX27.out.gr hw) (BX28.out.gr hw) (BX21.out.gr hw) (BX22.out.gr hw) (BX23.out.gr hw) (BX24.out.gr hw)).mono ?_)
  rintro e vv1 ⟨⟨rv1, rv2, rv3, rv4, rfl, bx37, bx38, bx39, bx40⟩, hg0⟩
  obtain ⟨ao1, nn1, cc1, rfl⟩ := Rn.sl bx37
  obtain ⟨ao2, nn2, cc2, rfl⟩ := Rn.sl bx38
  obtain ⟨ao3, nn3, cc3, rfl⟩ := Rn.sl bx39
  obtain ⟨ao4, nn4, cc4, rfl⟩ := Rn.sl bx40
  refine ⟨_, rfl, hg0, ?_⟩
  replace hg0 := Gr.trans hw hg0; clear hw
  have HG0 := Lib.hid hg0; clear hg0
  replace BX21 := rG BX21 HG0
  replace BX22 := rG BX22 HG0
  replace BX23 := rG BX23 HG0
  replace BX24 := rG BX24 HG0
  replace BX25 := rG BX25 HG0
  replace BX26 := rG BX26 HG0
  replace BX27 := rG BX27 HG0
  replace BX28 := rG BX28 HG0
  replace BX29 := rG BX29 HG0
  replace BX30 := rG BX30 HG0
  replace BX31 := rG BX31 HG0
  replace BX32 := rG BX32 HG0
  replace BX33 := bG BX33 HG0
  replace BX34 := bG BX34 HG0
  replace BX35 := bG BX35 HG0
  replace BX36 := bG BX36 HG0
  replace HB := Lib.hid (HB.out.trans (HG0.out.mono HB.out.size))
  have BX37 := Lib.hid bx37; clear bx37
  have BX38 := Lib.hid bx38; clear bx38
  have BX39 := Lib.hid bx39; clear bx39
  have BX40 := Lib.hid bx40; clear bx40
  clear HG0
  clear lx33; have lx33 := BX33.out.cells
  clear lx34; have lx34 := BX34.out.cells
  simp only [Act.put, rA, rB, rC]
  refine wpPlan_nil (hT.out _ _ ?_); clear hT T
  intro vw1 hg
  simp only [puts, Act.put, rA, rB, rC, rD, rE, ↓reduceIte, Nat.reduceEqDiff]
  clear lx33 lx34
  have HG := Lib.hid (hg)
  clear hg
  replace BX21 := rG BX21 HG
  replace BX22 := rG BX22 HG
  replace BX23 := rG BX23 HG
  replace BX24 := rG BX24 HG
  replace BX25 := rG BX25 HG
  replace BX26 := rG BX26 HG
  replace BX27 := rG BX27 HG
  replace BX28 := rG BX28 HG
  replace BX29 := rG BX29 HG
  replace BX30 := rG BX30 HG
  replace BX31 := rG BX31 HG
  replace BX32 := rG BX32 HG
  replace BX33 := bG BX33 HG
  replace BX34 := bG BX34 HG
  replace BX35 := bG BX35 HG
  replace BX36 := bG BX36 HG
  replace BX37 := rG BX37 HG
  replace BX38 := rG BX38 HG
  replace BX39 := rG BX39 HG
  replace BX40 := rG BX40 HG
  have r0 := Gr.refl vw1
  go_wp2
  refine hK.out _ _ ?_; clear hK K
  show Code.wp _ _ _ _ _
  clear r0
  have hsz : w.heap.size ≤ vw1.heap.size := Nat.le_trans HB.out.size HG.out.size
  have mx33 : w.heap.size < vw1.heap.size := BX33.out.lt
  have mx34 : w.heap.size + 1 < vw1.heap.size := BX34.out.lt
  have mx35 : w.heap.size + 1 + 1 < vw1.heap.size := BX35.out.lt
  have mx36 : w.heap.size + 1 + 1 + 1 < vw1.heap.size := BX36.out.lt
  refine forgetW (fun w2 => Rn w2 (.slice ao_va11 n_va11 c_va11) (a1.num.natAbs) ∧ Rn w2 (.slice ao_va12 n_va12 c_va12) (a1.den - 1) ∧ Rn w2 (.slice ao_va21 n_va21 c_va21) (a2.num.natAbs) ∧ Rn w2 (.slice ao_va22 n_va22 c_va22) (a2.den - 1) ∧ Rn w2 (.slice ao_vc11 n_vc11 c_vc11) (c1.num.natAbs) ∧ Rn w2 (.slice ao_vc12 n_vc12 c_vc12) (c1.den - 1) ∧ Rn w2 (.slice ao_vc21 n_vc21 c_vc21) (c2.num.natAbs) ∧ Rn w2 (.slice ao_vc22 n_vc22 c_vc22) (c2.den - 1) ∧ Bx w2 (w.heap.size) 47 #[.bool (decide (a1.num < 0)), (.slice ao_va11 n_va11 c_va11), (.slice ao_va12 n_va12 c_va12), .bool (decide (a2.num < 0)), (.slice ao_va21 n_va21 c_va21), (.slice ao_va22 n_va22 c_va22)] ∧ Bx w2 (w.heap.size + 1 + 1) 47 #[.bool (decide (c1.num < 0)), (.slice ao_vc11 n_vc11 c_vc11), (.slice ao_vc12 n_vc12 c_vc12), .bool (decide (c2.num < 0)), (.slice ao_vc21 n_vc21 c_vc21), (.slice ao_vc22 n_vc22 c_vc22)] ∧ Bx w2 (w.heap.size + 1 + 1 + 1) 47 #[.bool false, .slice none 0 0, .slice none 0 0, .bool false, .slice none 0 0, .slice none 0 0] ∧ Rn w2 (.slice ao1 nn1 cc1) (u1.num.natAbs) ∧ Rn w2 (.slice ao2 nn2 cc2) (u1.den - 1) ∧ Rn w2 (.slice ao3 nn3 cc3) (u2.num.natAbs) ∧ Rn w2 (.slice ao4 nn4 cc4) (u2.den - 1) ∧ Bx w2 (vw1.heap.size) 47 #[.bool (decide (u1.num < 0)), (.slice ao1 nn1 cc1), (.slice ao2 nn2 cc2), .bool (decide (u2.num < 0)), (.slice ao3 nn3 cc3), (.slice ao4 nn4 cc4)] ∧ Below w.heap.size w w2) ⟨(BX21.out).alloc _, (BX22.out).alloc _, (BX23.out).alloc _, (BX24.out).alloc _, (BX29.out).alloc _, (BX30.out).alloc _, (BX31.out).alloc _, (BX32.out).alloc _, (BX33.out).alloc _, (BX35.out).alloc _, (BX36.out).alloc _, (BX37.out).alloc _, (BX38.out).alloc _, (BX39.out).alloc _, (BX40.out).alloc _, (Bx.at (by simp) : Bx _ (vw1.heap.size) _ _), (HB.out.trans (HG.out.mono HB.out.size)).alloc (by first | omega | (simp; omega)) _⟩ ?_
  clear HB HG BX21 BX22 BX23 BX24 BX25 BX26 BX27 BX28 BX29 BX30 BX31 BX32 BX33 BX34 BX35 BX36 BX37 BX38 BX39 BX40
  rintro Wx1 ⟨bx21, bx22, bx23, bx24, bx29, bx30, bx31, bx32, bx33, bx35, bx36, bx37, bx38, bx39, bx40, bx41, HB⟩
  replace HB := Lib.hid HB
  have yx41 : w.heap.size ≤ vw1.heap.size := by omega
  have qx33_41 : w.heap.size < vw1.heap.size := by omega
  have qx34_41 : w.heap.size + 1 < vw1.heap.size := by omega
  have qx35_41 : w.heap.size + 1 + 1 < vw1.heap.size := by omega
  have qx36_41 : w.heap.size + 1 + 1 + 1 < vw1.heap.size := by omega
  generalize hx41 : vw1.heap.size = gx41 at *
  clear hx41
  clear hsz mx33 mx34 mx35 mx36
  -- region 2
  obtain ⟨u3, HZ3⟩ : ∃ z, Hid ((c1) - (a1) = z) := ⟨_, Lib.hid rfl⟩
  have su3 : rz u3 ≤ 20001 := by rw [← HZ3.out]; have := rz_sub (c1) (a1); omega
  obtain ⟨u4, HZ4⟩ : ∃ z, Hid ((c2) - (a2) = z) := ⟨_, Lib.hid rfl⟩
  have su4 : rz u4 ≤ 20001 := by rw [← HZ4.out]; have := rz_sub (c2) (a2); omega
  have lx33 := bx33.cells
  have lx35 := bx35.cells
  have BX21 := Lib.hid bx21
  have BX22 := Lib.hid bx22
  have BX23 := Lib.hid bx23
  have BX24 := Lib.hid bx24
  have BX29 := Lib.hid bx29
  have BX30 := Lib.hid bx30
  have BX31 := Lib.hid bx31
  have BX32 := Lib.hid bx32
  have BX33 := Lib.hid bx33
  have BX35 := Lib.hid bx35
  have BX36 := Lib.hid bx36
  have BX37 := Lib.hid bx37
  have BX38 := Lib.hid bx38
  have BX39 := Lib.hid bx39
  have BX40 := Lib.hid bx40
  have BX41 := Lib.hid bx41
  clear bx21 bx22 bx23 bx24 bx29 bx30 bx31 bx32 bx33 bx35 bx36 bx37 bx38 bx39 bx40 bx41
  refine wp_seq_k fun K hK => ?_
  replace hK := Lib.hid hK
  have HS0 := Lib.hid (HB.out.size)
  have MX33 : w.heap.size < Wx1.heap.size := BX33.out.lt
  have MX35 : w.heap.size + 1 + 1 < Wx1.heap.size := BX35.out.lt
  have MX36 : w.heap.size + 1 + 1 + 1 < Wx1.heap.size := BX36.out.lt
  have MX41 : gx41 < Wx1.heap.size := BX41.out.lt
  refine wp_region_seqplan 3 [(true, 0), (true, 1), (false, 2)] (by rfl) (by simp) (fun T hT => ?_)
  iterate 2
    refine wpPlan_takeL (v := ?_) rfl (by rfl) (fun w' hw => ?_) ?_
    rotate_left
    · go_simp
      with_reducible rfl
    simp only [Act.put, rA, rB, rC]
  refine wpPlan_callE rfl (by rfl) Tryz.call20 (by rfl) (fun w' hw => (rpsub (c1) (c2) (a1) (a2) (u3) (u4) _ _ _ _ _ _ _ _ _ HZ3.out HZ4.out (by omega) (by omega) (by omega) (by omega) (BX29.out.gr hw) (BX30.out.gr hw) (BX31.out.gr hw) (BX32.out.gr hw) (BX21.out.gr hw) (BX22.out.gr hw) (BX23.out.gr hw) (BX24.out.gr hw)).mono ?_)
  rintro e vv1 ⟨⟨rv5, rv6, rv7, rv8, rfl, bx42, bx43, bx44, bx45⟩, hg0⟩
  obtain ⟨ao5, nn5, cc5, rfl⟩ := Rn.sl bx42
  obtain ⟨ao6, nn6, cc6, rfl⟩ := Rn.sl bx43
  obtain ⟨ao7, nn7, cc7, rfl⟩ := Rn.sl bx44
  obtain ⟨ao8, nn8, cc8, rfl⟩ := Rn.sl bx45
  refine ⟨_, rfl, hg0, ?_⟩
  replace hg0 := Gr.trans hw hg0; clear hw
  have HG0 := Lib.hid hg0; clear hg0
  replace BX21 := rG BX21 HG0
  replace BX22 := rG BX22 HG0
  replace BX23 := rG BX23 HG0
  replace BX24 := rG BX24 HG0
  replace BX29 := rG BX29 HG0
  replace BX30 := rG BX30 HG0
  replace BX31 := rG BX31 HG0
  replace BX32 := rG BX32 HG0
  replace BX33 := bG BX33 HG0
  replace BX35 := bG BX35 HG0
  replace BX36 := bG BX36 HG0
  replace BX37 := rG BX37 HG0
  replace BX38 := rG BX38 HG0
  replace BX39 := rG BX39 HG0
  replace BX40 := rG BX40 HG0
  replace BX41 := bG BX41 HG0
  replace HB := Lib.hid (HB.out.trans (HG0.out.mono HB.out.size))
  have BX42 := Lib.hid bx42; clear bx42
  have BX43 := Lib.hid bx43; clear bx43
  have BX44 := Lib.hid bx44; clear bx44
  have BX45 := Lib.hid bx45; clear bx45
  clear HG0
  clear lx33; have lx33 := BX33.out.cells
  clear lx35; have lx35 := BX35.out.cells
  simp only [Act.put, rA, rB, rC]
  refine wpPlan_nil (hT.out _ _ ?_); clear hT T
  intro vw2 hg
  simp only [puts, Act.put, rA, rB, rC, rD, rE, ↓reduceIte, Nat.reduceEqDiff]
  clear lx33 lx35
  have HG := Lib.hid (hg)
  clear hg
  replace BX21 := rG BX21 HG
  replace BX22 := rG BX22 HG
  replace BX23 := rG BX23 HG
  replace BX24 := rG BX24 HG
  replace BX29 := rG BX29 HG
  replace BX30 := rG BX30 HG
  replace BX31 := rG BX31 HG
  replace BX32 := rG BX32 HG
  replace BX33 := bG BX33 HG
  replace BX35 := bG BX35 HG
  replace BX36 := bG BX36 HG
  replace BX37 := rG BX37 HG
  replace BX38 := rG BX38 HG
  replace BX39 := rG BX39 HG
  replace BX40 := rG BX40 HG
  replace BX41 := bG BX41 HG
  replace BX42 := rG BX42 HG
  replace BX43 := rG BX43 HG
  replace BX44 := rG BX44 HG
  replace BX45 := rG BX45 HG
  have r0 := Gr.refl vw2
  go_wp2
  refine hK.out _ _ ?_; clear hK K
  show Code.wp _ _ _ _ _
  clear r0
  have hsz : w.heap.size ≤ vw2.heap.size := Nat.le_trans HB.out.size HG.out.size
  have mx33 : w.heap.size < vw2.heap.size := BX33.out.lt
  have mx35 : w.heap.size + 1 + 1 < vw2.heap.size := BX35.out.lt
  have mx36 : w.heap.size + 1 + 1 + 1 < vw2.heap.size := BX36.out.lt
  have mx41 : gx41 < vw2.heap.size := BX41.out.lt
  refine forgetW (fun w2 => Rn w2 (.slice ao_va11 n_va11 c_va11) (a1.num.natAbs) ∧ Rn w2 (.slice ao_va12 n_va12 c_va12) (a1.den - 1) ∧ Rn w2 (.slice ao_va21 n_va21 c_va21) (a2.num.natAbs) ∧ Rn w2 (.slice ao_va22 n_va22 c_va22) (a2.den - 1) ∧ Bx w2 (w.heap.size) 47 #[.bool (decide (a1.num < 0)), (.slice ao_va11 n_va11 c_va11), (.slice ao_va12 n_va12 c_va12), .bool (decide (a2.num < 0)), (.slice ao_va21 n_va21 c_va21), (.slice ao_va22 n_va22 c_va22)] ∧ Bx w2 (w.heap.size + 1 + 1 + 1) 47 #[.bool false, .slice none 0 0, .slice none 0 0, .bool false, .slice none 0 0, .slice none 0 0] ∧ Rn w2 (.slice ao1 nn1 cc1) (u1.num.natAbs) ∧ Rn w2 (.slice ao2 nn2 cc2) (u1.den - 1) ∧ Rn w2 (.slice ao3 nn3 cc3) (u2.num.natAbs) ∧ Rn w2 (.slice ao4 nn4 cc4) (u2.den - 1) ∧ Bx w2 gx41 47 #[.bool (decide (u1.num < 0)), (.slice ao1 nn1 cc1), (.slice ao2 nn2 cc2), .bool (decide (u2.num < 0)), (.slice ao3 nn3 cc3), (.slice ao4 nn4 cc4)] ∧ Rn w2 (.slice ao5 nn5 cc5) (u3.num.natAbs) ∧ Rn w2 (.slice ao6 nn6 cc6) (u3.den - 1) ∧ Rn w2 (.slice ao7 nn7 cc7) (u4.num.natAbs) ∧ Rn w2 (.slice ao8 nn8 cc8) (u4.den - 1) ∧ Bx w2 (vw2.heap.size) 47 #[.bool (decide (u3.num < 0)), (.slice ao5 nn5 cc5), (.slice ao6 nn6 cc6), .bool (decide (u4.num < 0)), (.slice ao7 nn7 cc7), (.slice ao8 nn8 cc8)] ∧ Below w.heap.size w w2) ⟨(BX21.out).alloc _, (BX22.out).alloc _, (BX23.out).alloc _, (BX24.out).alloc _, (BX33.out).alloc _, (BX36.out).alloc _, (BX37.out).alloc _, (BX38.out).alloc _, (BX39.out).alloc _, (BX40.out).alloc _, (BX41.out).alloc _, (BX42.out).alloc _, (BX43.out).alloc _, (BX44.out).alloc _, (BX45.out).alloc _, (Bx.at (by simp) : Bx _ (vw2.heap.size) _ _), (HB.out.trans (HG.out.mono HB.out.size)).alloc (by first | omega | (simp; omega)) _⟩ ?_
  clear HB HG BX21 BX22 BX23 BX24 BX29 BX30 BX31 BX32 BX33 BX35 BX36 BX37 BX38 BX39 BX40 BX41 BX42 BX43 BX44 BX45
  rintro Wx2 ⟨bx21, bx22, bx23, bx24, bx33, bx36, bx37, bx38, bx39, bx40, bx41, bx42, bx43, bx44, bx45, bx46, HB⟩
  replace HB := Lib.hid HB
  have yx46 : w.heap.size ≤ vw2.heap.size := by omega
  have qx33_46 : w.heap.size < vw2.heap.size := by omega
  have qx35_46 : w.heap.size + 1 + 1 < vw2.heap.size := by omega
  have qx36_46 : w.heap.size + 1 + 1 + 1 < vw2.heap.size := by omega
  have qx41_46 : gx41 < vw2.heap.size := by omega
  generalize hx46 : vw2.heap.size = gx46 at *
  clear hx46
  clear hsz mx33 mx35 mx36 mx41
  -- region 3
  obtain ⟨u5, HZ5⟩ : ∃ z, Hid (((2 : Int) : Rat) = z) := ⟨_, Lib.hid rfl⟩
  have su5 : rz u5 ≤ 5 := by rw [← HZ5.out]; exact rz_i64 (by omega) (by omega)
  obtain ⟨u6, HZ6⟩ : ∃ z, Hid ((u1) * (u4) - (u2) * (u3) = z) := ⟨_, Lib.hid rfl⟩
  have su6 : rz u6 ≤ 80005 := by rw [← HZ6.out]; have := rz_cross (u1) (u2) (u3) (u4); omega
  obtain ⟨u7, HZ7⟩ : ∃ z, Hid ((u5) * (u6) = z) := ⟨_, Lib.hid rfl⟩
  have su7 : rz u7 ≤ 80010 := by rw [← HZ7.out]; have := rz_mul (u5) (u6); omega
  have lx41 := bx41.cells
  have lx46 := bx46.cells
  have BX21 := Lib.hid bx21
  have BX22 := Lib.hid bx22
  have BX23 := Lib.hid bx23
  have BX24 := Lib.hid bx24
  have BX33 := Lib.hid bx33
  have BX36 := Lib.hid bx36
  have BX37 := Lib.hid bx37
  have BX38 := Lib.hid bx38
  have BX39 := Lib.hid bx39
  have BX40 := Lib.hid bx40
  have BX41 := Lib.hid bx41
  have BX42 := Lib.hid bx42
  have BX43 := Lib.hid bx43
  have BX44 := Lib.hid bx44
  have BX45 := Lib.hid bx45
  have BX46 := Lib.hid bx46
  clear bx21 bx22 bx23 bx24 bx33 bx36 bx37 bx38 bx39 bx40 bx41 bx42 bx43 bx44 bx45 bx46
  refine wp_seq_k fun K hK => ?_
  replace hK := Lib.hid hK
  have HS0 := Lib.hid (HB.out.size)
  have MX33 : w.heap.size < Wx2.heap.size := BX33.out.lt
  have MX36 : w.heap.size + 1 + 1 + 1 < Wx2.heap.size := BX36.out.lt
  have MX41 : gx41 < Wx2.heap.size := BX41.out.lt
  have MX46 : gx46 < Wx2.heap.size := BX46.out.lt
  refine wp_region_plan 6 [5] [] (fun _ => 9) (fun _ => .cells #[.bool false, .slice none 0 0, .slice none 0 0] 45) [(true, 1), (true, 2), (false, 0), (false, 3), (false, 4)] (by kernel_rfl) (by kernel_rfl) (by intro i hi; simp only [List.mem_cons, List.not_mem_nil, or_false] at hi; rcases hi with rfl <;> exact ⟨_, rfl, rfl, rfl, by simp, fun ρ w => by kernel_rfl⟩) (fun i hi => by cases hi) (fun _ _ _ _ _ h => h) (fun T hT => ?_)
  iterate 2
    refine wpPlan_takeL (v := ?_) rfl (by rfl) (fun w' hw => ?_) ?_
    rotate_left
    · go_simp
      with_reducible rfl
    simp only [Act.put, rA, rB, rC]
  refine wpPlan_callE rfl (by rfl) Tryz.call52 (by rfl) (fun w' hw => (qint_any (2) (u5) _ HZ5.out (by omega) (by omega)).mono ?_)
  rintro e vv1 ⟨⟨rv9, rv10, rfl, bx47, bx48⟩, hg0⟩
  obtain ⟨ao9, nn9, cc9, rfl⟩ := Rn.sl bx47
  obtain ⟨ao10, nn10, cc10, rfl⟩ := Rn.sl bx48
  refine ⟨_, rfl, hg0, ?_⟩
  replace hg0 := Gr.trans hw hg0; clear hw
  have HG0 := Lib.hid hg0; clear hg0
  replace BX21 := rG BX21 HG0
  replace BX22 := rG BX22 HG0
  replace BX23 := rG BX23 HG0
  replace BX24 := rG BX24 HG0
  replace BX33 := bG BX33 HG0
  replace BX36 := bG BX36 HG0
  replace BX37 := rG BX37 HG0
  replace BX38 := rG BX38 HG0
  replace BX39 := rG BX39 HG0
  replace BX40 := rG BX40 HG0
  replace BX41 := bG BX41 HG0
  replace BX42 := rG BX42 HG0
  replace BX43 := rG BX43 HG0
  replace BX44 := rG BX44 HG0
  replace BX45 := rG BX45 HG0
  replace BX46 := bG BX46 HG0
  replace HB := Lib.hid (HB.out.trans (HG0.out.mono HB.out.size))
  have BX47 := Lib.hid bx47; clear bx47
  have BX48 := Lib.hid bx48; clear bx48
  clear HG0
  clear lx41; have lx41 := BX41.out.cells
  clear lx46; have lx46 := BX46.out.cells
  simp only [Act.put, rA, rB, rC]
  refine wpPlan_callE rfl (by rfl) Tryz.call19 (by rfl) (fun w' hw => (rpcross (u1) (u2) (u3) (u4) (u6) _ _ _ _ _ _ _ _ _ HZ6.out (by omega) (by omega) (by omega) (by omega) (BX37.out.gr hw) (BX38.out.gr hw) (BX39.out.gr hw) (BX40.out.gr hw) (BX42.out.gr hw) (BX43.out.gr hw) (BX44.out.gr hw) (BX45.out.gr hw)).mono ?_)
  rintro e vv2 ⟨⟨rv11, rv12, rfl, bx49, bx50⟩, hg0⟩
  obtain ⟨ao11, nn11, cc11, rfl⟩ := Rn.sl bx49
  obtain ⟨ao12, nn12, cc12, rfl⟩ := Rn.sl bx50
  refine ⟨_, rfl, hg0, ?_⟩
  replace hg0 := Gr.trans hw hg0; clear hw
  have HG0 := Lib.hid hg0; clear hg0
  replace BX21 := rG BX21 HG0
  replace BX22 := rG BX22 HG0
  replace BX23 := rG BX23 HG0
  replace BX24 := rG BX24 HG0
  replace BX33 := bG BX33 HG0
  replace BX36 := bG BX36 HG0
  replace BX37 := rG BX37 HG0
  replace BX38 := rG BX38 HG0
  replace BX39 := rG BX39 HG0
  replace BX40 := rG BX40 HG0
  replace BX41 := bG BX41 HG0
  replace BX42 := rG BX42 HG0
  replace BX43 := rG BX43 HG0
  replace BX44 := rG BX44 HG0
  replace BX45 := rG BX45 HG0
  replace BX46 := bG BX46 HG0
  replace BX47 := rG BX47 HG0
  replace BX48 := rG BX48 HG0
  replace HB := Lib.hid (HB.out.trans (HG0.out.mono HB.out.size))
  have BX49 := Lib.hid bx49; clear bx49
  have BX50 := Lib.hid bx50; clear bx50
  clear HG0
  clear lx41; have lx41 := BX41.out.cells
  clear lx46; have lx46 := BX46.out.cells
  simp only [Act.put, rA, rB, rC]
  refine wpPlan_callE rfl (by rfl) Tryz.call40 (by rfl) (fun w' hw => (qmul_any (u5) (u6) (u7) _ _ _ _ _ HZ7.out (by omega) (by omega) (BX47.out.gr hw) (BX48.out.gr hw) (BX49.out.gr hw) (BX50.out.gr hw)).mono ?_)
  rintro e vv3 ⟨⟨rv13, rv14, rfl, bx51, bx52⟩, hg0⟩
  obtain ⟨ao13, nn13, cc13, rfl⟩ := Rn.sl bx51
  obtain ⟨ao14, nn14, cc14, rfl⟩ := Rn.sl bx52
  refine ⟨_, rfl, hg0, ?_⟩
  replace hg0 := Gr.trans hw hg0; clear hw
  have HG0 := Lib.hid hg0; clear hg0
  replace BX21 := rG BX21 HG0
  replace BX22 := rG BX22 HG0
  replace BX23 := rG BX23 HG0
  replace BX24 := rG BX24 HG0
  replace BX33 := bG BX33 HG0
  replace BX36 := bG BX36 HG0
  replace BX37 := rG BX37 HG0
  replace BX38 := rG BX38 HG0
  replace BX39 := rG BX39 HG0
  replace BX40 := rG BX40 HG0
  replace BX41 := bG BX41 HG0
  replace BX42 := rG BX42 HG0
  replace BX43 := rG BX43 HG0
  replace BX44 := rG BX44 HG0
  replace BX45 := rG BX45 HG0
  replace BX46 := bG BX46 HG0
  replace BX47 := rG BX47 HG0
  replace BX48 := rG BX48 HG0
  replace BX49 := rG BX49 HG0
  replace BX50 := rG BX50 HG0
  replace HB := Lib.hid (HB.out.trans (HG0.out.mono HB.out.size))
  have BX51 := Lib.hid bx51; clear bx51
  have BX52 := Lib.hid bx52; clear bx52
  clear HG0
  clear lx41; have lx41 := BX41.out.cells
  clear lx46; have lx46 := BX46.out.cells
  simp only [Act.put, rA, rB, rC]
  refine wpPlan_nil (hT.out _ _ ?_); clear hT T
  intro G vw3 hg hf
  simp only [puts, Act.put, rA, rB, rC, rD, rE, ↓reduceIte, Nat.reduceEqDiff]
  clear lx41 lx46
  have HG := Lib.hid (hg)
  clear hg
  have bx53 := Bx.of_fresh hf (i := 5) (by decide) rfl
  have yx53 := (hf.1 5 (by decide)).1
  clear hf
  generalize G 5 = gx53 at *
  have qx33_53 : w.heap.size < gx53 := Nat.lt_of_lt_of_le MX33 yx53
  have qx36_53 : w.heap.size + 1 + 1 + 1 < gx53 := Nat.lt_of_lt_of_le MX36 yx53
  have qx41_53 : gx41 < gx53 := Nat.lt_of_lt_of_le MX41 yx53
  have qx46_53 : gx46 < gx53 := Nat.lt_of_lt_of_le MX46 yx53
  replace yx53 : w.heap.size ≤ gx53 := Nat.le_trans HS0.out yx53
  replace BX21 := rG BX21 HG
  replace BX22 := rG BX22 HG
  replace BX23 := rG BX23 HG
  replace BX24 := rG BX24 HG
  replace BX33 := bG BX33 HG
  replace BX36 := bG BX36 HG
  replace BX37 := rG BX37 HG
  replace BX38 := rG BX38 HG
  replace BX39 := rG BX39 HG
  replace BX40 := rG BX40 HG
  replace BX41 := bG BX41 HG
  replace BX42 := rG BX42 HG
  replace BX43 := rG BX43 HG
  replace BX44 := rG BX44 HG
  replace BX45 := rG BX45 HG
  replace BX46 := bG BX46 HG
  replace BX47 := rG BX47 HG
  replace BX48 := rG BX48 HG
  replace BX49 := rG BX49 HG
  replace BX50 := rG BX50 HG
  replace BX51 := rG BX51 HG
  replace BX52 := rG BX52 HG
  have lx53 := bx53.cells; have fx53 := bx53.free
  have r0 := Gr.refl vw3
  have BX53 := Lib.hid bx53; clear bx53
  go_wp2
  refine hK.out _ _ ?_; clear hK K
  show Code.wp _ _ _ _ _
  clear lx53 fx53
  clear r0
  refine forgetW (fun w2 => Rn w2 (.slice ao_va11 n_va11 c_va11) (a1.num.natAbs) ∧ Rn w2 (.slice ao_va12 n_va12 c_va12) (a1.den - 1) ∧ Rn w2 (.slice ao_va21 n_va21 c_va21) (a2.num.natAbs) ∧ Rn w2 (.slice ao_va22 n_va22 c_va22) (a2.den - 1) ∧ Bx w2 (w.heap.size) 47 #[.bool (decide (a1.num < 0)), (.slice ao_va11 n_va11 c_va11), (.slice ao_va12 n_va12 c_va12), .bool (decide (a2.num < 0)), (.slice ao_va21 n_va21 c_va21), (.slice ao_va22 n_va22 c_va22)] ∧ Bx w2 (w.heap.size + 1 + 1 + 1) 47 #[.bool false, .slice none 0 0, .slice none 0 0, .bool false, .slice none 0 0, .slice none 0 0] ∧ Rn w2 (.slice ao1 nn1 cc1) (u1.num.natAbs) ∧ Rn w2 (.slice ao2 nn2 cc2) (u1.den - 1) ∧ Rn w2 (.slice ao3 nn3 cc3) (u2.num.natAbs) ∧ Rn w2 (.slice ao4 nn4 cc4) (u2.den - 1) ∧ Bx w2 gx41 47 #[.bool (decide (u1.num < 0)), (.slice ao1 nn1 cc1), (.slice ao2 nn2 cc2), .bool (decide (u2.num < 0)), (.slice ao3 nn3 cc3), (.slice ao4 nn4 cc4)] ∧ Rn w2 (.slice ao5 nn5 cc5) (u3.num.natAbs) ∧ Rn w2 (.slice ao6 nn6 cc6) (u3.den - 1) ∧ Rn w2 (.slice ao7 nn7 cc7) (u4.num.natAbs) ∧ Rn w2 (.slice ao8 nn8 cc8) (u4.den - 1) ∧ Bx w2 gx46 47 #[.bool (decide (u3.num < 0)), (.slice ao5 nn5 cc5), (.slice ao6 nn6 cc6), .bool (decide (u4.num < 0)), (.slice ao7 nn7 cc7), (.slice ao8 nn8 cc8)] ∧ Rn w2 (.slice ao13 nn13 cc13) (u7.num.natAbs) ∧ Rn w2 (.slice ao14 nn14 cc14) (u7.den - 1) ∧ Bx w2 gx53 45 #[.bool (decide (u7.num < 0)), (.slice ao13 nn13 cc13), (.slice ao14 nn14 cc14)] ∧ Below w.heap.size w w2) ⟨ro3 (BX21.out) (Rn.ne BX21.out BX53.out (by decide)), ro3 (BX22.out) (Rn.ne BX22.out BX53.out (by decide)), ro3 (BX23.out) (Rn.ne BX23.out BX53.out (by decide)), ro3 (BX24.out) (Rn.ne BX24.out BX53.out (by decide)), so3 (BX33.out) (by show w.heap.size ≠ gx53; omega), so3 (BX36.out) (by show w.heap.size + 1 + 1 + 1 ≠ gx53; omega), ro3 (BX37.out) (Rn.ne BX37.out BX53.out (by decide)), ro3 (BX38.out) (Rn.ne BX38.out BX53.out (by decide)), ro3 (BX39.out) (Rn.ne BX39.out BX53.out (by decide)), ro3 (BX40.out) (Rn.ne BX40.out BX53.out (by decide)), so3 (BX41.out) (by show gx41 ≠ gx53; omega), ro3 (BX42.out) (Rn.ne BX42.out BX53.out (by decide)), ro3 (BX43.out) (Rn.ne BX43.out BX53.out (by decide)), ro3 (BX44.out) (Rn.ne BX44.out BX53.out (by decide)), ro3 (BX45.out) (Rn.ne BX45.out BX53.out (by decide)), so3 (BX46.out) (by show gx46 ≠ gx53; omega), ro3 (BX51.out) (Rn.ne BX51.out BX53.out (by decide)), ro3 (BX52.out) (Rn.ne BX52.out BX53.out (by decide)), ((((BX53.out).set 0 _).set 1 _).set 2 _).eq (by simp only [rA, rB, rC]), sc3 (HB.out.trans (HG.out.mono HB.out.size)) (by show w.heap.size ≤ gx53; omega)⟩ ?_
  clear HB HG BX21 BX22 BX23 BX24 BX33 BX36 BX37 BX38 BX39 BX40 BX41 BX42 BX43 BX44 BX45 BX46 BX47 BX48 BX49 BX50 BX51 BX52 BX53
  rintro Wx3 ⟨bx21, bx22, bx23, bx24, bx33, bx36, bx37, bx38, bx39, bx40, bx41, bx42, bx43, bx44, bx45, bx46, bx51, bx52, bx53, HB⟩
  replace HB := Lib.hid HB
  -- region 4
  obtain ⟨u8, HZ8⟩ : ∃ z, Hid ((u1) * (u1) + (u2) * (u2) = z) := ⟨_, Lib.hid rfl⟩
  have su8 : rz u8 ≤ 80005 := by rw [← HZ8.out]; have := rz_dot (u1) (u2) (u1) (u2); omega
  obtain ⟨u9, HZ9⟩ : ∃ z, Hid ((u8) * (u4) = z) := ⟨_, Lib.hid rfl⟩
  have su9 : rz u9 ≤ 100006 := by rw [← HZ9.out]; have := rz_mul (u8) (u4); omega
  obtain ⟨u10, HZ10⟩ : ∃ z, Hid ((u3) * (u3) + (u4) * (u4) = z) := ⟨_, Lib.hid rfl⟩
  have su10 : rz u10 ≤ 80005 := by rw [← HZ10.out]; have := rz_dot (u3) (u4) (u3) (u4); omega
  obtain ⟨u11, HZ11⟩ : ∃ z, Hid ((u10) * (u2) = z) := ⟨_, Lib.hid rfl⟩
  have su11 : rz u11 ≤ 100006 := by rw [← HZ11.out]; have := rz_mul (u10) (u2); omega
  obtain ⟨u12, HZ12⟩ : ∃ z, Hid ((u9) - (u11) = z) := ⟨_, Lib.hid rfl⟩
  have su12 : rz u12 ≤ 200013 := by rw [← HZ12.out]; have := rz_sub (u9) (u11); omega
  have lx41 := bx41.cells
  have lx46 := bx46.cells
  have BX21 := Lib.hid bx21
  have BX22 := Lib.hid bx22
  have BX23 := Lib.hid bx23
  have BX24 := Lib.hid bx24
  have BX33 := Lib.hid bx33
  have BX36 := Lib.hid bx36
  have BX37 := Lib.hid bx37
  have BX38 := Lib.hid bx38
  have BX39 := Lib.hid bx39
  have BX40 := Lib.hid bx40
  have BX41 := Lib.hid bx41
  have BX42 := Lib.hid bx42
  have BX43 := Lib.hid bx43
  have BX44 := Lib.hid bx44
  have BX45 := Lib.hid bx45
  have BX46 := Lib.hid bx46
  have BX51 := Lib.hid bx51
  have BX52 := Lib.hid bx52
  have BX53 := Lib.hid bx53
  clear bx21 bx22 bx23 bx24 bx33 bx36 bx37 bx38 bx39 bx40 bx41 bx42 bx43 bx44 bx45 bx46 bx51 bx52 bx53
  refine wp_seq_k fun K hK => ?_
  replace hK := Lib.hid hK
  have HS0 := Lib.hid (HB.out.size)
  have MX33 : w.heap.size < Wx3.heap.size := BX33.out.lt
  have MX36 : w.heap.size + 1 + 1 + 1 < Wx3.heap.size := BX36.out.lt
  have MX41 : gx41 < Wx3.heap.size := BX41.out.lt
  have MX46 : gx46 < Wx3.heap.size := BX46.out.lt
  have MX53 : gx53 < Wx3.heap.size := BX53.out.lt
  refine wp_region_plan 14 [13] [] (fun _ => 10) (fun _ => .cells #[.bool false, .slice none 0 0, .slice none 0 0] 45) [(true, 0), (true, 1), (true, 3), (true, 4), (true, 6), (true, 7), (true, 9), (true, 10), (false, 2), (false, 5), (false, 8), (false, 11), (false, 12)] (by kernel_rfl) (by kernel_rfl) (by intro i hi; simp only [List.mem_cons, List.not_mem_nil, or_false] at hi; rcases hi with rfl <;> exact ⟨_, rfl, rfl, rfl, by simp, fun ρ w => by kernel_rfl⟩) (fun i hi => by cases hi) (fun _ _ _ _ _ h => h) (fun T hT => ?_)
  iterate 8
    refine wpPlan_takeL (v := ?_) rfl (by rfl) (fun w' hw => ?_) ?_
    rotate_left
    · go_simp
      with_reducible rfl
    simp only [Act.put, rA, rB, rC]
  refine wpPlan_callE rfl (by rfl) Tryz.call24 (by rfl) (fun w' hw => (rpdot (u1) (u2) (u1) (u2) (u8) _ _ _ _ _ _ _ _ _ HZ8.out (by omega) (by omega) (by omega) (by omega) (BX37.out.gr hw) (BX38.out.gr hw) (BX39.out.gr hw) (BX40.out.gr hw) (BX37.out.gr hw) (BX38.out.gr hw) (BX39.out.gr hw) (BX40.out.gr hw)).mono ?_)
  rintro e vv1 ⟨⟨rv15, rv16, rfl, bx54, bx55⟩, hg0⟩
  obtain ⟨ao15, nn15, cc15, rfl⟩ := Rn.sl bx54
  obtain ⟨ao16, nn16, cc16, rfl⟩ := Rn.sl bx55
  refine ⟨_, rfl, hg0, ?_⟩
  replace hg0 := Gr.trans hw hg0; clear hw
  have HG0 := Lib.hid hg0; clear hg0
  replace BX21 := rG BX21 HG0
  replace BX22 := rG BX22 HG0
  replace BX23 := rG BX23 HG0
  replace BX24 := rG BX24 HG0
  replace BX33 := bG BX33 HG0
  replace BX36 := bG BX36 HG0
  replace BX37 := rG BX37 HG0
  replace BX38 := rG BX38 HG0
  replace BX39 := rG BX39 HG0
  replace BX40 := rG BX40 HG0
  replace BX41 := bG BX41 HG0
  replace BX42 := rG BX42 HG0
  replace BX43 := rG BX43 HG0
  replace BX44 := rG BX44 HG0
  replace BX45 := rG BX45 HG0
  replace BX46 := bG BX46 HG0
  replace BX51 := rG BX51 HG0
  replace BX52 := rG BX52 HG0
  replace BX53 := bG BX53 HG0
  replace HB := Lib.hid (HB.out.trans (HG0.out.mono HB.out.size))
  have BX54 := Lib.hid bx54; clear bx54
  have BX55 := Lib.hid bx55; clear bx55
  clear HG0
  clear lx41; have lx41 := BX41.out.cells
  clear lx46; have lx46 := BX46.out.cells
  simp only [Act.put, rA, rB, rC]
  refine wpPlan_callE rfl (by rfl) Tryz.call40 (by rfl) (fun w' hw => (qmul_any (u8) (u4) (u9) _ _ _ _ _ HZ9.out (by omega) (by omega) (BX54.out.gr hw) (BX55.out.gr hw) (BX44.out.gr hw) (BX45.out.gr hw)).mono ?_)
  rintro e vv2 ⟨⟨rv17, rv18, rfl, bx56, bx57⟩, hg0⟩
  obtain ⟨ao17, nn17, cc17, rfl⟩ := Rn.sl bx56
  obtain ⟨ao18, nn18, cc18, rfl⟩ := Rn.sl bx57
  refine ⟨_, rfl, hg0, ?_⟩
  replace hg0 := Gr.trans hw hg0; clear hw
  have HG0 := Lib.hid hg0; clear hg0
  replace BX21 := rG BX21 HG0
  replace BX22 := rG BX22 HG0
  replace BX23 := rG BX23 HG0
  replace BX24 := rG BX24 HG0
  replace BX33 := bG BX33 HG0
  replace BX36 := bG BX36 HG0
  replace BX37 := rG BX37 HG0
  replace BX38 := rG BX38 HG0
  replace BX39 := rG BX39 HG0
  replace BX40 := rG BX40 HG0
  replace BX41 := bG BX41 HG0
  replace BX42 := rG BX42 HG0
  replace BX43 := rG BX43 HG0
  replace BX44 := rG BX44 HG0
  replace BX45 := rG BX45 HG0
  replace BX46 := bG BX46 HG0
  replace BX51 := rG BX51 HG0
  replace BX52 := rG BX52 HG0
  replace BX53 := bG BX53 HG0
  replace BX54 := rG BX54 HG0
  replace BX55 := rG BX55 HG0
  replace HB := Lib.hid (HB.out.trans (HG0.out.mono HB.out.size))
  have BX56 := Lib.hid bx56; clear bx56
  have BX57 := Lib.hid bx57; clear bx57
  clear HG0
  clear lx41; have lx41 := BX41.out.cells
  clear lx46; have lx46 := BX46.out.cells
  simp only [Act.put, rA, rB, rC]
  refine wpPlan_callE rfl (by rfl) Tryz.call24 (by rfl) (fun w' hw => (rpdot (u3) (u4) (u3) (u4) (u10) _ _ _ _ _ _ _ _ _ HZ10.out (by omega) (by omega) (by omega) (by omega) (BX42.out.gr hw) (BX43.out.gr hw) (BX44.out.gr hw) (BX45.out.gr hw) (BX42.out.gr hw) (BX43.out.gr hw) (BX44.out.gr hw) (BX45.out.gr hw)).mono ?_)
  rintro e vv3 ⟨⟨rv19, rv20, rfl, bx58, bx59⟩, hg0⟩
  obtain ⟨ao19, nn19, cc19, rfl⟩ := Rn.sl bx58
  obtain ⟨ao20, nn20, cc20, rfl⟩ := Rn.sl bx59
  refine ⟨_, rfl, hg0, ?_⟩
  replace hg0 := Gr.trans hw hg0; clear hw
  have HG0 := Lib.hid hg0; clear hg0
  replace BX21 := rG BX21 HG0
  replace BX22 := rG BX22 HG0
  replace BX23 := rG BX23 HG0
  replace BX24 := rG BX24 HG0
  replace BX33 := bG BX33 HG0
  replace BX36 := bG BX36 HG0
  replace BX37 := rG BX37 HG0
  replace BX38 := rG BX38 HG0
  replace BX39 := rG BX39 HG0
  replace BX40 := rG BX40 HG0
  replace BX41 := bG BX41 HG0
  replace BX42 := rG BX42 HG0
  replace BX43 := rG BX43 HG0
  replace BX44 := rG BX44 HG0
  replace BX45 := rG BX45 HG0
  replace BX46 := bG BX46 HG0
  replace BX51 := rG BX51 HG0
  replace BX52 := rG BX52 HG0
  replace BX53 := bG BX53 HG0
  replace BX54 := rG BX54 HG0
  replace BX55 := rG BX55 HG0
  replace BX56 := rG BX56 HG0
  replace BX57 := rG BX57 HG0
  replace HB := Lib.hid (HB.out.trans (HG0.out.mono HB.out.size))
  have BX58 := Lib.hid bx58; clear bx58
  have BX59 := Lib.hid bx59; clear bx59
  clear HG0
  clear lx41; have lx41 := BX41.out.cells
  clear lx46; have lx46 := BX46.out.cells
  simp only [Act.put, rA, rB, rC]
  refine wpPlan_callE rfl (by rfl) Tryz.call40 (by rfl) (fun w' hw => (qmul_any (u10) (u2) (u11) _ _ _ _ _ HZ11.out (by omega) (by omega) (BX58.out.gr hw) (BX59.out.gr hw) (BX39.out.gr hw) (BX40.out.gr hw)).mono ?_)
  rintro e vv4 ⟨⟨rv21, rv22, rfl, bx60, bx61⟩, hg0⟩
  obtain ⟨ao21, nn21, cc21, rfl⟩ := Rn.sl bx60
  obtain ⟨ao22, nn22, cc22, rfl⟩ := Rn.sl bx61
  refine ⟨_, rfl, hg0, ?_⟩
  replace hg0 := Gr.trans hw hg0; clear hw
  have HG0 := Lib.hid hg0; clear hg0
  replace BX21 := rG BX21 HG0
  replace BX22 := rG BX22 HG0
  replace BX23 := rG BX23 HG0
  replace BX24 := rG BX24 HG0
  replace BX33 := bG BX33 HG0
  replace BX36 := bG BX36 HG0
  replace BX37 := rG BX37 HG0
  replace BX38 := rG BX38 HG0
  replace BX39 := rG BX39 HG0
  replace BX40 := rG BX40 HG0
  replace BX41 := bG BX41 HG0
  replace BX42 := rG BX42 HG0
  replace BX43 := rG BX43 HG0
  replace BX44 := rG BX44 HG0
  replace BX45 := rG BX45 HG0
  replace BX46 := bG BX46 HG0
  replace BX51 := rG BX51 HG0
  replace BX52 := rG BX52 HG0
  replace BX53 := bG BX53 HG0
  replace BX54 := rG BX54 HG0
  replace BX55 := rG BX55 HG0
  replace BX56 := rG BX56 HG0
  replace BX57 := rG BX57 HG0
  replace BX58 := rG BX58 HG0
  replace BX59 := rG BX59 HG0
  replace HB := Lib.hid (HB.out.trans (HG0.out.mono HB.out.size))
  have BX60 := Lib.hid bx60; clear bx60
  have BX61 := Lib.hid bx61; clear bx61
  clear HG0
  clear lx41; have lx41 := BX41.out.cells
  clear lx46; have lx46 := BX46.out.cells
  simp only [Act.put, rA, rB, rC]
  refine wpPlan_callE rfl (by rfl) Tryz.call39 (by rfl) (fun w' hw => (qsub_any (u9) (u11) (u12) _ _ _ _ _ HZ12.out (by omega) (by omega) (BX56.out.gr hw) (BX57.out.gr hw) (BX60.out.gr hw) (BX61.out.gr hw)).mono ?_)
  rintro e vv5 ⟨⟨rv23, rv24, rfl, bx62, bx63⟩, hg0⟩
  obtain ⟨ao23, nn23, cc23, rfl⟩ := Rn.sl bx62
  obtain ⟨ao24, nn24, cc24, rfl⟩ := Rn.sl bx63
  refine ⟨_, rfl, hg0, ?_⟩
  replace hg0 := Gr.trans hw hg0; clear hw
  have HG0 := Lib.hid hg0; clear hg0
  replace BX21 := rG BX21 HG0
  replace BX22 := rG BX22 HG0
  replace BX23 := rG BX23 HG0
  replace BX24 := rG BX24 HG0
  replace BX33 := bG BX33 HG0
  replace BX36 := bG BX36 HG0
  replace BX37 := rG BX37 HG0
  replace BX38 := rG BX38 HG0
  replace BX39 := rG BX39 HG0
  replace BX40 := rG BX40 HG0
  replace BX41 := bG BX41 HG0
  replace BX42 := rG BX42 HG0
  replace BX43 := rG BX43 HG0
  replace BX44 := rG BX44 HG0
  replace BX45 := rG BX45 HG0
  replace BX46 := bG BX46 HG0
  replace BX51 := rG BX51 HG0
  replace BX52 := rG BX52 HG0
  replace BX53 := bG BX53 HG0
  replace BX54 := rG BX54 HG0
  replace BX55 := rG BX55 HG0
  replace BX56 := rG BX56 HG0
  replace BX57 := rG BX57 HG0
  replace BX58 := rG BX58 HG0
  replace BX59 := rG BX59 HG0
  replace BX60 := rG BX60 HG0
  replace BX61 := rG BX61 HG0
  replace HB := Lib.hid (HB.out.trans (HG0.out.mono HB.out.size))
  have BX62 := Lib.hid bx62; clear bx62
  have BX63 := Lib.hid bx63; clear bx63
  clear HG0
  clear lx41; have lx41 := BX41.out.cells
  clear lx46; have lx46 := BX46.out.cells
  simp only [Act.put, rA, rB, rC]
  refine wpPlan_nil (hT.out _ _ ?_); clear hT T
  intro G vw4 hg hf
  simp only [puts, Act.put, rA, rB, rC, rD, rE, ↓reduceIte, Nat.reduceEqDiff]
  clear lx41 lx46
  have HG := Lib.hid (hg)
  clear hg
  have bx64 := Bx.of_fresh hf (i := 13) (by decide) rfl
  have yx64 := (hf.1 13 (by decide)).1
  clear hf
  generalize G 13 = gx64 at *
  have qx33_64 : w.heap.size < gx64 := Nat.lt_of_lt_of_le MX33 yx64
  have qx36_64 : w.heap.size + 1 + 1 + 1 < gx64 := Nat.lt_of_lt_of_le MX36 yx64
  have qx41_64 : gx41 < gx64 := Nat.lt_of_lt_of_le MX41 yx64
  have qx46_64 : gx46 < gx64 := Nat.lt_of_lt_of_le MX46 yx64
  have qx53_64 : gx53 < gx64 := Nat.lt_of_lt_of_le MX53 yx64
  replace yx64 : w.heap.size ≤ gx64 := Nat.le_trans HS0.out yx64
  replace BX21 := rG BX21 HG
  replace BX22 := rG BX22 HG
  replace BX23 := rG BX23 HG
  replace BX24 := rG BX24 HG
  replace BX33 := bG BX33 HG
  replace BX36 := bG BX36 HG
  replace BX37 := rG BX37 HG
  replace BX38 := rG BX38 HG
  replace BX39 := rG BX39 HG
  replace BX40 := rG BX40 HG
  replace BX41 := bG BX41 HG
  replace BX42 := rG BX42 HG
  replace BX43 := rG BX43 HG
  replace BX44 := rG BX44 HG
  replace BX45 := rG BX45 HG
  replace BX46 := bG BX46 HG
  replace BX51 := rG BX51 HG
  replace BX52 := rG BX52 HG
  replace BX53 := bG BX53 HG
  replace BX54 := rG BX54 HG
  replace BX55 := rG BX55 HG
  replace BX56 := rG BX56 HG
  replace BX57 := rG BX57 HG
  replace BX58 := rG BX58 HG
  replace BX59 := rG BX59 HG
  replace BX60 := rG BX60 HG
  replace BX61 := rG BX61 HG
  replace BX62 := rG BX62 HG
  replace BX63 := rG BX63 HG
  have lx64 := bx64.cells; have fx64 := bx64.free
  have r0 := Gr.refl vw4
  have BX64 := Lib.hid bx64; clear bx64
  go_wp2
  refine hK.out _ _ ?_; clear hK K
  show Code.wp _ _ _ _ _
  clear lx64 fx64
  clear r0
  refine forgetW (fun w2 => Rn w2 (.slice ao_va11 n_va11 c_va11) (a1.num.natAbs) ∧ Rn w2 (.slice ao_va12 n_va12 c_va12) (a1.den - 1) ∧ Rn w2 (.slice ao_va21 n_va21 c_va21) (a2.num.natAbs) ∧ Rn w2 (.slice ao_va22 n_va22 c_va22) (a2.den - 1) ∧ Bx w2 (w.heap.size) 47 #[.bool (decide (a1.num < 0)), (.slice ao_va11 n_va11 c_va11), (.slice ao_va12 n_va12 c_va12), .bool (decide (a2.num < 0)), (.slice ao_va21 n_va21 c_va21), (.slice ao_va22 n_va22 c_va22)] ∧ Bx w2 (w.heap.size + 1 + 1 + 1) 47 #[.bool false, .slice none 0 0, .slice none 0 0, .bool false, .slice none 0 0, .slice none 0 0] ∧ Rn w2 (.slice ao1 nn1 cc1) (u1.num.natAbs) ∧ Rn w2 (.slice ao2 nn2 cc2) (u1.den - 1) ∧ Rn w2 (.slice ao3 nn3 cc3) (u2.num.natAbs) ∧ Rn w2 (.slice ao4 nn4 cc4) (u2.den - 1) ∧ Bx w2 gx41 47 #[.bool (decide (u1.num < 0)), (.slice ao1 nn1 cc1), (.slice ao2 nn2 cc2), .bool (decide (u2.num < 0)), (.slice ao3 nn3 cc3), (.slice ao4 nn4 cc4)] ∧ Rn w2 (.slice ao5 nn5 cc5) (u3.num.natAbs) ∧ Rn w2 (.slice ao6 nn6 cc6) (u3.den - 1) ∧ Rn w2 (.slice ao7 nn7 cc7) (u4.num.natAbs) ∧ Rn w2 (.slice ao8 nn8 cc8) (u4.den - 1) ∧ Bx w2 gx46 47 #[.bool (decide (u3.num < 0)), (.slice ao5 nn5 cc5), (.slice ao6 nn6 cc6), .bool (decide (u4.num < 0)), (.slice ao7 nn7 cc7), (.slice ao8 nn8 cc8)] ∧ Rn w2 (.slice ao13 nn13 cc13) (u7.num.natAbs) ∧ Rn w2 (.slice ao14 nn14 cc14) (u7.den - 1) ∧ Bx w2 gx53 45 #[.bool (decide (u7.num < 0)), (.slice ao13 nn13 cc13), (.slice ao14 nn14 cc14)] ∧ Rn w2 (.slice ao23 nn23 cc23) (u12.num.natAbs) ∧ Rn w2 (.slice ao24 nn24 cc24) (u12.den - 1) ∧ Bx w2 gx64 45 #[.bool (decide (u12.num < 0)), (.slice ao23 nn23 cc23), (.slice ao24 nn24 cc24)] ∧ Below w.heap.size w w2) ⟨ro3 (BX21.out) (Rn.ne BX21.out BX64.out (by decide)), ro3 (BX22.out) (Rn.ne BX22.out BX64.out (by decide)), ro3 (BX23.out) (Rn.ne BX23.out BX64.out (by decide)), ro3 (BX24.out) (Rn.ne BX24.out BX64.out (by decide)), so3 (BX33.out) (by show w.heap.size ≠ gx64; omega), so3 (BX36.out) (by show w.heap.size + 1 + 1 + 1 ≠ gx64; omega), ro3 (BX37.out) (Rn.ne BX37.out BX64.out (by decide)), ro3 (BX38.out) (Rn.ne BX38.out BX64.out (by decide)), ro3 (BX39.out) (Rn.ne BX39.out BX64.out (by decide)), ro3 (BX40.out) (Rn.ne BX40.out BX64.out (by decide)), so3 (BX41.out) (by show gx41 ≠ gx64; omega), ro3 (BX42.out) (Rn.ne BX42.out BX64.out (by decide)), ro3 (BX43.out) (Rn.ne BX43.out BX64.out (by decide)), ro3 (BX44.out) (Rn.ne BX44.out BX64.out (by decide)), ro3 (BX45.out) (Rn.ne BX45.out BX64.out (by decide)), so3 (BX46.out) (by show gx46 ≠ gx64; omega), ro3 (BX51.out) (Rn.ne BX51.out BX64.out (by decide)), ro3 (BX52.out) (Rn.ne BX52.out BX64.out (by decide)), so3 (BX53.out) (by show gx53 ≠ gx64; omega), ro3 (BX62.out) (Rn.ne BX62.out BX64.out (by decide)), ro3 (BX63.out) (Rn.ne BX63.out BX64.out (by decide)), ((((BX64.out).set 0 _).set 1 _).set 2 _).eq (by simp only [rA, rB, rC]), sc3 (HB.out.trans (HG.out.mono HB.out.size)) (by show w.heap.size ≤ gx64; omega)⟩ ?_
  clear HB HG BX21 BX22 BX23 BX24 BX33 BX36 BX37 BX38 BX39 BX40 BX41 BX42 BX43 BX44 BX45 BX46 BX51 BX52 BX53 BX54 BX55 BX56 BX57 BX58 BX59 BX60 BX61 BX62 BX63 BX64
  rintro Wx4 ⟨bx21, bx22, bx23, bx24, bx33, bx36, bx37, bx38, bx39, bx40, bx41, bx42, bx43, bx44, bx45, bx46, bx51, bx52, bx53, bx62, bx63, bx64, HB⟩
  replace HB := Lib.hid HB
  -- region 5
  obtain ⟨u13, HZ13⟩ : ∃ z, Hid ((u3) * (u3) + (u4) * (u4) = z) := ⟨_, Lib.hid rfl⟩
  have su13 : rz u13 ≤ 80005 := by rw [← HZ13.out]; have := rz_dot (u3) (u4) (u3) (u4); omega
  obtain ⟨u14, HZ14⟩ : ∃ z, Hid ((u13) * (u1) = z) := ⟨_, Lib.hid rfl⟩
  have su14 : rz u14 ≤ 100006 := by rw [← HZ14.out]; have := rz_mul (u13) (u1); omega
  obtain ⟨u15, HZ15⟩ : ∃ z, Hid ((u1) * (u1) + (u2) * (u2) = z) := ⟨_, Lib.hid rfl⟩
  have su15 : rz u15 ≤ 80005 := by rw [← HZ15.out]; have := rz_dot (u1) (u2) (u1) (u2); omega
  obtain ⟨u16, HZ16⟩ : ∃ z, Hid ((u15) * (u3) = z) := ⟨_, Lib.hid rfl⟩
  have su16 : rz u16 ≤ 100006 := by rw [← HZ16.out]; have := rz_mul (u15) (u3); omega
  obtain ⟨u17, HZ17⟩ : ∃ z, Hid ((u14) - (u16) = z) := ⟨_, Lib.hid rfl⟩
  have su17 : rz u17 ≤ 200013 := by rw [← HZ17.out]; have := rz_sub (u14) (u16); omega
  have lx41 := bx41.cells
  have lx46 := bx46.cells
  have BX21 := Lib.hid bx21
  have BX22 := Lib.hid bx22
  have BX23 := Lib.hid bx23
  have BX24 := Lib.hid bx24
  have BX33 := Lib.hid bx33
  have BX36 := Lib.hid bx36
  have BX37 := Lib.hid bx37
  have BX38 := Lib.hid bx38
  have BX39 := Lib.hid bx39
  have BX40 := Lib.hid bx40
  have BX41 := Lib.hid bx41
  have BX42 := Lib.hid bx42
  have BX43 := Lib.hid bx43
  have BX44 := Lib.hid bx44
  have BX45 := Lib.hid bx45
  have BX46 := Lib.hid bx46
  have BX51 := Lib.hid bx51
  have BX52 := Lib.hid bx52
  have BX53 := Lib.hid bx53
  have BX62 := Lib.hid bx62
  have BX63 := Lib.hid bx63
  have BX64 := Lib.hid bx64
  clear bx21 bx22 bx23 bx24 bx33 bx36 bx37 bx38 bx39 bx40 bx41 bx42 bx43 bx44 bx45 bx46 bx51 bx52 bx53 bx62 bx63 bx64
  refine wp_seq_k fun K hK => ?_
  replace hK := Lib.hid hK
  have HS0 := Lib.hid (HB.out.size)
  have MX33 : w.heap.size < Wx4.heap.size := BX33.out.lt
  have MX36 : w.heap.size + 1 + 1 + 1 < Wx4.heap.size := BX36.out.lt
  have MX41 : gx41 < Wx4.heap.size := BX41.out.lt
  have MX46 : gx46 < Wx4.heap.size := BX46.out.lt
  have MX53 : gx53 < Wx4.heap.size := BX53.out.lt
  have MX64 : gx64 < Wx4.heap.size := BX64.out.lt
  refine wp_region_plan 14 [13] [] (fun _ => 11) (fun _ => .cells #[.bool false, .slice none 0 0, .slice none 0 0] 45) [(true, 0), (true, 1), (true, 3), (true, 4), (true, 6), (true, 7), (true, 9), (true, 10), (false, 2), (false, 5), (false, 8), (false, 11), (false, 12)] (by kernel_rfl) (by kernel_rfl) (by intro i hi; simp only [List.mem_cons, List.not_mem_nil, or_false] at hi; rcases hi with rfl <;> exact ⟨_, rfl, rfl, rfl, by simp, fun ρ w => by kernel_rfl⟩) (fun i hi => by cases hi) (fun _ _ _ _ _ h => h) (fun T hT => ?_)
  iterate 8
    refine wpPlan_takeL (v := ?_) rfl (by rfl) (fun w' hw => ?_) ?_
    rotate_left
    · go_simp
      with_reducible rfl
    simp only [Act.put, rA, rB, rC]
  refine wpPlan_callE rfl (by rfl) Tryz.call24 (by rfl) (fun w' hw => (rpdot (u3) (u4) (u3) (u4) (u13) _ _ _ _ _ _ _ _ _ HZ13.out (by omega) (by omega) (by omega) (by omega) (BX42.out.gr hw) (BX43.out.gr hw) (BX44.out.gr hw) (BX45.out.gr hw) (BX42.out.gr hw) (BX43.out.gr hw) (BX44.out.gr hw) (BX45.out.gr hw)).mono ?_)
  rintro e vv1 ⟨⟨rv25, rv26, rfl, bx65, bx66⟩, hg0⟩
  obtain ⟨ao25, nn25, cc25, rfl⟩ := Rn.sl bx65
  obtain ⟨ao26, nn26, cc26, rfl⟩ := Rn.sl bx66
  refine ⟨_, rfl, hg0, ?_⟩
  replace hg0 := Gr.trans hw hg0; clear hw
  have HG0 := Lib.hid hg0; clear hg0
  replace BX21 := rG BX21 HG0
  replace BX22 := rG BX22 HG0
  replace BX23 := rG BX23 HG0
  replace BX24 := rG BX24 HG0
  replace BX33 := bG BX33 HG0
  replace BX36 := bG BX36 HG0
  replace BX37 := rG BX37 HG0
  replace BX38 := rG BX38 HG0
  replace BX39 := rG BX39 HG0
  replace BX40 := rG BX40 HG0
  replace BX41 := bG BX41 HG0
  replace BX42 := rG BX42 HG0
  replace BX43 := rG BX43 HG0
  replace BX44 := rG BX44 HG0
  replace BX45 := rG BX45 HG0
  replace BX46 := bG BX46 HG0
  replace BX51 := rG BX51 HG0
  replace BX52 := rG BX52 HG0
  replace BX53 := bG BX53 HG0
  replace BX62 := rG BX62 HG0
  replace BX63 := rG BX63 HG0
  replace BX64 := bG BX64 HG0
  replace HB := Lib.hid (HB.out.trans (HG0.out.mono HB.out.size))
  have BX65 := Lib.hid bx65; clear bx65
  have BX66 := Lib.hid bx66; clear bx66
  clear HG0
  clear lx41; have lx41 := BX41.out.cells
  clear lx46; have lx46 := BX46.out.cells
  simp only [Act.put, rA, rB, rC]
  refine wpPlan_callE rfl (by rfl) Tryz.call40 (by rfl) (fun w' hw => (qmul_any (u13) (u1) (u14) _ _ _ _ _ HZ14.out (by omega) (by omega) (BX65.out.gr hw) (BX66.out.gr hw) (BX37.out.gr hw) (BX38.out.gr hw)).mono ?_)
  rintro e vv2 ⟨⟨rv27, rv28, rfl, bx67, bx68⟩, hg0⟩
  obtain ⟨ao27, nn27, cc27, rfl⟩ := Rn.sl bx67
  obtain ⟨ao28, nn28, cc28, rfl⟩ := Rn.sl bx68
  refine ⟨_, rfl, hg0, ?_⟩
  replace hg0 := Gr.trans hw hg0; clear hw
  have HG0 := Lib.hid hg0; clear hg0
  replace BX21 := rG BX21 HG0
  replace BX22 := rG BX22 HG0
  replace BX23 := rG BX23 HG0
  replace BX24 := rG BX24 HG0
  replace BX33 := bG BX33 HG0
  replace BX36 := bG BX36 HG0
  replace BX37 := rG BX37 HG0
  replace BX38 := rG BX38 HG0
  replace BX39 := rG BX39 HG0
  replace BX40 := rG BX40 HG0
  replace BX41 := bG BX41 HG0
  replace BX42 := rG BX42 HG0
  replace BX43 := rG BX43 HG0
  replace BX44 := rG BX44 HG0
  replace BX45 := rG BX45 HG0
  replace BX46 := bG BX46 HG0
  replace BX51 := rG BX51 HG0
  replace BX52 := rG BX52 HG0
  replace BX53 := bG BX53 HG0
  replace BX62 := rG BX62 HG0
  replace BX63 := rG BX63 HG0
  replace BX64 := bG BX64 HG0
  replace BX65 := rG BX65 HG0
  replace BX66 := rG BX66 HG0
  replace HB := Lib.hid (HB.out.trans (HG0.out.mono HB.out.size))
  have BX67 := Lib.hid bx67; clear bx67
  have BX68 := Lib.hid bx68; clear bx68
  clear HG0
  clear lx41; have lx41 := BX41.out.cells
  clear lx46; have lx46 := BX46.out.cells
  simp only [Act.put, rA, rB, rC]
  refine wpPlan_callE rfl (by rfl) Tryz.call24 (by rfl) (fun w' hw => (rpdot (u1) (u2) (u1) (u2) (u15) _ _ _ _ _ _ _ _ _ HZ15.out (by omega) (by omega) (by omega) (by omega) (BX37.out.gr hw) (BX38.out.gr hw) (BX39.out.gr hw) (BX40.out.gr hw) (BX37.out.gr hw) (BX38.out.gr hw) (BX39.out.gr hw) (BX40.out.gr hw)).mono ?_)
  rintro e vv3 ⟨⟨rv29, rv30, rfl, bx69, bx70⟩, hg0⟩
  obtain ⟨ao29, nn29, cc29, rfl⟩ := Rn.sl bx69
  obtain ⟨ao30, nn30, cc30, rfl⟩ := Rn.sl bx70
  refine ⟨_, rfl, hg0, ?_⟩
  replace hg0 := Gr.trans hw hg0; clear hw
  have HG0 := Lib.hid hg0; clear hg0
  replace BX21 := rG BX21 HG0
  replace BX22 := rG BX22 HG0
  replace BX23 := rG BX23 HG0
  replace BX24 := rG BX24 HG0
  replace BX33 := bG BX33 HG0
  replace BX36 := bG BX36 HG0
  replace BX37 := rG BX37 HG0
  replace BX38 := rG BX38 HG0
  replace BX39 := rG BX39 HG0
  replace BX40 := rG BX40 HG0
  replace BX41 := bG BX41 HG0
  replace BX42 := rG BX42 HG0
  replace BX43 := rG BX43 HG0
  replace BX44 := rG BX44 HG0
  replace BX45 := rG BX45 HG0
  replace BX46 := bG BX46 HG0
  replace BX51 := rG BX51 HG0
  replace BX52 := rG BX52 HG0
  replace BX53 := bG BX53 HG0
  replace BX62 := rG BX62 HG0
  replace BX63 := rG BX63 HG0
  replace BX64 := bG BX64 HG0
  replace BX65 := rG BX65 HG0
  replace BX66 := rG BX66 HG0
  replace BX67 := rG BX67 HG0
  replace BX68 := rG BX68 HG0
  replace HB := Lib.hid (HB.out.trans (HG0.out.mono HB.out.size))
  have BX69 := Lib.hid bx69; clear bx69
  have BX70 := Lib.hid bx70; clear bx70
  clear HG0
  clear lx41; have lx41 := BX41.out.cells
  clear lx46; have lx46 := BX46.out.cells
  simp only [Act.put, rA, rB, rC]
  refine wpPlan_callE rfl (by rfl) Tryz.call40 (by rfl) (fun w' hw => (qmul_any (u15) (u3) (u16) _ _ _ _ _ HZ16.out (by omega) (by omega) (BX69.out.gr hw) (BX70.out.gr hw) (BX42.out.gr hw) (BX43.out.gr hw)).mono ?_)
  rintro e vv4 ⟨⟨rv31, rv32, rfl, bx71, bx72⟩, hg0⟩
  obtain ⟨ao31, nn31, cc31, rfl⟩ := Rn.sl bx71
  obtain ⟨ao32, nn32, cc32, rfl⟩ := Rn.sl bx72
  refine ⟨_, rfl, hg0, ?_⟩
  replace hg0 := Gr.trans hw hg0; clear hw
  have HG0 := Lib.hid hg0; clear hg0
  replace BX21 := rG BX21 HG0
  replace BX22 := rG BX22 HG0
  replace BX23 := rG BX23 HG0
  replace BX24 := rG BX24 HG0
  replace BX33 := bG BX33 HG0
  replace BX36 := bG BX36 HG0
  replace BX37 := rG BX37 HG0
  replace BX38 := rG BX38 HG0
  replace BX39 := rG BX39 HG0
  replace BX40 := rG BX40 HG0
  replace BX41 := bG BX41 HG0
  replace BX42 := rG BX42 HG0
  replace BX43 := rG BX43 HG0
  replace BX44 := rG BX44 HG0
  replace BX45 := rG BX45 HG0
  replace BX46 := bG BX46 HG0
  replace BX51 := rG BX51 HG0
  replace BX52 := rG BX52 HG0
  replace BX53 := bG BX53 HG0
  replace BX62 := rG BX62 HG0
  replace BX63 := rG BX63 HG0
  replace BX64 := bG BX64 HG0
  replace BX65 := rG BX65 HG0
  replace BX66 := rG BX66 HG0
  replace BX67 := rG BX67 HG0
  replace BX68 := rG BX68 HG0
  replace BX69 := rG BX69 HG0
  replace BX70 := rG BX70 HG0
  replace HB := Lib.hid (HB.out.trans (HG0.out.mono HB.out.size))
  have BX71 := Lib.hid bx71; clear bx71
  have BX72 := Lib.hid bx72; clear bx72
  clear HG0
  clear lx41; have lx41 := BX41.out.cells
  clear lx46; have lx46 := BX46.out.cells
  simp only [Act.put, rA, rB, rC]
  refine wpPlan_callE rfl (by rfl) Tryz.call39 (by rfl) (fun w' hw => (qsub_any (u14) (u16) (u17) _ _ _ _ _ HZ17.out (by omega) (by omega) (BX67.out.gr hw) (BX68.out.gr hw) (BX71.out.gr hw) (BX72.out.gr hw)).mono ?_)
  rintro e vv5 ⟨⟨rv33, rv34, rfl, bx73, bx74⟩, hg0⟩
  obtain ⟨ao33, nn33, cc33, rfl⟩ := Rn.sl bx73
  obtain ⟨ao34, nn34, cc34, rfl⟩ := Rn.sl bx74
  refine ⟨_, rfl, hg0, ?_⟩
  replace hg0 := Gr.trans hw hg0; clear hw
  have HG0 := Lib.hid hg0; clear hg0
  replace BX21 := rG BX21 HG0
  replace BX22 := rG BX22 HG0
  replace BX23 := rG BX23 HG0
  replace BX24 := rG BX24 HG0
  replace BX33 := bG BX33 HG0
  replace BX36 := bG BX36 HG0
  replace BX37 := rG BX37 HG0
  replace BX38 := rG BX38 HG0
  replace BX39 := rG BX39 HG0
  replace BX40 := rG BX40 HG0
  replace BX41 := bG BX41 HG0
  replace BX42 := rG BX42 HG0
  replace BX43 := rG BX43 HG0
  replace BX44 := rG BX44 HG0
  replace BX45 := rG BX45 HG0
  replace BX46 := bG BX46 HG0
  replace BX51 := rG BX51 HG0
  replace BX52 := rG BX52 HG0
  replace BX53 := bG BX53 HG0
  replace BX62 := rG BX62 HG0
  replace BX63 := rG BX63 HG0
  replace BX64 := bG BX64 HG0
  replace BX65 := rG BX65 HG0
  replace BX66 := rG BX66 HG0
  replace BX67 := rG BX67 HG0
  replace BX68 := rG BX68 HG0
  replace BX69 := rG BX69 HG0
  replace BX70 := rG BX70 HG0
  replace BX71 := rG BX71 HG0
  replace BX72 := rG BX72 HG0
  replace HB := Lib.hid (HB.out.trans (HG0.out.mono HB.out.size))
  have BX73 := Lib.hid bx73; clear bx73
  have BX74 := Lib.hid bx74; clear bx74
  clear HG0
  clear lx41; have lx41 := BX41.out.cells
  clear lx46; have lx46 := BX46.out.cells
  simp only [Act.put, rA, rB, rC]
  refine wpPlan_nil (hT.out _ _ ?_); clear hT T
  intro G vw5 hg hf
  simp only [puts, Act.put, rA, rB, rC, rD, rE, ↓reduceIte, Nat.reduceEqDiff]
  clear lx41 lx46
  have HG := Lib.hid (hg)
  clear hg
  have bx75 := Bx.of_fresh hf (i := 13) (by decide) rfl
  have yx75 := (hf.1 13 (by decide)).1
  clear hf
  generalize G 13 = gx75 at *
  have qx33_75 : w.heap.size < gx75 := Nat.lt_of_lt_of_le MX33 yx75
  have qx36_75 : w.heap.size + 1 + 1 + 1 < gx75 := Nat.lt_of_lt_of_le MX36 yx75
  have qx41_75 : gx41 < gx75 := Nat.lt_of_lt_of_le MX41 yx75
  have qx46_75 : gx46 < gx75 := Nat.lt_of_lt_of_le MX46 yx75
  have qx53_75 : gx53 < gx75 := Nat.lt_of_lt_of_le MX53 yx75
  have qx64_75 : gx64 < gx75 := Nat.lt_of_lt_of_le MX64 yx75
  replace yx75 : w.heap.size ≤ gx75 := Nat.le_trans HS0.out yx75
  replace BX21 := rG BX21 HG
  replace BX22 := rG BX22 HG
  replace BX23 := rG BX23 HG
  replace BX24 := rG BX24 HG
  replace BX33 := bG BX33 HG
  replace BX36 := bG BX36 HG
  replace BX37 := rG BX37 HG
  replace BX38 := rG BX38 HG
  replace BX39 := rG BX39 HG
  replace BX40 := rG BX40 HG
  replace BX41 := bG BX41 HG
  replace BX42 := rG BX42 HG
  replace BX43 := rG BX43 HG
  replace BX44 := rG BX44 HG
  replace BX45 := rG BX45 HG
  replace BX46 := bG BX46 HG
  replace BX51 := rG BX51 HG
  replace BX52 := rG BX52 HG
  replace BX53 := bG BX53 HG
  replace BX62 := rG BX62 HG
  replace BX63 := rG BX63 HG
  replace BX64 := bG BX64 HG
  replace BX65 := rG BX65 HG
  replace BX66 := rG BX66 HG
  replace BX67 := rG BX67 HG
  replace BX68 := rG BX68 HG
  replace BX69 := rG BX69 HG
  replace BX70 := rG BX70 HG
  replace BX71 := rG BX71 HG
  replace BX72 := rG BX72 HG
  replace BX73 := rG BX73 HG
  replace BX74 := rG BX74 HG
  have lx75 := bx75.cells; have fx75 := bx75.free
  have r0 := Gr.refl vw5
  have BX75 := Lib.hid bx75; clear bx75
  go_wp2
  refine hK.out _ _ ?_; clear hK K
  show Code.wp _ _ _ _ _
  clear lx75 fx75
  clear r0
  refine forgetW (fun w2 => Rn w2 (.slice ao_va11 n_va11 c_va11) (a1.num.natAbs) ∧ Rn w2 (.slice ao_va12 n_va12 c_va12) (a1.den - 1) ∧ Rn w2 (.slice ao_va21 n_va21 c_va21) (a2.num.natAbs) ∧ Rn w2 (.slice ao_va22 n_va22 c_va22) (a2.den - 1) ∧ Bx w2 (w.heap.size) 47 #[.bool (decide (a1.num < 0)), (.slice ao_va11 n_va11 c_va11), (.slice ao_va12 n_va12 c_va12), .bool (decide (a2.num < 0)), (.slice ao_va21 n_va21 c_va21), (.slice ao_va22 n_va22 c_va22)] ∧ Bx w2 (w.heap.size + 1 + 1 + 1) 47 #[.bool false, .slice none 0 0, .slice none 0 0, .bool false, .slice none 0 0, .slice none 0 0] ∧ Rn w2 (.slice ao13 nn13 cc13) (u7.num.natAbs) ∧ Rn w2 (.slice ao14 nn14 cc14) (u7.den - 1) ∧ Bx w2 gx53 45 #[.bool (decide (u7.num < 0)), (.slice ao13 nn13 cc13), (.slice ao14 nn14 cc14)] ∧ Rn w2 (.slice ao23 nn23 cc23) (u12.num.natAbs) ∧ Rn w2 (.slice ao24 nn24 cc24) (u12.den - 1) ∧ Bx w2 gx64 45 #[.bool (decide (u12.num < 0)), (.slice ao23 nn23 cc23), (.slice ao24 nn24 cc24)] ∧ Rn w2 (.slice ao33 nn33 cc33) (u17.num.natAbs) ∧ Rn w2 (.slice ao34 nn34 cc34) (u17.den - 1) ∧ Bx w2 gx75 45 #[.bool (decide (u17.num < 0)), (.slice ao33 nn33 cc33), (.slice ao34 nn34 cc34)] ∧ Below w.heap.size w w2) ⟨ro3 (BX21.out) (Rn.ne BX21.out BX75.out (by decide)), ro3 (BX22.out) (Rn.ne BX22.out BX75.out (by decide)), ro3 (BX23.out) (Rn.ne BX23.out BX75.out (by decide)), ro3 (BX24.out) (Rn.ne BX24.out BX75.out (by decide)), so3 (BX33.out) (by show w.heap.size ≠ gx75; omega), so3 (BX36.out) (by show w.heap.size + 1 + 1 + 1 ≠ gx75; omega), ro3 (BX51.out) (Rn.ne BX51.out BX75.out (by decide)), ro3 (BX52.out) (Rn.ne BX52.out BX75.out (by decide)), so3 (BX53.out) (by show gx53 ≠ gx75; omega), ro3 (BX62.out) (Rn.ne BX62.out BX75.out (by decide)), ro3 (BX63.out) (Rn.ne BX63.out BX75.out (by decide)), so3 (BX64.out) (by show gx64 ≠ gx75; omega), ro3 (BX73.out) (Rn.ne BX73.out BX75.out (by decide)), ro3 (BX74.out) (Rn.ne BX74.out BX75.out (by decide)), ((((BX75.out).set 0 _).set 1 _).set 2 _).eq (by simp only [rA, rB, rC]), sc3 (HB.out.trans (HG.out.mono HB.out.size)) (by show w.heap.size ≤ gx75; omega)⟩ ?_
  clear HB HG BX21 BX22 BX23 BX24 BX33 BX36 BX37 BX38 BX39 BX40 BX41 BX42 BX43 BX44 BX45 BX46 BX51 BX52 BX53 BX62 BX63 BX64 BX65 BX66 BX67 BX68 BX69 BX70 BX71 BX72 BX73 BX74 BX75
  rintro Wx5 ⟨bx21, bx22, bx23, bx24, bx33, bx36, bx51, bx52, bx53, bx62, bx63, bx64, bx73, bx74, bx75, HB⟩
  replace HB := Lib.hid HB
  -- region 6
  obtain ⟨u18, HZ18⟩ : ∃ z, Hid ((u12) / (u7) = z) := ⟨_, Lib.hid rfl⟩
  have su18 : rz u18 ≤ 280023 := by rw [← HZ18.out]; have := rz_div (u12) (u7); omega
  obtain ⟨u19, HZ19⟩ : ∃ z, Hid ((u17) / (u7) = z) := ⟨_, Lib.hid rfl⟩
  have su19 : rz u19 ≤ 280023 := by rw [← HZ19.out]; have := rz_div (u17) (u7); omega
  have HZ20 : Hid ((a1) + (u18) = z1) := Lib.hid (by simp only [← HZ19.out, ← HZ18.out, ← HZ17.out, ← HZ16.out, ← HZ15.out, ← HZ14.out, ← HZ13.out, ← HZ12.out, ← HZ11.out, ← HZ10.out, ← HZ9.out, ← HZ8.out, ← HZ7.out, ← HZ6.out, ← HZ5.out, ← HZ4.out, ← HZ3.out, ← HZ2.out, ← HZ1.out]; exact hz1.out)
  have HZ21 : Hid ((a2) + (u19) = z2) := Lib.hid (by simp only [← HZ19.out, ← HZ18.out, ← HZ17.out, ← HZ16.out, ← HZ15.out, ← HZ14.out, ← HZ13.out, ← HZ12.out, ← HZ11.out, ← HZ10.out, ← HZ9.out, ← HZ8.out, ← HZ7.out, ← HZ6.out, ← HZ5.out, ← HZ4.out, ← HZ3.out, ← HZ2.out, ← HZ1.out]; exact hz2.out)
  have lx33 := bx33.cells
  have lx53 := bx53.cells
  have lx64 := bx64.cells
  have lx75 := bx75.cells
  have BX21 := Lib.hid bx21
  have BX22 := Lib.hid bx22
  have BX23 := Lib.hid bx23
  have BX24 := Lib.hid bx24
  have BX33 := Lib.hid bx33
  have BX36 := Lib.hid bx36
  have BX51 := Lib.hid bx51
  have BX52 := Lib.hid bx52
  have BX53 := Lib.hid bx53
  have BX62 := Lib.hid bx62
  have BX63 := Lib.hid bx63
  have BX64 := Lib.hid bx64
  have BX73 := Lib.hid bx73
  have BX74 := Lib.hid bx74
  have BX75 := Lib.hid bx75
  clear bx21 bx22 bx23 bx24 bx33 bx36 bx51 bx52 bx53 bx62 bx63 bx64 bx73 bx74 bx75
  refine wp_seq_k fun K hK => ?_
  replace hK := Lib.hid hK
  have HS0 := Lib.hid (HB.out.size)
  have MX33 : w.heap.size < Wx5.heap.size := BX33.out.lt
  have MX36 : w.heap.size + 1 + 1 + 1 < Wx5.heap.size := BX36.out.lt
  have MX53 : gx53 < Wx5.heap.size := BX53.out.lt
  have MX64 : gx64 < Wx5.heap.size := BX64.out.lt
  have MX75 : gx75 < Wx5.heap.size := BX75.out.lt
  refine wp_region_plan 9 [] [] (fun _ => 0) (fun _ => .cells #[] 0) [(true, 0), (true, 1), (true, 2), (true, 4), (true, 5), (false, 3), (false, 6), (true, 7), (false, 8)] (by kernel_rfl) (by kernel_rfl) (fun i hi => by cases hi) (fun i hi => by cases hi) (fun _ _ _ _ _ h => h) (fun T hT => ?_)
  iterate 5
    refine wpPlan_takeL (v := ?_) rfl (by rfl) (fun w' hw => ?_) ?_
    rotate_left
    · go_simp
      with_reducible rfl
    simp only [Act.put, rA, rB, rC]
  refine wpPlan_callE rfl (by rfl) Tryz.call54 (by rfl) (fun w' hw => (qdiv_any (u12) (u7) (u18) _ _ _ _ _ HZ18.out (by omega) (by omega) (BX62.out.gr hw) (BX63.out.gr hw) (BX51.out.gr hw) (BX52.out.gr hw)).mono ?_)
  rintro e vv1 ⟨⟨rv35, rv36, rfl, bx76, bx77⟩, hg0⟩
  obtain ⟨ao35, nn35, cc35, rfl⟩ := Rn.sl bx76
  obtain ⟨ao36, nn36, cc36, rfl⟩ := Rn.sl bx77
  refine ⟨_, rfl, hg0, ?_⟩
  replace hg0 := Gr.trans hw hg0; clear hw
  have HG0 := Lib.hid hg0; clear hg0
  replace BX21 := rG BX21 HG0
  replace BX22 := rG BX22 HG0
  replace BX23 := rG BX23 HG0
  replace BX24 := rG BX24 HG0
  replace BX33 := bG BX33 HG0
  replace BX36 := bG BX36 HG0
  replace BX51 := rG BX51 HG0
  replace BX52 := rG BX52 HG0
  replace BX53 := bG BX53 HG0
  replace BX62 := rG BX62 HG0
  replace BX63 := rG BX63 HG0
  replace BX64 := bG BX64 HG0
  replace BX73 := rG BX73 HG0
  replace BX74 := rG BX74 HG0
  replace BX75 := bG BX75 HG0
  replace HB := Lib.hid (HB.out.trans (HG0.out.mono HB.out.size))
  have BX76 := Lib.hid bx76; clear bx76
  have BX77 := Lib.hid bx77; clear bx77
  clear HG0
  clear lx33; have lx33 := BX33.out.cells
  clear lx53; have lx53 := BX53.out.cells
  clear lx64; have lx64 := BX64.out.cells
  clear lx75; have lx75 := BX75.out.cells
  simp only [Act.put, rA, rB, rC]
  refine wpPlan_callE rfl (by rfl) Tryz.call54 (by rfl) (fun w' hw => (qdiv_any (u17) (u7) (u19) _ _ _ _ _ HZ19.out (by omega) (by omega) (BX73.out.gr hw) (BX74.out.gr hw) (BX51.out.gr hw) (BX52.out.gr hw)).mono ?_)
  rintro e vv2 ⟨⟨rv37, rv38, rfl, bx78, bx79⟩, hg0⟩
  obtain ⟨ao37, nn37, cc37, rfl⟩ := Rn.sl bx78
  obtain ⟨ao38, nn38, cc38, rfl⟩ := Rn.sl bx79
  refine ⟨_, rfl, hg0, ?_⟩
  replace hg0 := Gr.trans hw hg0; clear hw
  have HG0 := Lib.hid hg0; clear hg0
  replace BX21 := rG BX21 HG0
  replace BX22 := rG BX22 HG0
  replace BX23 := rG BX23 HG0
  replace BX24 := rG BX24 HG0
  replace BX33 := bG BX33 HG0
  replace BX36 := bG BX36 HG0
  replace BX51 := rG BX51 HG0
  replace BX52 := rG BX52 HG0
  replace BX53 := bG BX53 HG0
  replace BX62 := rG BX62 HG0
  replace BX63 := rG BX63 HG0
  replace BX64 := bG BX64 HG0
  replace BX73 := rG BX73 HG0
  replace BX74 := rG BX74 HG0
  replace BX75 := bG BX75 HG0
  replace BX76 := rG BX76 HG0
  replace BX77 := rG BX77 HG0
  replace HB := Lib.hid (HB.out.trans (HG0.out.mono HB.out.size))
  have BX78 := Lib.hid bx78; clear bx78
  have BX79 := Lib.hid bx79; clear bx79
  clear HG0
  clear lx33; have lx33 := BX33.out.cells
  clear lx53; have lx53 := BX53.out.cells
  clear lx64; have lx64 := BX64.out.cells
  clear lx75; have lx75 := BX75.out.cells
  simp only [Act.put, rA, rB, rC]
  iterate 1
    refine wpPlan_takeL (v := ?_) rfl (by rfl) (fun w' hw => ?_) ?_
    rotate_left
    · go_simp
      with_reducible rfl
    simp only [Act.put, rA, rB, rC]
  refine wpPlan_callE rfl (by rfl) Tryz.call53 (by rfl) (fun w' hw => (rpadd (a1) (a2) (u18) (u19) (z1) (z2) _ _ _ _ _ _ _ _ _ HZ20.out HZ21.out (by omega) (by omega) (by omega) (by omega) (BX21.out.gr hw) (BX22.out.gr hw) (BX23.out.gr hw) (BX24.out.gr hw) (BX76.out.gr hw) (BX77.out.gr hw) (BX78.out.gr hw) (BX79.out.gr hw)).mono ?_)
  rintro e vv3 ⟨⟨rv39, rv40, rv41, rv42, rfl, bx80, bx81, bx82, bx83⟩, hg0⟩
  obtain ⟨ao39, nn39, cc39, rfl⟩ := Rn.sl bx80
  obtain ⟨ao40, nn40, cc40, rfl⟩ := Rn.sl bx81
  obtain ⟨ao41, nn41, cc41, rfl⟩ := Rn.sl bx82
  obtain ⟨ao42, nn42, cc42, rfl⟩ := Rn.sl bx83
  refine ⟨_, rfl, hg0, ?_⟩
  replace hg0 := Gr.trans hw hg0; clear hw
  have HG0 := Lib.hid hg0; clear hg0
  replace BX21 := rG BX21 HG0
  replace BX22 := rG BX22 HG0
  replace BX23 := rG BX23 HG0
  replace BX24 := rG BX24 HG0
  replace BX33 := bG BX33 HG0
  replace BX36 := bG BX36 HG0
  replace BX51 := rG BX51 HG0
  replace BX52 := rG BX52 HG0
  replace BX53 := bG BX53 HG0
  replace BX62 := rG BX62 HG0
  replace BX63 := rG BX63 HG0
  replace BX64 := bG BX64 HG0
  replace BX73 := rG BX73 HG0
  replace BX74 := rG BX74 HG0
  replace BX75 := bG BX75 HG0
  replace BX76 := rG BX76 HG0
  replace BX77 := rG BX77 HG0
  replace BX78 := rG BX78 HG0
  replace BX79 := rG BX79 HG0
  replace HB := Lib.hid (HB.out.trans (HG0.out.mono HB.out.size))
  have BX80 := Lib.hid bx80; clear bx80
  have BX81 := Lib.hid bx81; clear bx81
  have BX82 := Lib.hid bx82; clear bx82
  have BX83 := Lib.hid bx83; clear bx83
  clear HG0
  clear lx33; have lx33 := BX33.out.cells
  clear lx53; have lx53 := BX53.out.cells
  clear lx64; have lx64 := BX64.out.cells
  clear lx75; have lx75 := BX75.out.cells
  simp only [Act.put, rA, rB, rC]
  refine wpPlan_nil (hT.out _ _ ?_); clear hT T
  intro G vw6 hg hf
  simp only [puts, Act.put, rA, rB, rC, rD, rE, ↓reduceIte, Nat.reduceEqDiff]
  clear lx33 lx53 lx64 lx75
  have HG := Lib.hid (hg)
  clear hg
  replace BX21 := rG BX21 HG
  replace BX22 := rG BX22 HG
  replace BX23 := rG BX23 HG
  replace BX24 := rG BX24 HG
  replace BX33 := bG BX33 HG
  replace BX36 := bG BX36 HG
  replace BX51 := rG BX51 HG
  replace BX52 := rG BX52 HG
  replace BX53 := bG BX53 HG
  replace BX62 := rG BX62 HG
  replace BX63 := rG BX63 HG
  replace BX64 := bG BX64 HG
  replace BX73 := rG BX73 HG
  replace BX74 := rG BX74 HG
  replace BX75 := bG BX75 HG
  replace BX76 := rG BX76 HG
  replace BX77 := rG BX77 HG
  replace BX78 := rG BX78 HG
  replace BX79 := rG BX79 HG
  replace BX80 := rG BX80 HG
  replace BX81 := rG BX81 HG
  replace BX82 := rG BX82 HG
  replace BX83 := rG BX83 HG
  have lx36 := BX36.out.cells; have fx36 := BX36.out.free
  have r0 := Gr.refl vw6
  go_wp2
  refine hK.out _ _ ?_; clear hK K
  show Code.wp _ _ _ _ _
  clear lx36 fx36
  clear r0
  refine forgetW (fun w2 => Bx w2 (w.heap.size + 1 + 1 + 1) 47 #[.bool (decide (z1.num < 0)), (.slice ao39 nn39 cc39), (.slice ao40 nn40 cc40), .bool (decide (z2.num < 0)), (.slice ao41 nn41 cc41), (.slice ao42 nn42 cc42)] ∧ Rn w2 (.slice ao39 nn39 cc39) (z1.num.natAbs) ∧ Rn w2 (.slice ao40 nn40 cc40) (z1.den - 1) ∧ Rn w2 (.slice ao41 nn41 cc41) (z2.num.natAbs) ∧ Rn w2 (.slice ao42 nn42 cc42) (z2.den - 1) ∧ Below w.heap.size w w2) ⟨(((((((BX36.out).set 0 _).set 1 _).set 2 _).set 3 _).set 4 _).set 5 _).eq (by simp only [rA, rB, rC]), ro6 (BX80.out) (Rn.ne BX80.out BX36.out (by decide)), ro6 (BX81.out) (Rn.ne BX81.out BX36.out (by decide)), ro6 (BX82.out) (Rn.ne BX82.out BX36.out (by decide)), ro6 (BX83.out) (Rn.ne BX83.out BX36.out (by decide)), sc6 (HB.out.trans (HG.out.mono HB.out.size)) (by show w.heap.size ≤ w.heap.size + 1 + 1 + 1; omega)⟩ ?_
  clear HB HG BX21 BX22 BX23 BX24 BX33 BX36 BX51 BX52 BX53 BX62 BX63 BX64 BX73 BX74 BX75 BX76 BX77 BX78 BX79 BX80 BX81 BX82 BX83
  rintro Wx6 ⟨bx36, bx80, bx81, bx82, bx83, HB⟩
  replace HB := Lib.hid HB
  refine wp_ret ?_
  try simp only [Exit.then, Exit.inBlock]
  have lx36 := bx36.cells
  have r0 := Gr.refl Wx6
  exact bodyPost_ret (v := .agg #[.bool (decide (z1.num < 0)), (.slice ao39 nn39 cc39), (.slice ao40 nn40 cc40), .bool (decide (z2.num < 0)), (.slice ao41 nn41 cc41), (.slice ao42 nn42 cc42)]) (by simp [results, Tryz.results28, go_sem, lx36 _ r0]) rfl ⟨⟨(.slice ao39 nn39 cc39), (.slice ao40 nn40 cc40), (.slice ao41 nn41 cc41), (.slice ao42 nn42 cc42), rfl, bx80, bx81, bx82, bx83⟩, HB.out⟩

end Go.Proofs.YtenpbnmmadbkdaaGreat


/- gussetref23.Circle. -/
namespace Go.Proofs.YtenpbnmmadbkdaaGreat
open Go.RowKit
set_option linter.unusedSimpArgs false
set_option linter.unusedVariables false
attribute [local go_sem ↓] Go.wp_at_zero Go.wp_at_succ
set_option maxRecDepth 20000 in
set_option maxHeartbeats 2000000 in
theorem rpcircle_no (a1 a2 b1 b2 c1 c2 d1 d2 : Rat) (t : Int) (va11 va12 va21 va22 vb11 vb12 vb21 vb22 vc11 vc12 vc21 vc22 vd11 vd12 vd21 vd22 : Value) (w : World) (ht : Hid (turn a1 a2 b1 b2 c1 c2 = t)) (h0 : (t == 0) = true) (hs_a1 : rz a1 ≤ 1000) (hs_a2 : rz a2 ≤ 1000) (hs_b1 : rz b1 ≤ 1000) (hs_b2 : rz b2 ≤ 1000) (hs_c1 : rz c1 ≤ 1000) (hs_c2 : rz c2 ≤ 1000) (hs_d1 : rz d1 ≤ 1000) (hs_d2 : rz d2 ≤ 1000) (bx21 : Rn w va11 (a1.num.natAbs)) (bx22 : Rn w va12 (a1.den - 1)) (bx23 : Rn w va21 (a2.num.natAbs)) (bx24 : Rn w va22 (a2.den - 1)) (bx25 : Rn w vb11 (b1.num.natAbs)) (bx26 : Rn w vb12 (b1.den - 1)) (bx27 : Rn w vb21 (b2.num.natAbs)) (bx28 : Rn w vb22 (b2.den - 1)) (bx29 : Rn w vc11 (c1.num.natAbs)) (bx30 : Rn w vc12 (c1.den - 1)) (bx31 : Rn w vc21 (c2.num.natAbs)) (bx32 : Rn w vc22 (c2.den - 1)) (bx33 : Rn w vd11 (d1.num.natAbs)) (bx34 : Rn w vd12 (d1.den - 1)) (bx35 : Rn w vd21 (d2.num.natAbs)) (bx36 : Rn w vd22 (d2.den - 1)) :
    Calls Tryz.prog 11 #[(Value.agg #[.bool (decide (a1.num < 0)), va11, va12, .bool (decide (a2.num < 0)), va21, va22]), (Value.agg #[.bool (decide (b1.num < 0)), vb11, vb12, .bool (decide (b2.num < 0)), vb21, vb22]), (Value.agg #[.bool (decide (c1.num < 0)), vc11, vc12, .bool (decide (c2.num < 0)), vc21, vc22]), (Value.agg #[.bool (decide (d1.num < 0)), vd11, vd12, .bool (decide (d2.num < 0)), vd21, vd22])] w fun e w' => e = .returned (.int .i64 0) ∧ Below w.heap.size w w' := by
  obtain ⟨ao_va11, n_va11, c_va11, rfl⟩ := Rn.sl bx21
  obtain ⟨ao_va12, n_va12, c_va12, rfl⟩ := Rn.sl bx22
  obtain ⟨ao_va21, n_va21, c_va21, rfl⟩ := Rn.sl bx23
  obtain ⟨ao_va22, n_va22, c_va22, rfl⟩ := Rn.sl bx24
  obtain ⟨ao_vb11, n_vb11, c_vb11, rfl⟩ := Rn.sl bx25
  obtain ⟨ao_vb12, n_vb12, c_vb12, rfl⟩ := Rn.sl bx26
  obtain ⟨ao_vb21, n_vb21, c_vb21, rfl⟩ := Rn.sl bx27
  obtain ⟨ao_vb22, n_vb22, c_vb22, rfl⟩ := Rn.sl bx28
  obtain ⟨ao_vc11, n_vc11, c_vc11, rfl⟩ := Rn.sl bx29
  obtain ⟨ao_vc12, n_vc12, c_vc12, rfl⟩ := Rn.sl bx30
  obtain ⟨ao_vc21, n_vc21, c_vc21, rfl⟩ := Rn.sl bx31
  obtain ⟨ao_vc22, n_vc22, c_vc22, rfl⟩ := Rn.sl bx32
  obtain ⟨ao_vd11, n_vd11, c_vd11, rfl⟩ := Rn.sl bx33
  obtain ⟨ao_vd12, n_vd12, c_vd12, rfl⟩ := Rn.sl bx34
  obtain ⟨ao_vd21, n_vd21, c_vd21, rfl⟩ := Rn.sl bx35
  obtain ⟨ao_vd22, n_vd22, c_vd22, rfl⟩ := Rn.sl bx36
  go_enter Tryz.func11, Tryz.ntmps11
  -- region 0
  refine wp_seq_k fun K hK => ?_
  replace hK := Lib.hid hK
  refine wp_region_lit ?_
  go_wp2
  refine hK.out _ _ ?_; clear hK K
  show Code.wp _ _ _ _ _
  refine forgetW (fun w2 => Rn w2 (.slice ao_va11 n_va11 c_va11) (a1.num.natAbs) ∧ Rn w2 (.slice ao_va12 n_va12 c_va12) (a1.den - 1) ∧ Rn w2 (.slice ao_va21 n_va21 c_va21) (a2.num.natAbs) ∧ Rn w2 (.slice ao_va22 n_va22 c_va22) (a2.den - 1) ∧ Rn w2 (.slice ao_vb11 n_vb11 c_vb11) (b1.num.natAbs) ∧ Rn w2 (.slice ao_vb12 n_vb12 c_vb12) (b1.den - 1) ∧ Rn w2 (.slice ao_vb21 n_vb21 c_vb21) (b2.num.natAbs) ∧ Rn w2 (.slice ao_vb22 n_vb22 c_vb22) (b2.den - 1) ∧ Rn w2 (.slice ao_vc11 n_vc11 c_vc11) (c1.num.natAbs) ∧ Rn w2 (.slice ao_vc12 n_vc12 c_vc12) (c1.den - 1) ∧ Rn w2 (.slice ao_vc21 n_vc21 c_vc21) (c2.num.natAbs) ∧ Rn w2 (.slice ao_vc22 n_vc22 c_vc22) (c2.den - 1) ∧ Rn w2 (.slice ao_vd11 n_vd11 c_vd11) (d1.num.natAbs) ∧ Rn w2 (.slice ao_vd12 n_vd12 c_vd12) (d1.den - 1) ∧ Rn w2 (.slice ao_vd21 n_vd21 c_vd21) (d2.num.natAbs) ∧ Rn w2 (.slice ao_vd22 n_vd22 c_vd22) (d2.den - 1) ∧ Bx w2 (w.heap.size) 47 #[.bool (decide (a1.num < 0)), (.slice ao_va11 n_va11 c_va11), (.slice ao_va12 n_va12 c_va12), .bool (decide (a2.num < 0)), (.slice ao_va21 n_va21 c_va21), (.slice ao_va22 n_va22 c_va22)] ∧ Bx w2 (w.heap.size + 1) 47 #[.bool (decide (b1.num < 0)), (.slice ao_vb11 n_vb11 c_vb11), (.slice ao_vb12 n_vb12 c_vb12), .bool (decide (b2.num < 0)), (.slice ao_vb21 n_vb21 c_vb21), (.slice ao_vb22 n_vb22 c_vb22)] ∧ Bx w2 (w.heap.size + 1 + 1) 47 #[.bool (decide (c1.num < 0)), (.slice ao_vc11 n_vc11 c_vc11), (.slice ao_vc12 n_vc12 c_vc12), .bool (decide (c2.num < 0)), (.slice ao_vc21 n_vc21 c_vc21), (.slice ao_vc22 n_vc22 c_vc22)] ∧ Bx w2 (w.heap.size + 1 + 1 + 1) 47 #[.bool (decide (d1.num < 0)), (.slice ao_vd11 n_vd11 c_vd11), (.slice ao_vd12 n_vd12 c_vd12), .bool (decide (d2.num < 0)), (.slice ao_vd21 n_vd21 c_vd21), (.slice ao_vd22 n_vd22 c_vd22)] ∧ Below w.heap.size w w2) ⟨((((bx21).alloc _).alloc _).alloc _).alloc _, ((((bx22).alloc _).alloc _).alloc _).alloc _, ((((bx23).alloc _).alloc _).alloc _).alloc _, ((((bx24).alloc _).alloc _).alloc _).alloc _, ((((bx25).alloc _).alloc _).alloc _).alloc _, ((((bx26).alloc _).alloc _).alloc _).alloc _, ((((bx27).alloc _).alloc _).alloc _).alloc _, ((((bx28).alloc _).alloc _).alloc _).alloc _, ((((bx29).alloc _).alloc _).alloc _).alloc _, ((((bx30).alloc _).alloc _).alloc _).alloc _, ((((bx31).alloc _).alloc _).alloc _).alloc _, ((((bx32).alloc _).alloc _).alloc _).alloc _, ((((bx33).alloc _).alloc _).alloc _).alloc _, ((((bx34).alloc _).alloc _).alloc _).alloc _, ((((bx35).alloc _).alloc _).alloc _).alloc _, ((((bx36).alloc _).alloc _).alloc _).alloc _, (((Bx.at rfl).alloc _).alloc _).alloc _, ((Bx.at (by simp)).alloc _).alloc _, (Bx.at (by simp)).alloc _, Bx.at (by simp), ((((Below.refl _ _).alloc (Nat.le_refl _) _).alloc (by simp) _).alloc (by simp; omega) _).alloc (by simp; omega) _⟩ ?_
  clear bx21 bx22 bx23 bx24 bx25 bx26 bx27 bx28 bx29 bx30 bx31 bx32 bx33 bx34 bx35 bx36
  rintro Wx ⟨bx21, bx22, bx23, bx24, bx25, bx26, bx27, bx28, bx29, bx30, bx31, bx32, bx33, bx34, bx35, bx36, bx37, bx38, bx39, bx40, HB⟩
  replace HB := Lib.hid HB
  refine wp_seq ?_
  -- region 1
  have lx37 := bx37.cells
  have lx38 := bx38.cells
  have lx39 := bx39.cells
  have BX21 := Lib.hid bx21
  have BX22 := Lib.hid bx22
  have BX23 := Lib.hid bx23
  have BX24 := Lib.hid bx24
  have BX25 := Lib.hid bx25
  have BX26 := Lib.hid bx26
  have BX27 := Lib.hid bx27
  have BX28 := Lib.hid bx28
  have BX29 := Lib.hid bx29
  have BX30 := Lib.hid bx30
  have BX31 := Lib.hid bx31
  have BX32 := Lib.hid bx32
  have BX33 := Lib.hid bx33
  have BX34 := Lib.hid bx34
  have BX35 := Lib.hid bx35
  have BX36 := Lib.hid bx36
  have BX37 := Lib.hid bx37
  have BX38 := Lib.hid bx38
  have BX39 := Lib.hid bx39
  have BX40 := Lib.hid bx40
  clear bx21 bx22 bx23 bx24 bx25 bx26 bx27 bx28 bx29 bx30 bx31 bx32 bx33 bx34 bx35 bx36 bx37 bx38 bx39 bx40
  refine wp_seq_k fun K hK => ?_
  replace hK := Lib.hid hK
  refine wp_region_seqplan 5 [(true, 0), (true, 1), (true, 2), (true, 3), (true, 4)] (by rfl) (by simp) (fun T hT => ?_)
  iterate 3
    refine wpPlan_takeL (v := ?_) rfl (by rfl) (fun w' hw => ?_) ?_
    rotate_left
    · go_simp
      with_reducible rfl
    simp only [Act.put, rA, rB, rC]
  refine wpPlan_callL rfl (by rfl) Tryz.call7 (fun w' hw => rpturn (a1) (a2) (b1) (b2) (c1) (c2) (t) _ _ _ _ _ _ _ _ _ _ _ _ _ (ht.out) (by omega) (by omega) (by omega) (by omega) (by omega) (by omega) (BX21.out.gr hw) (BX22.out.gr hw) (BX23.out.gr hw) (BX24.out.gr hw) (BX25.out.gr hw) (BX26.out.gr hw) (BX27.out.gr hw) (BX28.out.gr hw) (BX29.out.gr hw) (BX30.out.gr hw) (BX31.out.gr hw) (BX32.out.gr hw)) (by rfl) ?_
  simp only [Act.put, rA, rB, rC]
  iterate 1
    refine wpPlan_takeL (v := ?_) rfl (by rfl) (fun w' hw => ?_) ?_
    rotate_left
    · go_simp
      with_reducible rfl
    simp only [Act.put, rA, rB, rC]
  refine wpPlan_nil (hT.out _ _ ?_); clear hT T
  intro vw1 hg
  simp only [puts, Act.put, rA, rB, rC, rD, rE, ↓reduceIte, Nat.reduceEqDiff]
  clear lx37 lx38 lx39
  have HG := Lib.hid (hg)
  clear hg
  replace BX21 := rG BX21 HG
  replace BX22 := rG BX22 HG
  replace BX23 := rG BX23 HG
  replace BX24 := rG BX24 HG
  replace BX25 := rG BX25 HG
  replace BX26 := rG BX26 HG
  replace BX27 := rG BX27 HG
  replace BX28 := rG BX28 HG
  replace BX29 := rG BX29 HG
  replace BX30 := rG BX30 HG
  replace BX31 := rG BX31 HG
  replace BX32 := rG BX32 HG
  replace BX33 := rG BX33 HG
  replace BX34 := rG BX34 HG
  replace BX35 := rG BX35 HG
  replace BX36 := rG BX36 HG
  replace BX37 := bG BX37 HG
  replace BX38 := bG BX38 HG
  replace BX39 := bG BX39 HG
  replace BX40 := bG BX40 HG
  have r0 := Gr.refl vw1
  go_wp2
  refine hK.out _ _ ?_; clear hK K
  show Code.wp _ _ _ _ _
  clear r0
  refine forgetW (fun w2 => Rn w2 (.slice ao_va11 n_va11 c_va11) (a1.num.natAbs) ∧ Rn w2 (.slice ao_va12 n_va12 c_va12) (a1.den - 1) ∧ Rn w2 (.slice ao_va21 n_va21 c_va21) (a2.num.natAbs) ∧ Rn w2 (.slice ao_va22 n_va22 c_va22) (a2.den - 1) ∧ Rn w2 (.slice ao_vb11 n_vb11 c_vb11) (b1.num.natAbs) ∧ Rn w2 (.slice ao_vb12 n_vb12 c_vb12) (b1.den - 1) ∧ Rn w2 (.slice ao_vb21 n_vb21 c_vb21) (b2.num.natAbs) ∧ Rn w2 (.slice ao_vb22 n_vb22 c_vb22) (b2.den - 1) ∧ Rn w2 (.slice ao_vc11 n_vc11 c_vc11) (c1.num.natAbs) ∧ Rn w2 (.slice ao_vc12 n_vc12 c_vc12) (c1.den - 1) ∧ Rn w2 (.slice ao_vc21 n_vc21 c_vc21) (c2.num.natAbs) ∧ Rn w2 (.slice ao_vc22 n_vc22 c_vc22) (c2.den - 1) ∧ Rn w2 (.slice ao_vd11 n_vd11 c_vd11) (d1.num.natAbs) ∧ Rn w2 (.slice ao_vd12 n_vd12 c_vd12) (d1.den - 1) ∧ Rn w2 (.slice ao_vd21 n_vd21 c_vd21) (d2.num.natAbs) ∧ Rn w2 (.slice ao_vd22 n_vd22 c_vd22) (d2.den - 1) ∧ Bx w2 (w.heap.size) 47 #[.bool (decide (a1.num < 0)), (.slice ao_va11 n_va11 c_va11), (.slice ao_va12 n_va12 c_va12), .bool (decide (a2.num < 0)), (.slice ao_va21 n_va21 c_va21), (.slice ao_va22 n_va22 c_va22)] ∧ Bx w2 (w.heap.size + 1) 47 #[.bool (decide (b1.num < 0)), (.slice ao_vb11 n_vb11 c_vb11), (.slice ao_vb12 n_vb12 c_vb12), .bool (decide (b2.num < 0)), (.slice ao_vb21 n_vb21 c_vb21), (.slice ao_vb22 n_vb22 c_vb22)] ∧ Bx w2 (w.heap.size + 1 + 1) 47 #[.bool (decide (c1.num < 0)), (.slice ao_vc11 n_vc11 c_vc11), (.slice ao_vc12 n_vc12 c_vc12), .bool (decide (c2.num < 0)), (.slice ao_vc21 n_vc21 c_vc21), (.slice ao_vc22 n_vc22 c_vc22)] ∧ Bx w2 (w.heap.size + 1 + 1 + 1) 47 #[.bool (decide (d1.num < 0)), (.slice ao_vd11 n_vd11 c_vd11), (.slice ao_vd12 n_vd12 c_vd12), .bool (decide (d2.num < 0)), (.slice ao_vd21 n_vd21 c_vd21), (.slice ao_vd22 n_vd22 c_vd22)] ∧ Below w.heap.size w w2) ⟨BX21.out, BX22.out, BX23.out, BX24.out, BX25.out, BX26.out, BX27.out, BX28.out, BX29.out, BX30.out, BX31.out, BX32.out, BX33.out, BX34.out, BX35.out, BX36.out, BX37.out, BX38.out, BX39.out, BX40.out, HB.out.trans (HG.out.mono HB.out.size)⟩ ?_
  clear HB HG BX21 BX22 BX23 BX24 BX25 BX26 BX27 BX28 BX29 BX30 BX31 BX32 BX33 BX34 BX35 BX36 BX37 BX38 BX39 BX40
  rintro Wx1 ⟨bx21, bx22, bx23, bx24, bx25, bx26, bx27, bx28, bx29, bx30, bx31, bx32, bx33, bx34, bx35, bx36, bx37, bx38, bx39, bx40, HB⟩
  replace HB := Lib.hid HB
  refine wp_cond_true (by rfl) ?_
  -- region 2
  have BX21 := Lib.hid bx21
  have BX22 := Lib.hid bx22
  have BX23 := Lib.hid bx23
  have BX24 := Lib.hid bx24
  have BX25 := Lib.hid bx25
  have BX26 := Lib.hid bx26
  have BX27 := Lib.hid bx27
  have BX28 := Lib.hid bx28
  have BX29 := Lib.hid bx29
  have BX30 := Lib.hid bx30
  have BX31 := Lib.hid bx31
  have BX32 := Lib.hid bx32
  have BX33 := Lib.hid bx33
  have BX34 := Lib.hid bx34
  have BX35 := Lib.hid bx35
  have BX36 := Lib.hid bx36
  have BX37 := Lib.hid bx37
  have BX38 := Lib.hid bx38
  have BX39 := Lib.hid bx39
  have BX40 := Lib.hid bx40
  clear bx21 bx22 bx23 bx24 bx25 bx26 bx27 bx28 bx29 bx30 bx31 bx32 bx33 bx34 bx35 bx36 bx37 bx38 bx39 bx40
  refine wp_seq_k fun K hK => ?_
  replace hK := Lib.hid hK
  refine wp_region_seqplan 1 [(true, 0)] (by rfl) (by simp) (fun T hT => ?_)
  iterate 1
    refine wpPlan_takeL (v := ?_) rfl (by rfl) (fun w' hw => ?_) ?_
    rotate_left
    · go_simp
      with_reducible rfl
    simp only [Act.put, rA, rB, rC]
  refine wpPlan_nil (hT.out _ _ ?_); clear hT T
  intro vw2 hg
  simp only [puts, Act.put, rA, rB, rC, rD, rE, ↓reduceIte, Nat.reduceEqDiff]
  have HG := Lib.hid (hg)
  clear hg
  replace BX21 := rG BX21 HG
  replace BX22 := rG BX22 HG
  replace BX23 := rG BX23 HG
  replace BX24 := rG BX24 HG
  replace BX25 := rG BX25 HG
  replace BX26 := rG BX26 HG
  replace BX27 := rG BX27 HG
  replace BX28 := rG BX28 HG
  replace BX29 := rG BX29 HG
  replace BX30 := rG BX30 HG
  replace BX31 := rG BX31 HG
  replace BX32 := rG BX32 HG
  replace BX33 := rG BX33 HG
  replace BX34 := rG BX34 HG
  replace BX35 := rG BX35 HG
  replace BX36 := rG BX36 HG
  replace BX37 := bG BX37 HG
  replace BX38 := bG BX38 HG
  replace BX39 := bG BX39 HG
  replace BX40 := bG BX40 HG
  have r0 := Gr.refl vw2
  go_wp2
  refine hK.out _ _ ?_; clear hK K
  show Code.wp _ _ _ _ _
  clear r0
  refine forgetW (fun w2 => Rn w2 (.slice ao_va11 n_va11 c_va11) (a1.num.natAbs) ∧ Rn w2 (.slice ao_va12 n_va12 c_va12) (a1.den - 1) ∧ Rn w2 (.slice ao_va21 n_va21 c_va21) (a2.num.natAbs) ∧ Rn w2 (.slice ao_va22 n_va22 c_va22) (a2.den - 1) ∧ Rn w2 (.slice ao_vb11 n_vb11 c_vb11) (b1.num.natAbs) ∧ Rn w2 (.slice ao_vb12 n_vb12 c_vb12) (b1.den - 1) ∧ Rn w2 (.slice ao_vb21 n_vb21 c_vb21) (b2.num.natAbs) ∧ Rn w2 (.slice ao_vb22 n_vb22 c_vb22) (b2.den - 1) ∧ Rn w2 (.slice ao_vc11 n_vc11 c_vc11) (c1.num.natAbs) ∧ Rn w2 (.slice ao_vc12 n_vc12 c_vc12) (c1.den - 1) ∧ Rn w2 (.slice ao_vc21 n_vc21 c_vc21) (c2.num.natAbs) ∧ Rn w2 (.slice ao_vc22 n_vc22 c_vc22) (c2.den - 1) ∧ Rn w2 (.slice ao_vd11 n_vd11 c_vd11) (d1.num.natAbs) ∧ Rn w2 (.slice ao_vd12 n_vd12 c_vd12) (d1.den - 1) ∧ Rn w2 (.slice ao_vd21 n_vd21 c_vd21) (d2.num.natAbs) ∧ Rn w2 (.slice ao_vd22 n_vd22 c_vd22) (d2.den - 1) ∧ Bx w2 (w.heap.size) 47 #[.bool (decide (a1.num < 0)), (.slice ao_va11 n_va11 c_va11), (.slice ao_va12 n_va12 c_va12), .bool (decide (a2.num < 0)), (.slice ao_va21 n_va21 c_va21), (.slice ao_va22 n_va22 c_va22)] ∧ Bx w2 (w.heap.size + 1) 47 #[.bool (decide (b1.num < 0)), (.slice ao_vb11 n_vb11 c_vb11), (.slice ao_vb12 n_vb12 c_vb12), .bool (decide (b2.num < 0)), (.slice ao_vb21 n_vb21 c_vb21), (.slice ao_vb22 n_vb22 c_vb22)] ∧ Bx w2 (w.heap.size + 1 + 1) 47 #[.bool (decide (c1.num < 0)), (.slice ao_vc11 n_vc11 c_vc11), (.slice ao_vc12 n_vc12 c_vc12), .bool (decide (c2.num < 0)), (.slice ao_vc21 n_vc21 c_vc21), (.slice ao_vc22 n_vc22 c_vc22)] ∧ Bx w2 (w.heap.size + 1 + 1 + 1) 47 #[.bool (decide (d1.num < 0)), (.slice ao_vd11 n_vd11 c_vd11), (.slice ao_vd12 n_vd12 c_vd12), .bool (decide (d2.num < 0)), (.slice ao_vd21 n_vd21 c_vd21), (.slice ao_vd22 n_vd22 c_vd22)] ∧ Below w.heap.size w w2) ⟨BX21.out, BX22.out, BX23.out, BX24.out, BX25.out, BX26.out, BX27.out, BX28.out, BX29.out, BX30.out, BX31.out, BX32.out, BX33.out, BX34.out, BX35.out, BX36.out, BX37.out, BX38.out, BX39.out, BX40.out, HB.out.trans (HG.out.mono HB.out.size)⟩ ?_
  clear HB HG BX21 BX22 BX23 BX24 BX25 BX26 BX27 BX28 BX29 BX30 BX31 BX32 BX33 BX34 BX35 BX36 BX37 BX38 BX39 BX40
  rintro Wx2 ⟨bx21, bx22, bx23, bx24, bx25, bx26, bx27, bx28, bx29, bx30, bx31, bx32, bx33, bx34, bx35, bx36, bx37, bx38, bx39, bx40, HB⟩
  replace HB := Lib.hid HB
  refine wp_ret ?_
  try simp only [Exit.then, Exit.inBlock]
  have r0 := Gr.refl Wx2
  exact bodyPost_ret (v := .int .i64 0) (by simp [results, Tryz.results11, go_sem]) rfl ⟨rfl, HB.out⟩

set_option maxRecDepth 20000 in
set_option maxHeartbeats 8000000 in
theorem rpcircle_yes (a1 a2 b1 b2 c1 c2 d1 d2 m1 m2 : Rat) (t r : Int) (va11 va12 va21 va22 vb11 vb12 vb21 vb22 vc11 vc12 vc21 vc22 vd11 vd12 vd21 vd22 : Value) (w : World) (ht : Hid (turn a1 a2 b1 b2 c1 c2 = t)) (h0 : (t == 0) = false) (hm1 : Hid (a1 + (((b1 - a1) * (b1 - a1) + (b2 - a2) * (b2 - a2)) * (c2 - a2) - ((c1 - a1) * (c1 - a1) + (c2 - a2) * (c2 - a2)) * (b2 - a2)) / (((2 : Int) : Rat) * ((b1 - a1) * (c2 - a2) - (b2 - a2) * (c1 - a1))) = m1)) (hm2 : Hid (a2 + (((c1 - a1) * (c1 - a1) + (c2 - a2) * (c2 - a2)) * (b1 - a1) - ((b1 - a1) * (b1 - a1) + (b2 - a2) * (b2 - a2)) * (c1 - a1)) / (((2 : Int) : Rat) * ((b1 - a1) * (c2 - a2) - (b2 - a2) * (c1 - a1))) = m2)) (hs_m1 : rz m1 ≤ 100000) (hs_m2 : rz m2 ≤ 100000) (hr : Hid (sgQ (((m1 - a1) * (m1 - a1) + (m2 - a2) * (m2 - a2)) - ((m1 - d1) * (m1 - d1) + (m2 - d2) * (m2 - d2))) = r)) (hs_a1 : rz a1 ≤ 1000) (hs_a2 : rz a2 ≤ 1000) (hs_b1 : rz b1 ≤ 1000) (hs_b2 : rz b2 ≤ 1000) (hs_c1 : rz c1 ≤ 1000) (hs_c2 : rz c2 ≤ 1000) (hs_d1 : rz d1 ≤ 1000) (hs_d2 : rz d2 ≤ 1000) (bx21 : Rn w va11 (a1.num.natAbs)) (bx22 : Rn w va12 (a1.den - 1)) (bx23 : Rn w va21 (a2.num.natAbs)) (bx24 : Rn w va22 (a2.den - 1)) (bx25 : Rn w vb11 (b1.num.natAbs)) (bx26 : Rn w vb12 (b1.den - 1)) (bx27 : Rn w vb21 (b2.num.natAbs)) (bx28 : Rn w vb22 (b2.den - 1)) (bx29 : Rn w vc11 (c1.num.natAbs)) (bx30 : Rn w vc12 (c1.den - 1)) (bx31 : Rn w vc21 (c2.num.natAbs)) (bx32 : Rn w vc22 (c2.den - 1)) (bx33 : Rn w vd11 (d1.num.natAbs)) (bx34 : Rn w vd12 (d1.den - 1)) (bx35 : Rn w vd21 (d2.num.natAbs)) (bx36 : Rn w vd22 (d2.den - 1)) :
    Calls Tryz.prog 11 #[(Value.agg #[.bool (decide (a1.num < 0)), va11, va12, .bool (decide (a2.num < 0)), va21, va22]), (Value.agg #[.bool (decide (b1.num < 0)), vb11, vb12, .bool (decide (b2.num < 0)), vb21, vb22]), (Value.agg #[.bool (decide (c1.num < 0)), vc11, vc12, .bool (decide (c2.num < 0)), vc21, vc22]), (Value.agg #[.bool (decide (d1.num < 0)), vd11, vd12, .bool (decide (d2.num < 0)), vd21, vd22])] w fun e w' => e = .returned (.int .i64 (r)) ∧ Below w.heap.size w w' := by
  obtain ⟨ao_va11, n_va11, c_va11, rfl⟩ := Rn.sl bx21
  obtain ⟨ao_va12, n_va12, c_va12, rfl⟩ := Rn.sl bx22
  obtain ⟨ao_va21, n_va21, c_va21, rfl⟩ := Rn.sl bx23
  obtain ⟨ao_va22, n_va22, c_va22, rfl⟩ := Rn.sl bx24
  obtain ⟨ao_vb11, n_vb11, c_vb11, rfl⟩ := Rn.sl bx25
  obtain ⟨ao_vb12, n_vb12, c_vb12, rfl⟩ := Rn.sl bx26
  obtain ⟨ao_vb21, n_vb21, c_vb21, rfl⟩ := Rn.sl bx27
  obtain ⟨ao_vb22, n_vb22, c_vb22, rfl⟩ := Rn.sl bx28
  obtain ⟨ao_vc11, n_vc11, c_vc11, rfl⟩ := Rn.sl bx29
  obtain ⟨ao_vc12, n_vc12, c_vc12, rfl⟩ := Rn.sl bx30
  obtain ⟨ao_vc21, n_vc21, c_vc21, rfl⟩ := Rn.sl bx31
  obtain ⟨ao_vc22, n_vc22, c_vc22, rfl⟩ := Rn.sl bx32
  obtain ⟨ao_vd11, n_vd11, c_vd11, rfl⟩ := Rn.sl bx33
  obtain ⟨ao_vd12, n_vd12, c_vd12, rfl⟩ := Rn.sl bx34
  obtain ⟨ao_vd21, n_vd21, c_vd21, rfl⟩ := Rn.sl bx35
  obtain ⟨ao_vd22, n_vd22, c_vd22, rfl⟩ := Rn.sl bx36
  go_enter Tryz.func11, Tryz.ntmps11
  -- region 0
  refine wp_seq_k fun K hK => ?_
  replace hK := Lib.hid hK
  refine wp_region_lit ?_
  go_wp2
  refine hK.out _ _ ?_; clear hK K
  show Code.wp _ _ _ _ _
  refine forgetW (fun w2 => Rn w2 (.slice ao_va11 n_va11 c_va11) (a1.num.natAbs) ∧ Rn w2 (.slice ao_va12 n_va12 c_va12) (a1.den - 1) ∧ Rn w2 (.slice ao_va21 n_va21 c_va21) (a2.num.natAbs) ∧ Rn w2 (.slice ao_va22 n_va22 c_va22) (a2.den - 1) ∧ Rn w2 (.slice ao_vb11 n_vb11 c_vb11) (b1.num.natAbs) ∧ Rn w2 (.slice ao_vb12 n_vb12 c_vb12) (b1.den - 1) ∧ Rn w2 (.slice ao_vb21 n_vb21 c_vb21) (b2.num.natAbs) ∧ Rn w2 (.slice ao_vb22 n_vb22 c_vb22) (b2.den - 1) ∧ Rn w2 (.slice ao_vc11 n_vc11 c_vc11) (c1.num.natAbs) ∧ Rn w2 (.slice ao_vc12 n_vc12 c_vc12) (c1.den - 1) ∧ Rn w2 (.slice ao_vc21 n_vc21 c_vc21) (c2.num.natAbs) ∧ Rn w2 (.slice ao_vc22 n_vc22 c_vc22) (c2.den - 1) ∧ Rn w2 (.slice ao_vd11 n_vd11 c_vd11) (d1.num.natAbs) ∧ Rn w2 (.slice ao_vd12 n_vd12 c_vd12) (d1.den - 1) ∧ Rn w2 (.slice ao_vd21 n_vd21 c_vd21) (d2.num.natAbs) ∧ Rn w2 (.slice ao_vd22 n_vd22 c_vd22) (d2.den - 1) ∧ Bx w2 (w.heap.size) 47 #[.bool (decide (a1.num < 0)), (.slice ao_va11 n_va11 c_va11), (.slice ao_va12 n_va12 c_va12), .bool (decide (a2.num < 0)), (.slice ao_va21 n_va21 c_va21), (.slice ao_va22 n_va22 c_va22)] ∧ Bx w2 (w.heap.size + 1) 47 #[.bool (decide (b1.num < 0)), (.slice ao_vb11 n_vb11 c_vb11), (.slice ao_vb12 n_vb12 c_vb12), .bool (decide (b2.num < 0)), (.slice ao_vb21 n_vb21 c_vb21), (.slice ao_vb22 n_vb22 c_vb22)] ∧ Bx w2 (w.heap.size + 1 + 1) 47 #[.bool (decide (c1.num < 0)), (.slice ao_vc11 n_vc11 c_vc11), (.slice ao_vc12 n_vc12 c_vc12), .bool (decide (c2.num < 0)), (.slice ao_vc21 n_vc21 c_vc21), (.slice ao_vc22 n_vc22 c_vc22)] ∧ Bx w2 (w.heap.size + 1 + 1 + 1) 47 #[.bool (decide (d1.num < 0)), (.slice ao_vd11 n_vd11 c_vd11), (.slice ao_vd12 n_vd12 c_vd12), .bool (decide (d2.num < 0)), (.slice ao_vd21 n_vd21 c_vd21), (.slice ao_vd22 n_vd22 c_vd22)] ∧ Below w.heap.size w w2) ⟨((((bx21).alloc _).alloc _).alloc _).alloc _, ((((bx22).alloc _).alloc _).alloc _).alloc _, ((((bx23).alloc _).alloc _).alloc _).alloc _, ((((bx24).alloc _).alloc _).alloc _).alloc _, ((((bx25).alloc _).alloc _).alloc _).alloc _, ((((bx26).alloc _).alloc _).alloc _).alloc _, ((((bx27).alloc _).alloc _).alloc _).alloc _, ((((bx28).alloc _).alloc _).alloc _).alloc _, ((((bx29).alloc _).alloc _).alloc _).alloc _, ((((bx30).alloc _).alloc _).alloc _).alloc _, ((((bx31).alloc _).alloc _).alloc _).alloc _, ((((bx32).alloc _).alloc _).alloc _).alloc _, ((((bx33).alloc _).alloc _).alloc _).alloc _, ((((bx34).alloc _).alloc _).alloc _).alloc _, ((((bx35).alloc _).alloc _).alloc _).alloc _, ((((bx36).alloc _).alloc _).alloc _).alloc _, (((Bx.at rfl).alloc _).alloc _).alloc _, ((Bx.at (by simp)).alloc _).alloc _, (Bx.at (by simp)).alloc _, Bx.at (by simp), ((((Below.refl _ _).alloc (Nat.le_refl _) _).alloc (by simp) _).alloc (by simp; omega) _).alloc (by simp; omega) _⟩ ?_
  clear bx21 bx22 bx23 bx24 bx25 bx26 bx27 bx28 bx29 bx30 bx31 bx32 bx33 bx34 bx35 bx36
  rintro Wx ⟨bx21, bx22, bx23, bx24, bx25, bx26, bx27, bx28, bx29, bx30, bx31, bx32, bx33, bx34, bx35, bx36, bx37, bx38, bx39, bx40, HB⟩
  replace HB := Lib.hid HB
  refine wp_seq ?_
  -- region 1
  have lx37 := bx37.cells
  have lx38 := bx38.cells
  have lx39 := bx39.cells
  have BX21 := Lib.hid bx21
  have BX22 := Lib.hid bx22
  have BX23 := Lib.hid bx23
  have BX24 := Lib.hid bx24
  have BX25 := Lib.hid bx25
  have BX26 := Lib.hid bx26
  have BX27 := Lib.hid bx27
  have BX28 := Lib.hid bx28
  have BX29 := Lib.hid bx29
  have BX30 := Lib.hid bx30
  have BX31 := Lib.hid bx31
  have BX32 := Lib.hid bx32
  have BX33 := Lib.hid bx33
  have BX34 := Lib.hid bx34
  have BX35 := Lib.hid bx35
  have BX36 := Lib.hid bx36
  have BX37 := Lib.hid bx37
  have BX38 := Lib.hid bx38
  have BX39 := Lib.hid bx39
  have BX40 := Lib.hid bx40
  clear bx21 bx22 bx23 bx24 bx25 bx26 bx27 bx28 bx29 bx30 bx31 bx32 bx33 bx34 bx35 bx36 bx37 bx38 bx39 bx40
  refine wp_seq_k fun K hK => ?_
  replace hK := Lib.hid hK
  refine wp_region_seqplan 5 [(true, 0), (true, 1), (true, 2), (true, 3), (true, 4)] (by rfl) (by simp) (fun T hT => ?_)
  iterate 3
    refine wpPlan_takeL (v := ?_) rfl (by rfl) (fun w' hw => ?_) ?_
    rotate_left
    · go_simp
      with_reducible rfl
    simp only [Act.put, rA, rB, rC]
  refine wpPlan_callL rfl (by rfl) Tryz.call7 (fun w' hw => rpturn (a1) (a2) (b1) (b2) (c1) (c2) (t) _ _ _ _ _ _ _ _ _ _ _ _ _ (ht.out) (by omega) (by omega) (by omega) (by omega) (by omega) (by omega) (BX21.out.gr hw) (BX22.out.gr hw) (BX23.out.gr hw) (BX24.out.gr hw) (BX25.out.gr hw) (BX26.out.gr hw) (BX27.out.gr hw) (BX28.out.gr hw) (BX29.out.gr hw) (BX30.out.gr hw) (BX31.out.gr hw) (BX32.out.gr hw)) (by rfl) ?_
  simp only [Act.put, rA, rB, rC]
  iterate 1
    refine wpPlan_takeL (v := ?_) rfl (by rfl) (fun w' hw => ?_) ?_
    rotate_left
    · go_simp
      with_reducible rfl
    simp only [Act.put, rA, rB, rC]
  refine wpPlan_nil (hT.out _ _ ?_); clear hT T
  intro vw1 hg
  simp only [puts, Act.put, rA, rB, rC, rD, rE, ↓reduceIte, Nat.reduceEqDiff]
  clear lx37 lx38 lx39
  have HG := Lib.hid (hg)
  clear hg
  replace BX21 := rG BX21 HG
  replace BX22 := rG BX22 HG
  replace BX23 := rG BX23 HG
  replace BX24 := rG BX24 HG
  replace BX25 := rG BX25 HG
  replace BX26 := rG BX26 HG
  replace BX27 := rG BX27 HG
  replace BX28 := rG BX28 HG
  replace BX29 := rG BX29 HG
  replace BX30 := rG BX30 HG
  replace BX31 := rG BX31 HG
  replace BX32 := rG BX32 HG
  replace BX33 := rG BX33 HG
  replace BX34 := rG BX34 HG
  replace BX35 := rG BX35 HG
  replace BX36 := rG BX36 HG
  replace BX37 := bG BX37 HG
  replace BX38 := bG BX38 HG
  replace BX39 := bG BX39 HG
  replace BX40 := bG BX40 HG
  have r0 := Gr.refl vw1
  go_wp2
  refine hK.out _ _ ?_; clear hK K
  show Code.wp _ _ _ _ _
  clear r0
  refine forgetW (fun w2 => Rn w2 (.slice ao_va11 n_va11 c_va11) (a1.num.natAbs) ∧ Rn w2 (.slice ao_va12 n_va12 c_va12) (a1.den - 1) ∧ Rn w2 (.slice ao_va21 n_va21 c_va21) (a2.num.natAbs) ∧ Rn w2 (.slice ao_va22 n_va22 c_va22) (a2.den - 1) ∧ Rn w2 (.slice ao_vb11 n_vb11 c_vb11) (b1.num.natAbs) ∧ Rn w2 (.slice ao_vb12 n_vb12 c_vb12) (b1.den - 1) ∧ Rn w2 (.slice ao_vb21 n_vb21 c_vb21) (b2.num.natAbs) ∧ Rn w2 (.slice ao_vb22 n_vb22 c_vb22) (b2.den - 1) ∧ Rn w2 (.slice ao_vc11 n_vc11 c_vc11) (c1.num.natAbs) ∧ Rn w2 (.slice ao_vc12 n_vc12 c_vc12) (c1.den - 1) ∧ Rn w2 (.slice ao_vc21 n_vc21 c_vc21) (c2.num.natAbs) ∧ Rn w2 (.slice ao_vc22 n_vc22 c_vc22) (c2.den - 1) ∧ Rn w2 (.slice ao_vd11 n_vd11 c_vd11) (d1.num.natAbs) ∧ Rn w2 (.slice ao_vd12 n_vd12 c_vd12) (d1.den - 1) ∧ Rn w2 (.slice ao_vd21 n_vd21 c_vd21) (d2.num.natAbs) ∧ Rn w2 (.slice ao_vd22 n_vd22 c_vd22) (d2.den - 1) ∧ Bx w2 (w.heap.size) 47 #[.bool (decide (a1.num < 0)), (.slice ao_va11 n_va11 c_va11), (.slice ao_va12 n_va12 c_va12), .bool (decide (a2.num < 0)), (.slice ao_va21 n_va21 c_va21), (.slice ao_va22 n_va22 c_va22)] ∧ Bx w2 (w.heap.size + 1) 47 #[.bool (decide (b1.num < 0)), (.slice ao_vb11 n_vb11 c_vb11), (.slice ao_vb12 n_vb12 c_vb12), .bool (decide (b2.num < 0)), (.slice ao_vb21 n_vb21 c_vb21), (.slice ao_vb22 n_vb22 c_vb22)] ∧ Bx w2 (w.heap.size + 1 + 1) 47 #[.bool (decide (c1.num < 0)), (.slice ao_vc11 n_vc11 c_vc11), (.slice ao_vc12 n_vc12 c_vc12), .bool (decide (c2.num < 0)), (.slice ao_vc21 n_vc21 c_vc21), (.slice ao_vc22 n_vc22 c_vc22)] ∧ Bx w2 (w.heap.size + 1 + 1 + 1) 47 #[.bool (decide (d1.num < 0)), (.slice ao_vd11 n_vd11 c_vd11), (.slice ao_vd12 n_vd12 c_vd12), .bool (decide (d2.num < 0)), (.slice ao_vd21 n_vd21 c_vd21), (.slice ao_vd22 n_vd22 c_vd22)] ∧ Below w.heap.size w w2) ⟨BX21.out, BX22.out, BX23.out, BX24.out, BX25.out, BX26.out, BX27.out, BX28.out, BX29.out, BX30.out, BX31.out, BX32.out, BX33.out, BX34.out, BX35.out, BX36.out, BX37.out, BX38.out, BX39.out, BX40.out, HB.out.trans (HG.out.mono HB.out.size)⟩ ?_
  clear HB HG BX21 BX22 BX23 BX24 BX25 BX26 BX27 BX28 BX29 BX30 BX31 BX32 BX33 BX34 BX35 BX36 BX37 BX38 BX39 BX40
  rintro Wx1 ⟨bx21, bx22, bx23, bx24, bx25, bx26, bx27, bx28, bx29, bx30, bx31, bx32, bx33, bx34, bx35, bx36, bx37, bx38, bx39, bx40, HB⟩
  replace HB := Lib.hid HB
  refine wp_cond_false (by rfl) ?_
  refine wp_skip ?_
  show Code.wp _ _ _ _ _
  -- region 3
  have HZ1 : Hid (a1 + (((b1 - a1) * (b1 - a1) + (b2 - a2) * (b2 - a2)) * (c2 - a2) - ((c1 - a1) * (c1 - a1) + (c2 - a2) * (c2 - a2)) * (b2 - a2)) / (((2 : Int) : Rat) * ((b1 - a1) * (c2 - a2) - (b2 - a2) * (c1 - a1))) = m1) := Lib.hid (hm1.out)
  have HZ2 : Hid (a2 + (((c1 - a1) * (c1 - a1) + (c2 - a2) * (c2 - a2)) * (b1 - a1) - ((b1 - a1) * (b1 - a1) + (b2 - a2) * (b2 - a2)) * (c1 - a1)) / (((2 : Int) : Rat) * ((b1 - a1) * (c2 - a2) - (b2 - a2) * (c1 - a1))) = m2) := Lib.hid (hm2.out)
  have lx37 := bx37.cells
  have lx38 := bx38.cells
  have lx39 := bx39.cells
  have BX21 := Lib.hid bx21
  have BX22 := Lib.hid bx22
  have BX23 := Lib.hid bx23
  have BX24 := Lib.hid bx24
  have BX25 := Lib.hid bx25
  have BX26 := Lib.hid bx26
  have BX27 := Lib.hid bx27
  have BX28 := Lib.hid bx28
  have BX29 := Lib.hid bx29
  have BX30 := Lib.hid bx30
  have BX31 := Lib.hid bx31
  have BX32 := Lib.hid bx32
  have BX33 := Lib.hid bx33
  have BX34 := Lib.hid bx34
  have BX35 := Lib.hid bx35
  have BX36 := Lib.hid bx36
  have BX37 := Lib.hid bx37
  have BX38 := Lib.hid bx38
  have BX39 := Lib.hid bx39
  have BX40 := Lib.hid bx40
  clear bx21 bx22 bx23 bx24 bx25 bx26 bx27 bx28 bx29 bx30 bx31 bx32 bx33 bx34 bx35 bx36 bx37 bx38 bx39 bx40
  refine wp_seq_k fun K hK => ?_
  replace hK := Lib.hid hK
  have HS0 := Lib.hid (HB.out.size)
  have MX37 : w.heap.size < Wx1.heap.size := BX37.out.lt
  have MX38 : w.heap.size + 1 < Wx1.heap.size := BX38.out.lt
  have MX39 : w.heap.size + 1 + 1 < Wx1.heap.size := BX39.out.lt
  have MX40 : w.heap.size + 1 + 1 + 1 < Wx1.heap.size := BX40.out.lt
  refine wp_region_seqplan 4 [(true, 0), (true, 1), (true, 2), (false, 3)] (by rfl) (by simp) (fun T hT => ?_)
  iterate 3
    refine wpPlan_takeL (v := ?_) rfl (by rfl) (fun w' hw => ?_) ?_
    rotate_left
    · go_simp
      with_reducible rfl
    simp only [Act.put, rA, rB, rC]
  refine wpPlan_callE rfl (by rfl) Tryz.call28 (by rfl) (fun w' hw => (rpmiddle (a1) (a2) (b1) (b2) (c1) (c2) (m1) (m2) _ _ _ _ _ _ _ _ _ _ _ _ _ HZ1.out HZ2.out (by omega) (by omega) (by omega) (by omega) (by omega) (by omega) (BX21.out.gr hw) (BX22.out.gr hw) (BX23.out.gr hw) (BX24.out.gr hw) (BX25.out.gr hw) (BX26.out.gr hw) (BX27.out.gr hw) (BX28.out.gr hw) (BX29.out.gr hw) (BX30.out.gr hw) (BX31.out.gr hw) (BX32.out.gr hw)).mono ?_)
  rintro e vv1 ⟨⟨rv1, rv2, rv3, rv4, rfl, bx41, bx42, bx43, bx44⟩, hg0⟩
  obtain ⟨ao1, nn1, cc1, rfl⟩ := Rn.sl bx41
  obtain ⟨ao2, nn2, cc2, rfl⟩ := Rn.sl bx42
  obtain ⟨ao3, nn3, cc3, rfl⟩ := Rn.sl bx43
  obtain ⟨ao4, nn4, cc4, rfl⟩ := Rn.sl bx44
  refine ⟨_, rfl, hg0, ?_⟩
  replace hg0 := Gr.trans hw hg0; clear hw
  have HG0 := Lib.hid hg0; clear hg0
  replace BX21 := rG BX21 HG0
  replace BX22 := rG BX22 HG0
  replace BX23 := rG BX23 HG0
  replace BX24 := rG BX24 HG0
  replace BX25 := rG BX25 HG0
  replace BX26 := rG BX26 HG0
  replace BX27 := rG BX27 HG0
  replace BX28 := rG BX28 HG0
  replace BX29 := rG BX29 HG0
  replace BX30 := rG BX30 HG0
  replace BX31 := rG BX31 HG0
  replace BX32 := rG BX32 HG0
  replace BX33 := rG BX33 HG0
  replace BX34 := rG BX34 HG0
  replace BX35 := rG BX35 HG0
  replace BX36 := rG BX36 HG0
  replace BX37 := bG BX37 HG0
  replace BX38 := bG BX38 HG0
  replace BX39 := bG BX39 HG0
  replace BX40 := bG BX40 HG0
  replace HB := Lib.hid (HB.out.trans (HG0.out.mono HB.out.size))
  have BX41 := Lib.hid bx41; clear bx41
  have BX42 := Lib.hid bx42; clear bx42
  have BX43 := Lib.hid bx43; clear bx43
  have BX44 := Lib.hid bx44; clear bx44
  clear HG0
  clear lx37; have lx37 := BX37.out.cells
  clear lx38; have lx38 := BX38.out.cells
  clear lx39; have lx39 := BX39.out.cells
  simp only [Act.put, rA, rB, rC]
  refine wpPlan_nil (hT.out _ _ ?_); clear hT T
  intro vw2 hg
  simp only [puts, Act.put, rA, rB, rC, rD, rE, ↓reduceIte, Nat.reduceEqDiff]
  clear lx37 lx38 lx39
  have HG := Lib.hid (hg)
  clear hg
  replace BX21 := rG BX21 HG
  replace BX22 := rG BX22 HG
  replace BX23 := rG BX23 HG
  replace BX24 := rG BX24 HG
  replace BX25 := rG BX25 HG
  replace BX26 := rG BX26 HG
  replace BX27 := rG BX27 HG
  replace BX28 := rG BX28 HG
  replace BX29 := rG BX29 HG
  replace BX30 := rG BX30 HG
  replace BX31 := rG BX31 HG
  replace BX32 := rG BX32 HG
  replace BX33 := rG BX33 HG
  replace BX34 := rG BX34 HG
  replace BX35 := rG BX35 HG
  replace BX36 := rG BX36 HG
  replace BX37 := bG BX37 HG
  replace BX38 := bG BX38 HG
  replace BX39 := bG BX39 HG
  replace BX40 := bG BX40 HG
  replace BX41 := rG BX41 HG
  replace BX42 := rG BX42 HG
  replace BX43 := rG BX43 HG
  replace BX44 := rG BX44 HG
  have r0 := Gr.refl vw2
  go_wp2
  refine hK.out _ _ ?_; clear hK K
  show Code.wp _ _ _ _ _
  clear r0
  have hsz : w.heap.size ≤ vw2.heap.size := Nat.le_trans HB.out.size HG.out.size
  have mx37 : w.heap.size < vw2.heap.size := BX37.out.lt
  have mx38 : w.heap.size + 1 < vw2.heap.size := BX38.out.lt
  have mx39 : w.heap.size + 1 + 1 < vw2.heap.size := BX39.out.lt
  have mx40 : w.heap.size + 1 + 1 + 1 < vw2.heap.size := BX40.out.lt
  refine forgetW (fun w2 => Rn w2 (.slice ao_va11 n_va11 c_va11) (a1.num.natAbs) ∧ Rn w2 (.slice ao_va12 n_va12 c_va12) (a1.den - 1) ∧ Rn w2 (.slice ao_va21 n_va21 c_va21) (a2.num.natAbs) ∧ Rn w2 (.slice ao_va22 n_va22 c_va22) (a2.den - 1) ∧ Rn w2 (.slice ao_vd11 n_vd11 c_vd11) (d1.num.natAbs) ∧ Rn w2 (.slice ao_vd12 n_vd12 c_vd12) (d1.den - 1) ∧ Rn w2 (.slice ao_vd21 n_vd21 c_vd21) (d2.num.natAbs) ∧ Rn w2 (.slice ao_vd22 n_vd22 c_vd22) (d2.den - 1) ∧ Bx w2 (w.heap.size) 47 #[.bool (decide (a1.num < 0)), (.slice ao_va11 n_va11 c_va11), (.slice ao_va12 n_va12 c_va12), .bool (decide (a2.num < 0)), (.slice ao_va21 n_va21 c_va21), (.slice ao_va22 n_va22 c_va22)] ∧ Bx w2 (w.heap.size + 1 + 1 + 1) 47 #[.bool (decide (d1.num < 0)), (.slice ao_vd11 n_vd11 c_vd11), (.slice ao_vd12 n_vd12 c_vd12), .bool (decide (d2.num < 0)), (.slice ao_vd21 n_vd21 c_vd21), (.slice ao_vd22 n_vd22 c_vd22)] ∧ Rn w2 (.slice ao1 nn1 cc1) (m1.num.natAbs) ∧ Rn w2 (.slice ao2 nn2 cc2) (m1.den - 1) ∧ Rn w2 (.slice ao3 nn3 cc3) (m2.num.natAbs) ∧ Rn w2 (.slice ao4 nn4 cc4) (m2.den - 1) ∧ Bx w2 (vw2.heap.size) 47 #[.bool (decide (m1.num < 0)), (.slice ao1 nn1 cc1), (.slice ao2 nn2 cc2), .bool (decide (m2.num < 0)), (.slice ao3 nn3 cc3), (.slice ao4 nn4 cc4)] ∧ Below w.heap.size w w2) ⟨(BX21.out).alloc _, (BX22.out).alloc _, (BX23.out).alloc _, (BX24.out).alloc _, (BX33.out).alloc _, (BX34.out).alloc _, (BX35.out).alloc _, (BX36.out).alloc _, (BX37.out).alloc _, (BX40.out).alloc _, (BX41.out).alloc _, (BX42.out).alloc _, (BX43.out).alloc _, (BX44.out).alloc _, (Bx.at (by simp) : Bx _ (vw2.heap.size) _ _), (HB.out.trans (HG.out.mono HB.out.size)).alloc (by first | omega | (simp; omega)) _⟩ ?_
  clear HB HG BX21 BX22 BX23 BX24 BX25 BX26 BX27 BX28 BX29 BX30 BX31 BX32 BX33 BX34 BX35 BX36 BX37 BX38 BX39 BX40 BX41 BX42 BX43 BX44
  rintro Wx3 ⟨bx21, bx22, bx23, bx24, bx33, bx34, bx35, bx36, bx37, bx40, bx41, bx42, bx43, bx44, bx45, HB⟩
  replace HB := Lib.hid HB
  have yx45 : w.heap.size ≤ vw2.heap.size := by omega
  have qx37_45 : w.heap.size < vw2.heap.size := by omega
  have qx38_45 : w.heap.size + 1 < vw2.heap.size := by omega
  have qx39_45 : w.heap.size + 1 + 1 < vw2.heap.size := by omega
  have qx40_45 : w.heap.size + 1 + 1 + 1 < vw2.heap.size := by omega
  generalize hx45 : vw2.heap.size = gx45 at *
  clear hx45
  clear hsz mx37 mx38 mx39 mx40
  -- region 4
  obtain ⟨u3, HZ3⟩ : ∃ z, Hid (((m1) - (a1)) * ((m1) - (a1)) + ((m2) - (a2)) * ((m2) - (a2)) = z) := ⟨_, Lib.hid rfl⟩
  have su3 : rz u3 ≤ 404005 := by rw [← HZ3.out]; have := rz_square (m1) (m2) (a1) (a2); omega
  obtain ⟨u4, HZ4⟩ : ∃ z, Hid (((m1) - (d1)) * ((m1) - (d1)) + ((m2) - (d2)) * ((m2) - (d2)) = z) := ⟨_, Lib.hid rfl⟩
  have su4 : rz u4 ≤ 404005 := by rw [← HZ4.out]; have := rz_square (m1) (m2) (d1) (d2); omega
  have lx37 := bx37.cells
  have lx40 := bx40.cells
  have lx45 := bx45.cells
  have BX21 := Lib.hid bx21
  have BX22 := Lib.hid bx22
  have BX23 := Lib.hid bx23
  have BX24 := Lib.hid bx24
  have BX33 := Lib.hid bx33
  have BX34 := Lib.hid bx34
  have BX35 := Lib.hid bx35
  have BX36 := Lib.hid bx36
  have BX37 := Lib.hid bx37
  have BX40 := Lib.hid bx40
  have BX41 := Lib.hid bx41
  have BX42 := Lib.hid bx42
  have BX43 := Lib.hid bx43
  have BX44 := Lib.hid bx44
  have BX45 := Lib.hid bx45
  clear bx21 bx22 bx23 bx24 bx33 bx34 bx35 bx36 bx37 bx40 bx41 bx42 bx43 bx44 bx45
  refine wp_seq_k fun K hK => ?_
  replace hK := Lib.hid hK
  have HS0 := Lib.hid (HB.out.size)
  have MX37 : w.heap.size < Wx3.heap.size := BX37.out.lt
  have MX40 : w.heap.size + 1 + 1 + 1 < Wx3.heap.size := BX40.out.lt
  have MX45 : gx45 < Wx3.heap.size := BX45.out.lt
  refine wp_region_plan 7 [] [] (fun _ => 0) (fun _ => .cells #[] 0) [(true, 0), (true, 1), (true, 3), (true, 4), (false, 2), (false, 5), (true, 6)] (by kernel_rfl) (by kernel_rfl) (fun i hi => by cases hi) (fun i hi => by cases hi) (fun _ _ _ _ _ h => h) (fun T hT => ?_)
  iterate 4
    refine wpPlan_takeL (v := ?_) rfl (by rfl) (fun w' hw => ?_) ?_
    rotate_left
    · go_simp
      with_reducible rfl
    simp only [Act.put, rA, rB, rC]
  refine wpPlan_callE rfl (by rfl) Tryz.call30 (by rfl) (fun w' hw => (rpsquare (m1) (m2) (a1) (a2) (u3) _ _ _ _ _ _ _ _ _ HZ3.out (by omega) (by omega) (by omega) (by omega) (BX41.out.gr hw) (BX42.out.gr hw) (BX43.out.gr hw) (BX44.out.gr hw) (BX21.out.gr hw) (BX22.out.gr hw) (BX23.out.gr hw) (BX24.out.gr hw)).mono ?_)
  rintro e vv1 ⟨⟨rv5, rv6, rfl, bx46, bx47⟩, hg0⟩
  obtain ⟨ao5, nn5, cc5, rfl⟩ := Rn.sl bx46
  obtain ⟨ao6, nn6, cc6, rfl⟩ := Rn.sl bx47
  refine ⟨_, rfl, hg0, ?_⟩
  replace hg0 := Gr.trans hw hg0; clear hw
  have HG0 := Lib.hid hg0; clear hg0
  replace BX21 := rG BX21 HG0
  replace BX22 := rG BX22 HG0
  replace BX23 := rG BX23 HG0
  replace BX24 := rG BX24 HG0
  replace BX33 := rG BX33 HG0
  replace BX34 := rG BX34 HG0
  replace BX35 := rG BX35 HG0
  replace BX36 := rG BX36 HG0
  replace BX37 := bG BX37 HG0
  replace BX40 := bG BX40 HG0
  replace BX41 := rG BX41 HG0
  replace BX42 := rG BX42 HG0
  replace BX43 := rG BX43 HG0
  replace BX44 := rG BX44 HG0
  replace BX45 := bG BX45 HG0
  replace HB := Lib.hid (HB.out.trans (HG0.out.mono HB.out.size))
  have BX46 := Lib.hid bx46; clear bx46
  have BX47 := Lib.hid bx47; clear bx47
  clear HG0
  clear lx37; have lx37 := BX37.out.cells
  clear lx40; have lx40 := BX40.out.cells
  clear lx45; have lx45 := BX45.out.cells
  simp only [Act.put, rA, rB, rC]
  refine wpPlan_callE rfl (by rfl) Tryz.call30 (by rfl) (fun w' hw => (rpsquare (m1) (m2) (d1) (d2) (u4) _ _ _ _ _ _ _ _ _ HZ4.out (by omega) (by omega) (by omega) (by omega) (BX41.out.gr hw) (BX42.out.gr hw) (BX43.out.gr hw) (BX44.out.gr hw) (BX33.out.gr hw) (BX34.out.gr hw) (BX35.out.gr hw) (BX36.out.gr hw)).mono ?_)
  rintro e vv2 ⟨⟨rv7, rv8, rfl, bx48, bx49⟩, hg0⟩
  obtain ⟨ao7, nn7, cc7, rfl⟩ := Rn.sl bx48
  obtain ⟨ao8, nn8, cc8, rfl⟩ := Rn.sl bx49
  refine ⟨_, rfl, hg0, ?_⟩
  replace hg0 := Gr.trans hw hg0; clear hw
  have HG0 := Lib.hid hg0; clear hg0
  replace BX21 := rG BX21 HG0
  replace BX22 := rG BX22 HG0
  replace BX23 := rG BX23 HG0
  replace BX24 := rG BX24 HG0
  replace BX33 := rG BX33 HG0
  replace BX34 := rG BX34 HG0
  replace BX35 := rG BX35 HG0
  replace BX36 := rG BX36 HG0
  replace BX37 := bG BX37 HG0
  replace BX40 := bG BX40 HG0
  replace BX41 := rG BX41 HG0
  replace BX42 := rG BX42 HG0
  replace BX43 := rG BX43 HG0
  replace BX44 := rG BX44 HG0
  replace BX45 := bG BX45 HG0
  replace BX46 := rG BX46 HG0
  replace BX47 := rG BX47 HG0
  replace HB := Lib.hid (HB.out.trans (HG0.out.mono HB.out.size))
  have BX48 := Lib.hid bx48; clear bx48
  have BX49 := Lib.hid bx49; clear bx49
  clear HG0
  clear lx37; have lx37 := BX37.out.cells
  clear lx40; have lx40 := BX40.out.cells
  clear lx45; have lx45 := BX45.out.cells
  simp only [Act.put, rA, rB, rC]
  refine wpPlan_callL rfl (by rfl) Tryz.call29 (fun w' hw => qcmp_any (u3) (u4) (r) _ _ _ _ _ (by simp only [← HZ4.out, ← HZ3.out]; exact hr.out) (by omega) (by omega) (BX46.out.gr hw) (BX47.out.gr hw) (BX48.out.gr hw) (BX49.out.gr hw)) (by rfl) ?_
  simp only [Act.put, rA, rB, rC]
  refine wpPlan_nil (hT.out _ _ ?_); clear hT T
  intro G vw3 hg hf
  simp only [puts, Act.put, rA, rB, rC, rD, rE, ↓reduceIte, Nat.reduceEqDiff]
  clear lx37 lx40 lx45
  have HG := Lib.hid (hg)
  clear hg
  replace BX21 := rG BX21 HG
  replace BX22 := rG BX22 HG
  replace BX23 := rG BX23 HG
  replace BX24 := rG BX24 HG
  replace BX33 := rG BX33 HG
  replace BX34 := rG BX34 HG
  replace BX35 := rG BX35 HG
  replace BX36 := rG BX36 HG
  replace BX37 := bG BX37 HG
  replace BX40 := bG BX40 HG
  replace BX41 := rG BX41 HG
  replace BX42 := rG BX42 HG
  replace BX43 := rG BX43 HG
  replace BX44 := rG BX44 HG
  replace BX45 := bG BX45 HG
  replace BX46 := rG BX46 HG
  replace BX47 := rG BX47 HG
  replace BX48 := rG BX48 HG
  replace BX49 := rG BX49 HG
  have r0 := Gr.refl vw3
  go_wp2
  refine hK.out _ _ ?_; clear hK K
  show Code.wp _ _ _ _ _
  clear r0
  refine forgetW (fun w2 => Below w.heap.size w w2) (HB.out.trans (HG.out.mono HB.out.size)) ?_
  clear HB HG BX21 BX22 BX23 BX24 BX33 BX34 BX35 BX36 BX37 BX40 BX41 BX42 BX43 BX44 BX45 BX46 BX47 BX48 BX49
  rintro Wx4 HB
  replace HB := Lib.hid HB
  refine wp_ret ?_
  try simp only [Exit.then, Exit.inBlock]
  have r0 := Gr.refl Wx4
  exact bodyPost_ret (v := .int .i64 (r)) (by simp [results, Tryz.results11, go_sem]) rfl ⟨rfl, HB.out⟩

end Go.Proofs.YtenpbnmmadbkdaaGreat


/- points.piece. -/
namespace Go.Proofs.YtenpbnmmadbkdaaGreat
open Go.RowKit
-- short cells
set_option linter.unusedSimpArgs false
set_option linter.unusedVariables false
attribute [local go_sem ↓] Go.wp_at_zero Go.wp_at_succ
theorem qA {α : Type} {l : List α} {i : Nat} {a : α} : l.toArray.setIfInBounds i a = (l.set i a).toArray := List.setIfInBounds_toArray _ _ _
theorem qB {α : Type} {x : α} {l : List α} {a : α} : (x :: l).set 0 a = a :: l := rfl
theorem qC {α : Type} {x : α} {l : List α} {n : Nat} {a : α} : (x :: l).set (n + 1) a = x :: l.set n a := rfl
theorem qD {α : Type} {x : α} {l : List α} {n : Nat} : (x :: l).drop (n + 1) = l.drop n := rfl
theorem qE {α : Type} {l : List α} : l.drop 0 = l := rfl

theorem eq_int (d : Nat) (a b : Int) (w : World) : (Op.equalIn (d + 4) 34 (Value.agg #[.int .u64 (lo (Int.natAbs (a))), .string (bg (Int.natAbs (a))), .bool (decide ((a) < 0))]) (Value.agg #[.int .u64 (lo (Int.natAbs (b))), .string (bg (Int.natAbs (b))), .bool (decide ((b) < 0))])).run Tryz.prog w = .ok (decide (a = b)) w := by
  have e : decide (a = b) = (decide (a.natAbs = b.natAbs) && decide (decide (a < 0) = decide (b < 0))) := by
    rw [← Bool.decide_and]
    apply decide_eq_decide.2
    constructor
    · rintro rfl; exact ⟨rfl, rfl⟩
    · rintro ⟨h1, h2⟩
      have := decide_eq_decide.1 h2
      omega
  rw [e]
  simp [go_sem, eq_nat]
  by_cases h1 : a.natAbs = b.natAbs <;> by_cases h2 : a < 0 <;> by_cases h3 : b < 0 <;> simp [h1, h2, h3]
theorem eq_frac (d : Nat) (a b : Rat) (w : World) : (Op.equalIn (d + 5) 36 (Value.agg #[.int .u64 (lo a.num.natAbs), .string (bg a.num.natAbs), .bool (decide (a.num < 0)), .int .u64 (lo (a.den - 1)), .string (bg (a.den - 1))]) (Value.agg #[.int .u64 (lo b.num.natAbs), .string (bg b.num.natAbs), .bool (decide (b.num < 0)), .int .u64 (lo (b.den - 1)), .string (bg (b.den - 1))])).run Tryz.prog w = .ok (decide (a = b)) w := by
  have e : decide (a = b) = (decide (a.num = b.num) && decide (a.den - 1 = b.den - 1)) := by
    rw [← Bool.decide_and]
    apply decide_eq_decide.2
    constructor
    · rintro rfl; exact ⟨rfl, rfl⟩
    · rintro ⟨h1, h2⟩; exact frac_inj h1 h2
  rw [e]
  simp [go_sem, eq_int, eq_nat]
  by_cases h1 : a.num = b.num <;> by_cases h2 : a.den - 1 = b.den - 1 <;> simp [h1, h2]
theorem eq_pt (d : Nat) (a1 a2 b1 b2 : Rat) (w : World) : (Op.equalIn (d + 6) 38 (Value.agg #[.int .u64 (lo a1.num.natAbs), .string (bg a1.num.natAbs), .bool (decide (a1.num < 0)), .int .u64 (lo (a1.den - 1)), .string (bg (a1.den - 1)), .int .u64 (lo a2.num.natAbs), .string (bg a2.num.natAbs), .bool (decide (a2.num < 0)), .int .u64 (lo (a2.den - 1)), .string (bg (a2.den - 1))]) (Value.agg #[.int .u64 (lo b1.num.natAbs), .string (bg b1.num.natAbs), .bool (decide (b1.num < 0)), .int .u64 (lo (b1.den - 1)), .string (bg (b1.den - 1)), .int .u64 (lo b2.num.natAbs), .string (bg b2.num.natAbs), .bool (decide (b2.num < 0)), .int .u64 (lo (b2.den - 1)), .string (bg (b2.den - 1))])).run Tryz.prog w = .ok (decide (a1 = b1) && decide (a2 = b2)) w := by
  simp [go_sem, eq_frac]
  by_cases h1 : a1 = b1 <;> by_cases h2 : a2 = b2 <;> simp [h1, h2]

attribute [local go_sem ↓] eq_nat eq_nat_zero eq_int eq_frac eq_pt
set_option maxHeartbeats 4000000 in
theorem ppiece_none (a1 a2 b1 b2 c1 c2 d1 d2 la1 la2 lc1 lc2 fr1 fr2 ga1 ga2 gc1 gc2 to1 to2 : Rat) (r_la r_lc r_fr r_ga r_gc r_to : Bool) (w : World) (h_la : Hid (plt b1 b2 a1 a2 = r_la)) (h1_la : Hid ((if r_la then b1 else a1) = la1)) (h2_la : Hid ((if r_la then b2 else a2) = la2)) (h_lc : Hid (plt d1 d2 c1 c2 = r_lc)) (h1_lc : Hid ((if r_lc then d1 else c1) = lc1)) (h2_lc : Hid ((if r_lc then d2 else c2) = lc2)) (h_fr : Hid (plt la1 la2 lc1 lc2 = r_fr)) (h1_fr : Hid ((if r_fr then lc1 else la1) = fr1)) (h2_fr : Hid ((if r_fr then lc2 else la2) = fr2)) (h_ga : Hid (plt a1 a2 b1 b2 = r_ga)) (h1_ga : Hid ((if r_ga then b1 else a1) = ga1)) (h2_ga : Hid ((if r_ga then b2 else a2) = ga2)) (h_gc : Hid (plt c1 c2 d1 d2 = r_gc)) (h1_gc : Hid ((if r_gc then d1 else c1) = gc1)) (h2_gc : Hid ((if r_gc then d2 else c2) = gc2)) (h_to : Hid (plt gc1 gc2 ga1 ga2 = r_to)) (h1_to : Hid ((if r_to then gc1 else ga1) = to1)) (h2_to : Hid ((if r_to then gc2 else ga2) = to2)) (hl : Hid (plt to1 to2 fr1 fr2 = true)) (hs_a1 : sz a1 ≤ 100000000) (hs_a2 : sz a2 ≤ 100000000) (hs_b1 : sz b1 ≤ 100000000) (hs_b2 : sz b2 ≤ 100000000) (hs_c1 : sz c1 ≤ 100000000) (hs_c2 : sz c2 ≤ 100000000) (hs_d1 : sz d1 ≤ 100000000) (hs_d2 : sz d2 ≤ 100000000) (hs_la1 : sz la1 ≤ 100000000) (hs_la2 : sz la2 ≤ 100000000) (hs_lc1 : sz lc1 ≤ 100000000) (hs_lc2 : sz lc2 ≤ 100000000) (hs_fr1 : sz fr1 ≤ 100000000) (hs_fr2 : sz fr2 ≤ 100000000) (hs_ga1 : sz ga1 ≤ 100000000) (hs_ga2 : sz ga2 ≤ 100000000) (hs_gc1 : sz gc1 ≤ 100000000) (hs_gc2 : sz gc2 ≤ 100000000) (hs_to1 : sz to1 ≤ 100000000) (hs_to2 : sz to2 ≤ 100000000) :
    Calls Tryz.prog 56 #[(Value.agg #[.int .u64 (lo a1.num.natAbs), .string (bg a1.num.natAbs), .bool (decide (a1.num < 0)), .int .u64 (lo (a1.den - 1)), .string (bg (a1.den - 1)), .int .u64 (lo a2.num.natAbs), .string (bg a2.num.natAbs), .bool (decide (a2.num < 0)), .int .u64 (lo (a2.den - 1)), .string (bg (a2.den - 1))]), (Value.agg #[.int .u64 (lo b1.num.natAbs), .string (bg b1.num.natAbs), .bool (decide (b1.num < 0)), .int .u64 (lo (b1.den - 1)), .string (bg (b1.den - 1)), .int .u64 (lo b2.num.natAbs), .string (bg b2.num.natAbs), .bool (decide (b2.num < 0)), .int .u64 (lo (b2.den - 1)), .string (bg (b2.den - 1))]), (Value.agg #[.int .u64 (lo c1.num.natAbs), .string (bg c1.num.natAbs), .bool (decide (c1.num < 0)), .int .u64 (lo (c1.den - 1)), .string (bg (c1.den - 1)), .int .u64 (lo c2.num.natAbs), .string (bg c2.num.natAbs), .bool (decide (c2.num < 0)), .int .u64 (lo (c2.den - 1)), .string (bg (c2.den - 1))]), (Value.agg #[.int .u64 (lo d1.num.natAbs), .string (bg d1.num.natAbs), .bool (decide (d1.num < 0)), .int .u64 (lo (d1.den - 1)), .string (bg (d1.den - 1)), .int .u64 (lo d2.num.natAbs), .string (bg d2.num.natAbs), .bool (decide (d2.num < 0)), .int .u64 (lo (d2.den - 1)), .string (bg (d2.den - 1))])] w fun e w' => e = .returned (.tuple #[.int .i64 0, (.agg #[.int .u64 0, .string ⟨#[]⟩, .bool false, .int .u64 0, .string ⟨#[]⟩, .int .u64 0, .string ⟨#[]⟩, .bool false, .int .u64 0, .string ⟨#[]⟩])]) ∧ Below w.heap.size w w' := by
  go_enter Tryz.func56, Tryz.ntmps56
  -- region 0
  refine wp_seq_k fun K hK => ?_
  replace hK := Lib.hid hK
  refine wp_region_lit ?_
  go_wp2
  refine hK.out _ _ ?_; clear hK K
  show Code.wp _ _ _ _ _
  refine forgetW (fun w2 => Bx w2 (w.heap.size) 38 #[.int .u64 (lo a1.num.natAbs), .string (bg a1.num.natAbs), .bool (decide (a1.num < 0)), .int .u64 (lo (a1.den - 1)), .string (bg (a1.den - 1)), .int .u64 (lo a2.num.natAbs), .string (bg a2.num.natAbs), .bool (decide (a2.num < 0)), .int .u64 (lo (a2.den - 1)), .string (bg (a2.den - 1))] ∧ Bx w2 (w.heap.size + 1) 38 #[.int .u64 (lo b1.num.natAbs), .string (bg b1.num.natAbs), .bool (decide (b1.num < 0)), .int .u64 (lo (b1.den - 1)), .string (bg (b1.den - 1)), .int .u64 (lo b2.num.natAbs), .string (bg b2.num.natAbs), .bool (decide (b2.num < 0)), .int .u64 (lo (b2.den - 1)), .string (bg (b2.den - 1))] ∧ Bx w2 (w.heap.size + 1 + 1) 38 #[.int .u64 (lo c1.num.natAbs), .string (bg c1.num.natAbs), .bool (decide (c1.num < 0)), .int .u64 (lo (c1.den - 1)), .string (bg (c1.den - 1)), .int .u64 (lo c2.num.natAbs), .string (bg c2.num.natAbs), .bool (decide (c2.num < 0)), .int .u64 (lo (c2.den - 1)), .string (bg (c2.den - 1))] ∧ Bx w2 (w.heap.size + 1 + 1 + 1) 38 #[.int .u64 (lo d1.num.natAbs), .string (bg d1.num.natAbs), .bool (decide (d1.num < 0)), .int .u64 (lo (d1.den - 1)), .string (bg (d1.den - 1)), .int .u64 (lo d2.num.natAbs), .string (bg d2.num.natAbs), .bool (decide (d2.num < 0)), .int .u64 (lo (d2.den - 1)), .string (bg (d2.den - 1))] ∧ Bx w2 (w.heap.size + 1 + 1 + 1 + 1) 38 #[.int .u64 0, .string ⟨#[]⟩, .bool false, .int .u64 0, .string ⟨#[]⟩, .int .u64 0, .string ⟨#[]⟩, .bool false, .int .u64 0, .string ⟨#[]⟩] ∧ Below w.heap.size w w2) ⟨((((Bx.at rfl).alloc _).alloc _).alloc _).alloc _, (((Bx.at (by simp)).alloc _).alloc _).alloc _, ((Bx.at (by simp)).alloc _).alloc _, (Bx.at (by simp)).alloc _, Bx.at (by simp), (((((Below.refl _ _).alloc (Nat.le_refl _) _).alloc (by simp) _).alloc (by simp; omega) _).alloc (by simp; omega) _).alloc (by simp; omega) _⟩ ?_
  rintro Wx ⟨bx0, bx1, bx2, bx3, bx4, HB⟩
  replace HB := Lib.hid HB
  -- region 1
  have lx0 := bx0.cells
  have lx1 := bx1.cells
  have lx2 := bx2.cells
  have lx3 := bx3.cells
  have BX0 := Lib.hid bx0
  have BX1 := Lib.hid bx1
  have BX2 := Lib.hid bx2
  have BX3 := Lib.hid bx3
  have BX4 := Lib.hid bx4
  clear bx0 bx1 bx2 bx3 bx4
  refine wp_seq_k fun K hK => ?_
  replace hK := Lib.hid hK
  have HS0 := Lib.hid (HB.out.size)
  have MX0 : w.heap.size < Wx.heap.size := BX0.out.lt
  have MX1 : w.heap.size + 1 < Wx.heap.size := BX1.out.lt
  have MX2 : w.heap.size + 1 + 1 < Wx.heap.size := BX2.out.lt
  have MX3 : w.heap.size + 1 + 1 + 1 < Wx.heap.size := BX3.out.lt
  have MX4 : w.heap.size + 1 + 1 + 1 + 1 < Wx.heap.size := BX4.out.lt
  refine wp_region_early 22 [20, 21] [] (fun i => if i = 20 then 10 else 11) (fun i => if i = 20 then .cells #[.int .u64 0, .string ⟨#[]⟩, .bool false, .int .u64 0, .string ⟨#[]⟩, .int .u64 0, .string ⟨#[]⟩, .bool false, .int .u64 0, .string ⟨#[]⟩] 38 else .cells #[.int .u64 0, .string ⟨#[]⟩, .bool false, .int .u64 0, .string ⟨#[]⟩, .int .u64 0, .string ⟨#[]⟩, .bool false, .int .u64 0, .string ⟨#[]⟩] 38) (fun i => if i = 2 then (1, #[.int .u64 (lo b1.num.natAbs), .string (bg b1.num.natAbs), .bool (decide (b1.num < 0)), .int .u64 (lo (b1.den - 1)), .string (bg (b1.den - 1)), .int .u64 (lo b2.num.natAbs), .string (bg b2.num.natAbs), .bool (decide (b2.num < 0)), .int .u64 (lo (b2.den - 1)), .string (bg (b2.den - 1))], 38) else if i = 6 then (1, #[.int .u64 (lo d1.num.natAbs), .string (bg d1.num.natAbs), .bool (decide (d1.num < 0)), .int .u64 (lo (d1.den - 1)), .string (bg (d1.den - 1)), .int .u64 (lo d2.num.natAbs), .string (bg d2.num.natAbs), .bool (decide (d2.num < 0)), .int .u64 (lo (d2.den - 1)), .string (bg (d2.den - 1))], 38) else if i = 8 then (1, #[.int .u64 (lo lc1.num.natAbs), .string (bg lc1.num.natAbs), .bool (decide (lc1.num < 0)), .int .u64 (lo (lc1.den - 1)), .string (bg (lc1.den - 1)), .int .u64 (lo lc2.num.natAbs), .string (bg lc2.num.natAbs), .bool (decide (lc2.num < 0)), .int .u64 (lo (lc2.den - 1)), .string (bg (lc2.den - 1))], 38) else if i = 12 then (1, #[.int .u64 (lo b1.num.natAbs), .string (bg b1.num.natAbs), .bool (decide (b1.num < 0)), .int .u64 (lo (b1.den - 1)), .string (bg (b1.den - 1)), .int .u64 (lo b2.num.natAbs), .string (bg b2.num.natAbs), .bool (decide (b2.num < 0)), .int .u64 (lo (b2.den - 1)), .string (bg (b2.den - 1))], 38) else if i = 16 then (1, #[.int .u64 (lo d1.num.natAbs), .string (bg d1.num.natAbs), .bool (decide (d1.num < 0)), .int .u64 (lo (d1.den - 1)), .string (bg (d1.den - 1)), .int .u64 (lo d2.num.natAbs), .string (bg d2.num.natAbs), .bool (decide (d2.num < 0)), .int .u64 (lo (d2.den - 1)), .string (bg (d2.den - 1))], 38) else (1, #[.int .u64 (lo gc1.num.natAbs), .string (bg gc1.num.natAbs), .bool (decide (gc1.num < 0)), .int .u64 (lo (gc1.den - 1)), .string (bg (gc1.den - 1)), .int .u64 (lo gc2.num.natAbs), .string (bg gc2.num.natAbs), .bool (decide (gc2.num < 0)), .int .u64 (lo (gc2.den - 1)), .string (bg (gc2.den - 1))], 38)) [(0, 0), (0, 1), (1, 2), (0, 4), (0, 5), (1, 6), (0, 10), (0, 11), (1, 12), (0, 14), (0, 15), (1, 16), (2, 2), (0, 3), (2, 6), (0, 7), (1, 8), (2, 8), (0, 9), (2, 12), (0, 13), (2, 16), (0, 17), (1, 18), (2, 18), (0, 19)] (by kernel_rfl) (by kernel_rfl) (by intro i hi; simp only [List.mem_cons, List.not_mem_nil, or_false] at hi; rcases hi with rfl | rfl <;> exact ⟨_, rfl, rfl, rfl, by simp, fun ρ w => by kernel_rfl⟩) (fun i hi => by cases hi) (fun _ _ _ _ _ h => h) (fun T hT => ?_)
  iterate 2
    refine wpEarly_takeL (v := ?_) rfl (by rfl) (fun w' hw => ?_) ?_
    rotate_left
    · go_simp
      with_reducible rfl
    simp only [Act.put, qA, qB, qC]
  refine wpEarly_mk rfl (by rfl) (fun w' => ?_) ?_
  · go_simp
  iterate 2
    refine wpEarly_takeL (v := ?_) rfl (by rfl) (fun w' hw => ?_) ?_
    rotate_left
    · go_simp
      with_reducible rfl
    simp only [Act.put, qA, qB, qC]
  refine wpEarly_mk rfl (by rfl) (fun w' => ?_) ?_
  · go_simp
  iterate 2
    refine wpEarly_takeL (v := ?_) rfl (by rfl) (fun w' hw => ?_) ?_
    rotate_left
    · go_simp
      with_reducible rfl
    simp only [Act.put, qA, qB, qC]
  refine wpEarly_mk rfl (by rfl) (fun w' => ?_) ?_
  · go_simp
  iterate 2
    refine wpEarly_takeL (v := ?_) rfl (by rfl) (fun w' hw => ?_) ?_
    rotate_left
    · go_simp
      with_reducible rfl
    simp only [Act.put, qA, qB, qC]
  refine wpEarly_mk rfl (by rfl) (fun w' => ?_) ?_
  · go_simp
  refine wpEarly_use rfl (by rfl) (fun gx5 vv1 hg0 yx5 bx5 => ?_)
  have HG0 := Lib.hid hg0; clear hg0
  replace yx5 : w.heap.size ≤ gx5 := by first | exact Nat.le_trans HS0.out yx5 | exact Nat.le_trans HB.out.size yx5
  have BX5 := Lib.hid bx5; clear bx5
  replace BX0 := bG BX0 HG0
  replace BX1 := bG BX1 HG0
  replace BX2 := bG BX2 HG0
  replace BX3 := bG BX3 HG0
  replace BX4 := bG BX4 HG0
  replace HB := Lib.hid (HB.out.trans (HG0.out.mono HB.out.size))
  clear HG0
  clear lx0; have lx0 := BX0.out.cells
  clear lx1; have lx1 := BX1.out.cells
  clear lx2; have lx2 := BX2.out.cells
  clear lx3; have lx3 := BX3.out.cells
  simp only [Act.put, qA, qB, qC]
  refine wpEarly_callL rfl (by rfl) Tryz.call22 (fun w' hw => pleast_any (a1) (a2) (b1) (b2) la1 la2 (gx5) _ (BX5.out.gr hw) (r_la) (h_la.out) (h1_la.out) (h2_la.out) (by omega) (by omega) (by omega) (by omega)) (by rfl) ?_
  simp only [Act.put, qA, qB, qC]
  refine wpEarly_use rfl (by rfl) (fun gx6 vv2 hg0 yx6 bx6 => ?_)
  have HG0 := Lib.hid hg0; clear hg0
  replace yx6 : w.heap.size ≤ gx6 := by first | exact Nat.le_trans HS0.out yx6 | exact Nat.le_trans HB.out.size yx6
  have BX6 := Lib.hid bx6; clear bx6
  replace BX0 := bG BX0 HG0
  replace BX1 := bG BX1 HG0
  replace BX2 := bG BX2 HG0
  replace BX3 := bG BX3 HG0
  replace BX4 := bG BX4 HG0
  replace BX5 := bG BX5 HG0
  replace HB := Lib.hid (HB.out.trans (HG0.out.mono HB.out.size))
  clear HG0
  clear lx0; have lx0 := BX0.out.cells
  clear lx1; have lx1 := BX1.out.cells
  clear lx2; have lx2 := BX2.out.cells
  clear lx3; have lx3 := BX3.out.cells
  simp only [Act.put, qA, qB, qC]
  refine wpEarly_callL rfl (by rfl) Tryz.call22 (fun w' hw => pleast_any (c1) (c2) (d1) (d2) lc1 lc2 (gx6) _ (BX6.out.gr hw) (r_lc) (h_lc.out) (h1_lc.out) (h2_lc.out) (by omega) (by omega) (by omega) (by omega)) (by rfl) ?_
  simp only [Act.put, qA, qB, qC]
  refine wpEarly_mk rfl (by rfl) (fun w' => ?_) ?_
  · go_simp
  refine wpEarly_use rfl (by rfl) (fun gx9 vv3 hg0 yx9 bx9 => ?_)
  have HG0 := Lib.hid hg0; clear hg0
  replace yx9 : w.heap.size ≤ gx9 := by first | exact Nat.le_trans HS0.out yx9 | exact Nat.le_trans HB.out.size yx9
  have BX9 := Lib.hid bx9; clear bx9
  replace BX0 := bG BX0 HG0
  replace BX1 := bG BX1 HG0
  replace BX2 := bG BX2 HG0
  replace BX3 := bG BX3 HG0
  replace BX4 := bG BX4 HG0
  replace BX5 := bG BX5 HG0
  replace BX6 := bG BX6 HG0
  replace HB := Lib.hid (HB.out.trans (HG0.out.mono HB.out.size))
  clear HG0
  clear lx0; have lx0 := BX0.out.cells
  clear lx1; have lx1 := BX1.out.cells
  clear lx2; have lx2 := BX2.out.cells
  clear lx3; have lx3 := BX3.out.cells
  simp only [Act.put, qA, qB, qC]
  refine wpEarly_callL rfl (by rfl) Tryz.call23 (fun w' hw => pgreatest_any (la1) (la2) (lc1) (lc2) fr1 fr2 (gx9) _ (BX9.out.gr hw) (r_fr) (h_fr.out) (h1_fr.out) (h2_fr.out) (by omega) (by omega) (by omega) (by omega)) (by rfl) ?_
  simp only [Act.put, qA, qB, qC]
  refine wpEarly_use rfl (by rfl) (fun gx7 vv4 hg0 yx7 bx7 => ?_)
  have HG0 := Lib.hid hg0; clear hg0
  replace yx7 : w.heap.size ≤ gx7 := by first | exact Nat.le_trans HS0.out yx7 | exact Nat.le_trans HB.out.size yx7
  have BX7 := Lib.hid bx7; clear bx7
  replace BX0 := bG BX0 HG0
  replace BX1 := bG BX1 HG0
  replace BX2 := bG BX2 HG0
  replace BX3 := bG BX3 HG0
  replace BX4 := bG BX4 HG0
  replace BX5 := bG BX5 HG0
  replace BX6 := bG BX6 HG0
  replace BX9 := bG BX9 HG0
  replace HB := Lib.hid (HB.out.trans (HG0.out.mono HB.out.size))
  clear HG0
  clear lx0; have lx0 := BX0.out.cells
  clear lx1; have lx1 := BX1.out.cells
  clear lx2; have lx2 := BX2.out.cells
  clear lx3; have lx3 := BX3.out.cells
  simp only [Act.put, qA, qB, qC]
  refine wpEarly_callL rfl (by rfl) Tryz.call23 (fun w' hw => pgreatest_any (a1) (a2) (b1) (b2) ga1 ga2 (gx7) _ (BX7.out.gr hw) (r_ga) (h_ga.out) (h1_ga.out) (h2_ga.out) (by omega) (by omega) (by omega) (by omega)) (by rfl) ?_
  simp only [Act.put, qA, qB, qC]
  refine wpEarly_use rfl (by rfl) (fun gx8 vv5 hg0 yx8 bx8 => ?_)
  have HG0 := Lib.hid hg0; clear hg0
  replace yx8 : w.heap.size ≤ gx8 := by first | exact Nat.le_trans HS0.out yx8 | exact Nat.le_trans HB.out.size yx8
  have BX8 := Lib.hid bx8; clear bx8
  replace BX0 := bG BX0 HG0
  replace BX1 := bG BX1 HG0
  replace BX2 := bG BX2 HG0
  replace BX3 := bG BX3 HG0
  replace BX4 := bG BX4 HG0
  replace BX5 := bG BX5 HG0
  replace BX6 := bG BX6 HG0
  replace BX9 := bG BX9 HG0
  replace BX7 := bG BX7 HG0
  replace HB := Lib.hid (HB.out.trans (HG0.out.mono HB.out.size))
  clear HG0
  clear lx0; have lx0 := BX0.out.cells
  clear lx1; have lx1 := BX1.out.cells
  clear lx2; have lx2 := BX2.out.cells
  clear lx3; have lx3 := BX3.out.cells
  simp only [Act.put, qA, qB, qC]
  refine wpEarly_callL rfl (by rfl) Tryz.call23 (fun w' hw => pgreatest_any (c1) (c2) (d1) (d2) gc1 gc2 (gx8) _ (BX8.out.gr hw) (r_gc) (h_gc.out) (h1_gc.out) (h2_gc.out) (by omega) (by omega) (by omega) (by omega)) (by rfl) ?_
  simp only [Act.put, qA, qB, qC]
  refine wpEarly_mk rfl (by rfl) (fun w' => ?_) ?_
  · go_simp
  refine wpEarly_use rfl (by rfl) (fun gx10 vv6 hg0 yx10 bx10 => ?_)
  have HG0 := Lib.hid hg0; clear hg0
  replace yx10 : w.heap.size ≤ gx10 := by first | exact Nat.le_trans HS0.out yx10 | exact Nat.le_trans HB.out.size yx10
  have BX10 := Lib.hid bx10; clear bx10
  replace BX0 := bG BX0 HG0
  replace BX1 := bG BX1 HG0
  replace BX2 := bG BX2 HG0
  replace BX3 := bG BX3 HG0
  replace BX4 := bG BX4 HG0
  replace BX5 := bG BX5 HG0
  replace BX6 := bG BX6 HG0
  replace BX9 := bG BX9 HG0
  replace BX7 := bG BX7 HG0
  replace BX8 := bG BX8 HG0
  replace HB := Lib.hid (HB.out.trans (HG0.out.mono HB.out.size))
  clear HG0
  clear lx0; have lx0 := BX0.out.cells
  clear lx1; have lx1 := BX1.out.cells
  clear lx2; have lx2 := BX2.out.cells
  clear lx3; have lx3 := BX3.out.cells
  simp only [Act.put, qA, qB, qC]
  refine wpEarly_callL rfl (by rfl) Tryz.call22 (fun w' hw => pleast_any (ga1) (ga2) (gc1) (gc2) to1 to2 (gx10) _ (BX10.out.gr hw) (r_to) (h_to.out) (h1_to.out) (h2_to.out) (by omega) (by omega) (by omega) (by omega)) (by rfl) ?_
  simp only [Act.put, qA, qB, qC]
  refine wpEarly_nil (hT.out _ _ ?_); clear hT T
  intro G vw1 hg hf
  simp only [puts, Act.put, qA, qB, qC, qD, qE, ↓reduceIte, Nat.reduceEqDiff]
  clear lx0 lx1 lx2 lx3
  clear BX5
  clear BX6
  clear BX9
  clear BX7
  clear BX8
  clear BX10
  have HG := Lib.hid (hg)
  clear hg
  have bx11 := Bx.of_fresh hf (i := 20) (by decide) rfl
  have yx11 := (hf.1 20 (by decide)).1
  have bx12 := Bx.of_fresh hf (i := 21) (by decide) rfl
  have yx12 := (hf.1 21 (by decide)).1
  have dx11_12 : G 20 ≠ G 21 := fun e => absurd (hf.2 20 (by decide) 21 (by decide) e) (by decide)
  clear hf
  generalize G 20 = gx11 at *
  generalize G 21 = gx12 at *
  have qx0_11 : w.heap.size < gx11 := Nat.lt_of_lt_of_le MX0 yx11
  have qx0_12 : w.heap.size < gx12 := Nat.lt_of_lt_of_le MX0 yx12
  have qx1_11 : w.heap.size + 1 < gx11 := Nat.lt_of_lt_of_le MX1 yx11
  have qx1_12 : w.heap.size + 1 < gx12 := Nat.lt_of_lt_of_le MX1 yx12
  have qx2_11 : w.heap.size + 1 + 1 < gx11 := Nat.lt_of_lt_of_le MX2 yx11
  have qx2_12 : w.heap.size + 1 + 1 < gx12 := Nat.lt_of_lt_of_le MX2 yx12
  have qx3_11 : w.heap.size + 1 + 1 + 1 < gx11 := Nat.lt_of_lt_of_le MX3 yx11
  have qx3_12 : w.heap.size + 1 + 1 + 1 < gx12 := Nat.lt_of_lt_of_le MX3 yx12
  have qx4_11 : w.heap.size + 1 + 1 + 1 + 1 < gx11 := Nat.lt_of_lt_of_le MX4 yx11
  have qx4_12 : w.heap.size + 1 + 1 + 1 + 1 < gx12 := Nat.lt_of_lt_of_le MX4 yx12
  replace yx11 : w.heap.size ≤ gx11 := Nat.le_trans HS0.out yx11
  replace yx12 : w.heap.size ≤ gx12 := Nat.le_trans HS0.out yx12
  replace BX0 := bG BX0 HG
  replace BX1 := bG BX1 HG
  replace BX2 := bG BX2 HG
  replace BX3 := bG BX3 HG
  replace BX4 := bG BX4 HG
  have lx11 := bx11.cells; have fx11 := bx11.free
  have lx12 := bx12.cells; have fx12 := bx12.free
  have r0 := Gr.refl vw1
  have BX11 := Lib.hid bx11; clear bx11
  have BX12 := Lib.hid bx12; clear bx12
  go_wp2
  refine hK.out _ _ ?_; clear hK K
  show Code.wp _ _ _ _ _
  clear lx11 fx11
  clear lx12 fx12
  clear r0
  refine forgetW (fun w2 => Bx w2 (w.heap.size + 1 + 1 + 1 + 1) 38 #[.int .u64 0, .string ⟨#[]⟩, .bool false, .int .u64 0, .string ⟨#[]⟩, .int .u64 0, .string ⟨#[]⟩, .bool false, .int .u64 0, .string ⟨#[]⟩] ∧ Bx w2 gx11 38 #[.int .u64 (lo fr1.num.natAbs), .string (bg fr1.num.natAbs), .bool (decide (fr1.num < 0)), .int .u64 (lo (fr1.den - 1)), .string (bg (fr1.den - 1)), .int .u64 (lo fr2.num.natAbs), .string (bg fr2.num.natAbs), .bool (decide (fr2.num < 0)), .int .u64 (lo (fr2.den - 1)), .string (bg (fr2.den - 1))] ∧ Bx w2 gx12 38 #[.int .u64 (lo to1.num.natAbs), .string (bg to1.num.natAbs), .bool (decide (to1.num < 0)), .int .u64 (lo (to1.den - 1)), .string (bg (to1.den - 1)), .int .u64 (lo to2.num.natAbs), .string (bg to2.num.natAbs), .bool (decide (to2.num < 0)), .int .u64 (lo (to2.den - 1)), .string (bg (to2.den - 1))] ∧ Below w.heap.size w w2) ⟨so10 (so10 (BX4.out) (by show w.heap.size + 1 + 1 + 1 + 1 ≠ gx11; omega)) (by show w.heap.size + 1 + 1 + 1 + 1 ≠ gx12; omega), (so10 (((((((((((BX11.out).set 0 _).set 1 _).set 2 _).set 3 _).set 4 _).set 5 _).set 6 _).set 7 _).set 8 _).set 9 _) (by show gx11 ≠ gx12; omega)).eq (by simp only [rA, rB, rC]), (((((((((((so10 (BX12.out) (by show gx12 ≠ gx11; omega)).set 0 _).set 1 _).set 2 _).set 3 _).set 4 _).set 5 _).set 6 _).set 7 _).set 8 _).set 9 _).eq (by simp only [rA, rB, rC]), sc10 (sc10 (HB.out.trans (HG.out.mono HB.out.size)) (by show w.heap.size ≤ gx11; omega)) (by show w.heap.size ≤ gx12; omega)⟩ ?_
  clear HB HG BX0 BX1 BX2 BX3 BX4 BX11 BX12
  rintro Wx1 ⟨bx4, bx11, bx12, HB⟩
  replace HB := Lib.hid HB
  refine wp_seq ?_
  refine wp_block ?_
  -- region 2
  have lx11 := bx11.cells
  have lx12 := bx12.cells
  have BX4 := Lib.hid bx4
  have BX11 := Lib.hid bx11
  have BX12 := Lib.hid bx12
  clear bx4 bx11 bx12
  refine wp_seq_k fun K hK => ?_
  replace hK := Lib.hid hK
  refine wp_region_seqplan 4 [(true, 0), (true, 1), (true, 2), (true, 3)] (by rfl) (by simp) (fun T hT => ?_)
  iterate 2
    refine wpPlan_takeL (v := ?_) rfl (by rfl) (fun w' hw => ?_) ?_
    rotate_left
    · go_simp
      with_reducible rfl
    simp only [Act.put, qA, qB, qC]
  refine wpPlan_callL rfl (by rfl) Tryz.call21 (fun w' hw => pless_any (to1) (to2) (fr1) (fr2) true _ (hl.out) (by omega) (by omega) (by omega) (by omega)) (by rfl) ?_
  simp only [Act.put, qA, qB, qC]
  iterate 1
    refine wpPlan_takeL (v := ?_) rfl (by rfl) (fun w' hw => ?_) ?_
    rotate_left
    · go_simp
      with_reducible rfl
    simp only [Act.put, qA, qB, qC]
  refine wpPlan_nil (hT.out _ _ ?_); clear hT T
  intro vw2 hg
  simp only [puts, Act.put, qA, qB, qC, qD, qE, ↓reduceIte, Nat.reduceEqDiff]
  clear lx11 lx12
  have HG := Lib.hid (hg)
  clear hg
  replace BX4 := bG BX4 HG
  replace BX11 := bG BX11 HG
  replace BX12 := bG BX12 HG
  have r0 := Gr.refl vw2
  go_wp2
  refine hK.out _ _ ?_; clear hK K
  show Code.wp _ _ _ _ _
  clear r0
  refine forgetW (fun w2 => Bx w2 (w.heap.size + 1 + 1 + 1 + 1) 38 #[.int .u64 0, .string ⟨#[]⟩, .bool false, .int .u64 0, .string ⟨#[]⟩, .int .u64 0, .string ⟨#[]⟩, .bool false, .int .u64 0, .string ⟨#[]⟩] ∧ Bx w2 gx11 38 #[.int .u64 (lo fr1.num.natAbs), .string (bg fr1.num.natAbs), .bool (decide (fr1.num < 0)), .int .u64 (lo (fr1.den - 1)), .string (bg (fr1.den - 1)), .int .u64 (lo fr2.num.natAbs), .string (bg fr2.num.natAbs), .bool (decide (fr2.num < 0)), .int .u64 (lo (fr2.den - 1)), .string (bg (fr2.den - 1))] ∧ Bx w2 gx12 38 #[.int .u64 (lo to1.num.natAbs), .string (bg to1.num.natAbs), .bool (decide (to1.num < 0)), .int .u64 (lo (to1.den - 1)), .string (bg (to1.den - 1)), .int .u64 (lo to2.num.natAbs), .string (bg to2.num.natAbs), .bool (decide (to2.num < 0)), .int .u64 (lo (to2.den - 1)), .string (bg (to2.den - 1))] ∧ Below w.heap.size w w2) ⟨BX4.out, BX11.out, BX12.out, HB.out.trans (HG.out.mono HB.out.size)⟩ ?_
  clear HB HG BX4 BX11 BX12
  rintro Wx2 ⟨bx4, bx11, bx12, HB⟩
  replace HB := Lib.hid HB
  refine wp_cond_true (by rfl) ?_
  -- region 3
  have BX4 := Lib.hid bx4
  have BX11 := Lib.hid bx11
  have BX12 := Lib.hid bx12
  clear bx4 bx11 bx12
  refine wp_seq_k fun K hK => ?_
  replace hK := Lib.hid hK
  refine wp_region_seqplan 2 [(true, 0), (true, 1)] (by rfl) (by simp) (fun T hT => ?_)
  iterate 2
    refine wpPlan_takeL (v := ?_) rfl (by rfl) (fun w' hw => ?_) ?_
    rotate_left
    · go_simp
      with_reducible rfl
    simp only [Act.put, qA, qB, qC]
  refine wpPlan_nil (hT.out _ _ ?_); clear hT T
  intro vw3 hg
  simp only [puts, Act.put, qA, qB, qC, qD, qE, ↓reduceIte, Nat.reduceEqDiff]
  have HG := Lib.hid (hg)
  clear hg
  replace BX4 := bG BX4 HG
  replace BX11 := bG BX11 HG
  replace BX12 := bG BX12 HG
  have lx4 := BX4.out.cells; have fx4 := BX4.out.free
  have r0 := Gr.refl vw3
  go_wp2
  refine hK.out _ _ ?_; clear hK K
  show Code.wp _ _ _ _ _
  clear lx4 fx4
  clear r0
  refine forgetW (fun w2 => Bx w2 (w.heap.size + 1 + 1 + 1 + 1) 38 #[.int .u64 0, .string ⟨#[]⟩, .bool false, .int .u64 0, .string ⟨#[]⟩, .int .u64 0, .string ⟨#[]⟩, .bool false, .int .u64 0, .string ⟨#[]⟩] ∧ Bx w2 gx11 38 #[.int .u64 (lo fr1.num.natAbs), .string (bg fr1.num.natAbs), .bool (decide (fr1.num < 0)), .int .u64 (lo (fr1.den - 1)), .string (bg (fr1.den - 1)), .int .u64 (lo fr2.num.natAbs), .string (bg fr2.num.natAbs), .bool (decide (fr2.num < 0)), .int .u64 (lo (fr2.den - 1)), .string (bg (fr2.den - 1))] ∧ Below w.heap.size w w2) ⟨(((((((((((BX4.out).set 0 _).set 1 _).set 2 _).set 3 _).set 4 _).set 5 _).set 6 _).set 7 _).set 8 _).set 9 _).eq (by simp only [rA, rB, rC]), so10 (BX11.out) (by show gx11 ≠ w.heap.size + 1 + 1 + 1 + 1; omega), sc10 (HB.out.trans (HG.out.mono HB.out.size)) (by show w.heap.size ≤ w.heap.size + 1 + 1 + 1 + 1; omega)⟩ ?_
  clear HB HG BX4 BX11 BX12
  rintro Wx3 ⟨bx4, bx11, HB⟩
  replace HB := Lib.hid HB
  refine wp_ret ?_
  try simp only [Exit.then, Exit.inBlock]
  have lx4 := bx4.cells
  have r0 := Gr.refl Wx3
  exact bodyPost_ret (v := .tuple #[.int .i64 0, (.agg #[.int .u64 0, .string ⟨#[]⟩, .bool false, .int .u64 0, .string ⟨#[]⟩, .int .u64 0, .string ⟨#[]⟩, .bool false, .int .u64 0, .string ⟨#[]⟩])]) (by simp [results, Tryz.results56, go_sem, lx4 _ r0]) rfl ⟨rfl, HB.out⟩

set_option maxHeartbeats 4000000 in
theorem ppiece_one (a1 a2 b1 b2 c1 c2 d1 d2 la1 la2 lc1 lc2 fr1 fr2 ga1 ga2 gc1 gc2 to1 to2 : Rat) (r_la r_lc r_fr r_ga r_gc r_to : Bool) (w : World) (h_la : Hid (plt b1 b2 a1 a2 = r_la)) (h1_la : Hid ((if r_la then b1 else a1) = la1)) (h2_la : Hid ((if r_la then b2 else a2) = la2)) (h_lc : Hid (plt d1 d2 c1 c2 = r_lc)) (h1_lc : Hid ((if r_lc then d1 else c1) = lc1)) (h2_lc : Hid ((if r_lc then d2 else c2) = lc2)) (h_fr : Hid (plt la1 la2 lc1 lc2 = r_fr)) (h1_fr : Hid ((if r_fr then lc1 else la1) = fr1)) (h2_fr : Hid ((if r_fr then lc2 else la2) = fr2)) (h_ga : Hid (plt a1 a2 b1 b2 = r_ga)) (h1_ga : Hid ((if r_ga then b1 else a1) = ga1)) (h2_ga : Hid ((if r_ga then b2 else a2) = ga2)) (h_gc : Hid (plt c1 c2 d1 d2 = r_gc)) (h1_gc : Hid ((if r_gc then d1 else c1) = gc1)) (h2_gc : Hid ((if r_gc then d2 else c2) = gc2)) (h_to : Hid (plt gc1 gc2 ga1 ga2 = r_to)) (h1_to : Hid ((if r_to then gc1 else ga1) = to1)) (h2_to : Hid ((if r_to then gc2 else ga2) = to2)) (hl : Hid (plt to1 to2 fr1 fr2 = false)) (he : (decide (fr1 = to1) && decide (fr2 = to2)) = true) (hs_a1 : sz a1 ≤ 100000000) (hs_a2 : sz a2 ≤ 100000000) (hs_b1 : sz b1 ≤ 100000000) (hs_b2 : sz b2 ≤ 100000000) (hs_c1 : sz c1 ≤ 100000000) (hs_c2 : sz c2 ≤ 100000000) (hs_d1 : sz d1 ≤ 100000000) (hs_d2 : sz d2 ≤ 100000000) (hs_la1 : sz la1 ≤ 100000000) (hs_la2 : sz la2 ≤ 100000000) (hs_lc1 : sz lc1 ≤ 100000000) (hs_lc2 : sz lc2 ≤ 100000000) (hs_fr1 : sz fr1 ≤ 100000000) (hs_fr2 : sz fr2 ≤ 100000000) (hs_ga1 : sz ga1 ≤ 100000000) (hs_ga2 : sz ga2 ≤ 100000000) (hs_gc1 : sz gc1 ≤ 100000000) (hs_gc2 : sz gc2 ≤ 100000000) (hs_to1 : sz to1 ≤ 100000000) (hs_to2 : sz to2 ≤ 100000000) :
    Calls Tryz.prog 56 #[(Value.agg #[.int .u64 (lo a1.num.natAbs), .string (bg a1.num.natAbs), .bool (decide (a1.num < 0)), .int .u64 (lo (a1.den - 1)), .string (bg (a1.den - 1)), .int .u64 (lo a2.num.natAbs), .string (bg a2.num.natAbs), .bool (decide (a2.num < 0)), .int .u64 (lo (a2.den - 1)), .string (bg (a2.den - 1))]), (Value.agg #[.int .u64 (lo b1.num.natAbs), .string (bg b1.num.natAbs), .bool (decide (b1.num < 0)), .int .u64 (lo (b1.den - 1)), .string (bg (b1.den - 1)), .int .u64 (lo b2.num.natAbs), .string (bg b2.num.natAbs), .bool (decide (b2.num < 0)), .int .u64 (lo (b2.den - 1)), .string (bg (b2.den - 1))]), (Value.agg #[.int .u64 (lo c1.num.natAbs), .string (bg c1.num.natAbs), .bool (decide (c1.num < 0)), .int .u64 (lo (c1.den - 1)), .string (bg (c1.den - 1)), .int .u64 (lo c2.num.natAbs), .string (bg c2.num.natAbs), .bool (decide (c2.num < 0)), .int .u64 (lo (c2.den - 1)), .string (bg (c2.den - 1))]), (Value.agg #[.int .u64 (lo d1.num.natAbs), .string (bg d1.num.natAbs), .bool (decide (d1.num < 0)), .int .u64 (lo (d1.den - 1)), .string (bg (d1.den - 1)), .int .u64 (lo d2.num.natAbs), .string (bg d2.num.natAbs), .bool (decide (d2.num < 0)), .int .u64 (lo (d2.den - 1)), .string (bg (d2.den - 1))])] w fun e w' => e = .returned (.tuple #[.int .i64 1, (.agg #[.int .u64 (lo fr1.num.natAbs), .string (bg fr1.num.natAbs), .bool (decide (fr1.num < 0)), .int .u64 (lo (fr1.den - 1)), .string (bg (fr1.den - 1)), .int .u64 (lo fr2.num.natAbs), .string (bg fr2.num.natAbs), .bool (decide (fr2.num < 0)), .int .u64 (lo (fr2.den - 1)), .string (bg (fr2.den - 1))])]) ∧ Below w.heap.size w w' := by
  go_enter Tryz.func56, Tryz.ntmps56
  -- region 0
  refine wp_seq_k fun K hK => ?_
  replace hK := Lib.hid hK
  refine wp_region_lit ?_
  go_wp2
  refine hK.out _ _ ?_; clear hK K
  show Code.wp _ _ _ _ _
  refine forgetW (fun w2 => Bx w2 (w.heap.size) 38 #[.int .u64 (lo a1.num.natAbs), .string (bg a1.num.natAbs), .bool (decide (a1.num < 0)), .int .u64 (lo (a1.den - 1)), .string (bg (a1.den - 1)), .int .u64 (lo a2.num.natAbs), .string (bg a2.num.natAbs), .bool (decide (a2.num < 0)), .int .u64 (lo (a2.den - 1)), .string (bg (a2.den - 1))] ∧ Bx w2 (w.heap.size + 1) 38 #[.int .u64 (lo b1.num.natAbs), .string (bg b1.num.natAbs), .bool (decide (b1.num < 0)), .int .u64 (lo (b1.den - 1)), .string (bg (b1.den - 1)), .int .u64 (lo b2.num.natAbs), .string (bg b2.num.natAbs), .bool (decide (b2.num < 0)), .int .u64 (lo (b2.den - 1)), .string (bg (b2.den - 1))] ∧ Bx w2 (w.heap.size + 1 + 1) 38 #[.int .u64 (lo c1.num.natAbs), .string (bg c1.num.natAbs), .bool (decide (c1.num < 0)), .int .u64 (lo (c1.den - 1)), .string (bg (c1.den - 1)), .int .u64 (lo c2.num.natAbs), .string (bg c2.num.natAbs), .bool (decide (c2.num < 0)), .int .u64 (lo (c2.den - 1)), .string (bg (c2.den - 1))] ∧ Bx w2 (w.heap.size + 1 + 1 + 1) 38 #[.int .u64 (lo d1.num.natAbs), .string (bg d1.num.natAbs), .bool (decide (d1.num < 0)), .int .u64 (lo (d1.den - 1)), .string (bg (d1.den - 1)), .int .u64 (lo d2.num.natAbs), .string (bg d2.num.natAbs), .bool (decide (d2.num < 0)), .int .u64 (lo (d2.den - 1)), .string (bg (d2.den - 1))] ∧ Bx w2 (w.heap.size + 1 + 1 + 1 + 1) 38 #[.int .u64 0, .string ⟨#[]⟩, .bool false, .int .u64 0, .string ⟨#[]⟩, .int .u64 0, .string ⟨#[]⟩, .bool false, .int .u64 0, .string ⟨#[]⟩] ∧ Below w.heap.size w w2) ⟨((((Bx.at rfl).alloc _).alloc _).alloc _).alloc _, (((Bx.at (by simp)).alloc _).alloc _).alloc _, ((Bx.at (by simp)).alloc _).alloc _, (Bx.at (by simp)).alloc _, Bx.at (by simp), (((((Below.refl _ _).alloc (Nat.le_refl _) _).alloc (by simp) _).alloc (by simp; omega) _).alloc (by simp; omega) _).alloc (by simp; omega) _⟩ ?_
  rintro Wx ⟨bx0, bx1, bx2, bx3, bx4, HB⟩
  replace HB := Lib.hid HB
  -- region 1
  have lx0 := bx0.cells
  have lx1 := bx1.cells
  have lx2 := bx2.cells
  have lx3 := bx3.cells
  have BX0 := Lib.hid bx0
  have BX1 := Lib.hid bx1
  have BX2 := Lib.hid bx2
  have BX3 := Lib.hid bx3
  have BX4 := Lib.hid bx4
  clear bx0 bx1 bx2 bx3 bx4
  refine wp_seq_k fun K hK => ?_
  replace hK := Lib.hid hK
  have HS0 := Lib.hid (HB.out.size)
  have MX0 : w.heap.size < Wx.heap.size := BX0.out.lt
  have MX1 : w.heap.size + 1 < Wx.heap.size := BX1.out.lt
  have MX2 : w.heap.size + 1 + 1 < Wx.heap.size := BX2.out.lt
  have MX3 : w.heap.size + 1 + 1 + 1 < Wx.heap.size := BX3.out.lt
  have MX4 : w.heap.size + 1 + 1 + 1 + 1 < Wx.heap.size := BX4.out.lt
  refine wp_region_early 22 [20, 21] [] (fun i => if i = 20 then 10 else 11) (fun i => if i = 20 then .cells #[.int .u64 0, .string ⟨#[]⟩, .bool false, .int .u64 0, .string ⟨#[]⟩, .int .u64 0, .string ⟨#[]⟩, .bool false, .int .u64 0, .string ⟨#[]⟩] 38 else .cells #[.int .u64 0, .string ⟨#[]⟩, .bool false, .int .u64 0, .string ⟨#[]⟩, .int .u64 0, .string ⟨#[]⟩, .bool false, .int .u64 0, .string ⟨#[]⟩] 38) (fun i => if i = 2 then (1, #[.int .u64 (lo b1.num.natAbs), .string (bg b1.num.natAbs), .bool (decide (b1.num < 0)), .int .u64 (lo (b1.den - 1)), .string (bg (b1.den - 1)), .int .u64 (lo b2.num.natAbs), .string (bg b2.num.natAbs), .bool (decide (b2.num < 0)), .int .u64 (lo (b2.den - 1)), .string (bg (b2.den - 1))], 38) else if i = 6 then (1, #[.int .u64 (lo d1.num.natAbs), .string (bg d1.num.natAbs), .bool (decide (d1.num < 0)), .int .u64 (lo (d1.den - 1)), .string (bg (d1.den - 1)), .int .u64 (lo d2.num.natAbs), .string (bg d2.num.natAbs), .bool (decide (d2.num < 0)), .int .u64 (lo (d2.den - 1)), .string (bg (d2.den - 1))], 38) else if i = 8 then (1, #[.int .u64 (lo lc1.num.natAbs), .string (bg lc1.num.natAbs), .bool (decide (lc1.num < 0)), .int .u64 (lo (lc1.den - 1)), .string (bg (lc1.den - 1)), .int .u64 (lo lc2.num.natAbs), .string (bg lc2.num.natAbs), .bool (decide (lc2.num < 0)), .int .u64 (lo (lc2.den - 1)), .string (bg (lc2.den - 1))], 38) else if i = 12 then (1, #[.int .u64 (lo b1.num.natAbs), .string (bg b1.num.natAbs), .bool (decide (b1.num < 0)), .int .u64 (lo (b1.den - 1)), .string (bg (b1.den - 1)), .int .u64 (lo b2.num.natAbs), .string (bg b2.num.natAbs), .bool (decide (b2.num < 0)), .int .u64 (lo (b2.den - 1)), .string (bg (b2.den - 1))], 38) else if i = 16 then (1, #[.int .u64 (lo d1.num.natAbs), .string (bg d1.num.natAbs), .bool (decide (d1.num < 0)), .int .u64 (lo (d1.den - 1)), .string (bg (d1.den - 1)), .int .u64 (lo d2.num.natAbs), .string (bg d2.num.natAbs), .bool (decide (d2.num < 0)), .int .u64 (lo (d2.den - 1)), .string (bg (d2.den - 1))], 38) else (1, #[.int .u64 (lo gc1.num.natAbs), .string (bg gc1.num.natAbs), .bool (decide (gc1.num < 0)), .int .u64 (lo (gc1.den - 1)), .string (bg (gc1.den - 1)), .int .u64 (lo gc2.num.natAbs), .string (bg gc2.num.natAbs), .bool (decide (gc2.num < 0)), .int .u64 (lo (gc2.den - 1)), .string (bg (gc2.den - 1))], 38)) [(0, 0), (0, 1), (1, 2), (0, 4), (0, 5), (1, 6), (0, 10), (0, 11), (1, 12), (0, 14), (0, 15), (1, 16), (2, 2), (0, 3), (2, 6), (0, 7), (1, 8), (2, 8), (0, 9), (2, 12), (0, 13), (2, 16), (0, 17), (1, 18), (2, 18), (0, 19)] (by kernel_rfl) (by kernel_rfl) (by intro i hi; simp only [List.mem_cons, List.not_mem_nil, or_false] at hi; rcases hi with rfl | rfl <;> exact ⟨_, rfl, rfl, rfl, by simp, fun ρ w => by kernel_rfl⟩) (fun i hi => by cases hi) (fun _ _ _ _ _ h => h) (fun T hT => ?_)
  iterate 2
    refine wpEarly_takeL (v := ?_) rfl (by rfl) (fun w' hw => ?_) ?_
    rotate_left
    · go_simp
      with_reducible rfl
    simp only [Act.put, qA, qB, qC]
  refine wpEarly_mk rfl (by rfl) (fun w' => ?_) ?_
  · go_simp
  iterate 2
    refine wpEarly_takeL (v := ?_) rfl (by rfl) (fun w' hw => ?_) ?_
    rotate_left
    · go_simp
      with_reducible rfl
    simp only [Act.put, qA, qB, qC]
  refine wpEarly_mk rfl (by rfl) (fun w' => ?_) ?_
  · go_simp
  iterate 2
    refine wpEarly_takeL (v := ?_) rfl (by rfl) (fun w' hw => ?_) ?_
    rotate_left
    · go_simp
      with_reducible rfl
    simp only [Act.put, qA, qB, qC]
  refine wpEarly_mk rfl (by rfl) (fun w' => ?_) ?_
  · go_simp
  iterate 2
    refine wpEarly_takeL (v := ?_) rfl (by rfl) (fun w' hw => ?_) ?_
    rotate_left
    · go_simp
      with_reducible rfl
    simp only [Act.put, qA, qB, qC]
  refine wpEarly_mk rfl (by rfl) (fun w' => ?_) ?_
  · go_simp
  refine wpEarly_use rfl (by rfl) (fun gx5 vv1 hg0 yx5 bx5 => ?_)
  have HG0 := Lib.hid hg0; clear hg0
  replace yx5 : w.heap.size ≤ gx5 := by first | exact Nat.le_trans HS0.out yx5 | exact Nat.le_trans HB.out.size yx5
  have BX5 := Lib.hid bx5; clear bx5
  replace BX0 := bG BX0 HG0
  replace BX1 := bG BX1 HG0
  replace BX2 := bG BX2 HG0
  replace BX3 := bG BX3 HG0
  replace BX4 := bG BX4 HG0
  replace HB := Lib.hid (HB.out.trans (HG0.out.mono HB.out.size))
  clear HG0
  clear lx0; have lx0 := BX0.out.cells
  clear lx1; have lx1 := BX1.out.cells
  clear lx2; have lx2 := BX2.out.cells
  clear lx3; have lx3 := BX3.out.cells
  simp only [Act.put, qA, qB, qC]
  refine wpEarly_callL rfl (by rfl) Tryz.call22 (fun w' hw => pleast_any (a1) (a2) (b1) (b2) la1 la2 (gx5) _ (BX5.out.gr hw) (r_la) (h_la.out) (h1_la.out) (h2_la.out) (by omega) (by omega) (by omega) (by omega)) (by rfl) ?_
  simp only [Act.put, qA, qB, qC]
  refine wpEarly_use rfl (by rfl) (fun gx6 vv2 hg0 yx6 bx6 => ?_)
  have HG0 := Lib.hid hg0; clear hg0
  replace yx6 : w.heap.size ≤ gx6 := by first | exact Nat.le_trans HS0.out yx6 | exact Nat.le_trans HB.out.size yx6
  have BX6 := Lib.hid bx6; clear bx6
  replace BX0 := bG BX0 HG0
  replace BX1 := bG BX1 HG0
  replace BX2 := bG BX2 HG0
  replace BX3 := bG BX3 HG0
  replace BX4 := bG BX4 HG0
  replace BX5 := bG BX5 HG0
  replace HB := Lib.hid (HB.out.trans (HG0.out.mono HB.out.size))
  clear HG0
  clear lx0; have lx0 := BX0.out.cells
  clear lx1; have lx1 := BX1.out.cells
  clear lx2; have lx2 := BX2.out.cells
  clear lx3; have lx3 := BX3.out.cells
  simp only [Act.put, qA, qB, qC]
  refine wpEarly_callL rfl (by rfl) Tryz.call22 (fun w' hw => pleast_any (c1) (c2) (d1) (d2) lc1 lc2 (gx6) _ (BX6.out.gr hw) (r_lc) (h_lc.out) (h1_lc.out) (h2_lc.out) (by omega) (by omega) (by omega) (by omega)) (by rfl) ?_
  simp only [Act.put, qA, qB, qC]
  refine wpEarly_mk rfl (by rfl) (fun w' => ?_) ?_
  · go_simp
  refine wpEarly_use rfl (by rfl) (fun gx9 vv3 hg0 yx9 bx9 => ?_)
  have HG0 := Lib.hid hg0; clear hg0
  replace yx9 : w.heap.size ≤ gx9 := by first | exact Nat.le_trans HS0.out yx9 | exact Nat.le_trans HB.out.size yx9
  have BX9 := Lib.hid bx9; clear bx9
  replace BX0 := bG BX0 HG0
  replace BX1 := bG BX1 HG0
  replace BX2 := bG BX2 HG0
  replace BX3 := bG BX3 HG0
  replace BX4 := bG BX4 HG0
  replace BX5 := bG BX5 HG0
  replace BX6 := bG BX6 HG0
  replace HB := Lib.hid (HB.out.trans (HG0.out.mono HB.out.size))
  clear HG0
  clear lx0; have lx0 := BX0.out.cells
  clear lx1; have lx1 := BX1.out.cells
  clear lx2; have lx2 := BX2.out.cells
  clear lx3; have lx3 := BX3.out.cells
  simp only [Act.put, qA, qB, qC]
  refine wpEarly_callL rfl (by rfl) Tryz.call23 (fun w' hw => pgreatest_any (la1) (la2) (lc1) (lc2) fr1 fr2 (gx9) _ (BX9.out.gr hw) (r_fr) (h_fr.out) (h1_fr.out) (h2_fr.out) (by omega) (by omega) (by omega) (by omega)) (by rfl) ?_
  simp only [Act.put, qA, qB, qC]
  refine wpEarly_use rfl (by rfl) (fun gx7 vv4 hg0 yx7 bx7 => ?_)
  have HG0 := Lib.hid hg0; clear hg0
  replace yx7 : w.heap.size ≤ gx7 := by first | exact Nat.le_trans HS0.out yx7 | exact Nat.le_trans HB.out.size yx7
  have BX7 := Lib.hid bx7; clear bx7
  replace BX0 := bG BX0 HG0
  replace BX1 := bG BX1 HG0
  replace BX2 := bG BX2 HG0
  replace BX3 := bG BX3 HG0
  replace BX4 := bG BX4 HG0
  replace BX5 := bG BX5 HG0
  replace BX6 := bG BX6 HG0
  replace BX9 := bG BX9 HG0
  replace HB := Lib.hid (HB.out.trans (HG0.out.mono HB.out.size))
  clear HG0
  clear lx0; have lx0 := BX0.out.cells
  clear lx1; have lx1 := BX1.out.cells
  clear lx2; have lx2 := BX2.out.cells
  clear lx3; have lx3 := BX3.out.cells
  simp only [Act.put, qA, qB, qC]
  refine wpEarly_callL rfl (by rfl) Tryz.call23 (fun w' hw => pgreatest_any (a1) (a2) (b1) (b2) ga1 ga2 (gx7) _ (BX7.out.gr hw) (r_ga) (h_ga.out) (h1_ga.out) (h2_ga.out) (by omega) (by omega) (by omega) (by omega)) (by rfl) ?_
  simp only [Act.put, qA, qB, qC]
  refine wpEarly_use rfl (by rfl) (fun gx8 vv5 hg0 yx8 bx8 => ?_)
  have HG0 := Lib.hid hg0; clear hg0
  replace yx8 : w.heap.size ≤ gx8 := by first | exact Nat.le_trans HS0.out yx8 | exact Nat.le_trans HB.out.size yx8
  have BX8 := Lib.hid bx8; clear bx8
  replace BX0 := bG BX0 HG0
  replace BX1 := bG BX1 HG0
  replace BX2 := bG BX2 HG0
  replace BX3 := bG BX3 HG0
  replace BX4 := bG BX4 HG0
  replace BX5 := bG BX5 HG0
  replace BX6 := bG BX6 HG0
  replace BX9 := bG BX9 HG0
  replace BX7 := bG BX7 HG0
  replace HB := Lib.hid (HB.out.trans (HG0.out.mono HB.out.size))
  clear HG0
  clear lx0; have lx0 := BX0.out.cells
  clear lx1; have lx1 := BX1.out.cells
  clear lx2; have lx2 := BX2.out.cells
  clear lx3; have lx3 := BX3.out.cells
  simp only [Act.put, qA, qB, qC]
  refine wpEarly_callL rfl (by rfl) Tryz.call23 (fun w' hw => pgreatest_any (c1) (c2) (d1) (d2) gc1 gc2 (gx8) _ (BX8.out.gr hw) (r_gc) (h_gc.out) (h1_gc.out) (h2_gc.out) (by omega) (by omega) (by omega) (by omega)) (by rfl) ?_
  simp only [Act.put, qA, qB, qC]
  refine wpEarly_mk rfl (by rfl) (fun w' => ?_) ?_
  · go_simp
  refine wpEarly_use rfl (by rfl) (fun gx10 vv6 hg0 yx10 bx10 => ?_)
  have HG0 := Lib.hid hg0; clear hg0
  replace yx10 : w.heap.size ≤ gx10 := by first | exact Nat.le_trans HS0.out yx10 | exact Nat.le_trans HB.out.size yx10
  have BX10 := Lib.hid bx10; clear bx10
  replace BX0 := bG BX0 HG0
  replace BX1 := bG BX1 HG0
  replace BX2 := bG BX2 HG0
  replace BX3 := bG BX3 HG0
  replace BX4 := bG BX4 HG0
  replace BX5 := bG BX5 HG0
  replace BX6 := bG BX6 HG0
  replace BX9 := bG BX9 HG0
  replace BX7 := bG BX7 HG0
  replace BX8 := bG BX8 HG0
  replace HB := Lib.hid (HB.out.trans (HG0.out.mono HB.out.size))
  clear HG0
  clear lx0; have lx0 := BX0.out.cells
  clear lx1; have lx1 := BX1.out.cells
  clear lx2; have lx2 := BX2.out.cells
  clear lx3; have lx3 := BX3.out.cells
  simp only [Act.put, qA, qB, qC]
  refine wpEarly_callL rfl (by rfl) Tryz.call22 (fun w' hw => pleast_any (ga1) (ga2) (gc1) (gc2) to1 to2 (gx10) _ (BX10.out.gr hw) (r_to) (h_to.out) (h1_to.out) (h2_to.out) (by omega) (by omega) (by omega) (by omega)) (by rfl) ?_
  simp only [Act.put, qA, qB, qC]
  refine wpEarly_nil (hT.out _ _ ?_); clear hT T
  intro G vw1 hg hf
  simp only [puts, Act.put, qA, qB, qC, qD, qE, ↓reduceIte, Nat.reduceEqDiff]
  clear lx0 lx1 lx2 lx3
  clear BX5
  clear BX6
  clear BX9
  clear BX7
  clear BX8
  clear BX10
  have HG := Lib.hid (hg)
  clear hg
  have bx11 := Bx.of_fresh hf (i := 20) (by decide) rfl
  have yx11 := (hf.1 20 (by decide)).1
  have bx12 := Bx.of_fresh hf (i := 21) (by decide) rfl
  have yx12 := (hf.1 21 (by decide)).1
  have dx11_12 : G 20 ≠ G 21 := fun e => absurd (hf.2 20 (by decide) 21 (by decide) e) (by decide)
  clear hf
  generalize G 20 = gx11 at *
  generalize G 21 = gx12 at *
  have qx0_11 : w.heap.size < gx11 := Nat.lt_of_lt_of_le MX0 yx11
  have qx0_12 : w.heap.size < gx12 := Nat.lt_of_lt_of_le MX0 yx12
  have qx1_11 : w.heap.size + 1 < gx11 := Nat.lt_of_lt_of_le MX1 yx11
  have qx1_12 : w.heap.size + 1 < gx12 := Nat.lt_of_lt_of_le MX1 yx12
  have qx2_11 : w.heap.size + 1 + 1 < gx11 := Nat.lt_of_lt_of_le MX2 yx11
  have qx2_12 : w.heap.size + 1 + 1 < gx12 := Nat.lt_of_lt_of_le MX2 yx12
  have qx3_11 : w.heap.size + 1 + 1 + 1 < gx11 := Nat.lt_of_lt_of_le MX3 yx11
  have qx3_12 : w.heap.size + 1 + 1 + 1 < gx12 := Nat.lt_of_lt_of_le MX3 yx12
  have qx4_11 : w.heap.size + 1 + 1 + 1 + 1 < gx11 := Nat.lt_of_lt_of_le MX4 yx11
  have qx4_12 : w.heap.size + 1 + 1 + 1 + 1 < gx12 := Nat.lt_of_lt_of_le MX4 yx12
  replace yx11 : w.heap.size ≤ gx11 := Nat.le_trans HS0.out yx11
  replace yx12 : w.heap.size ≤ gx12 := Nat.le_trans HS0.out yx12
  replace BX0 := bG BX0 HG
  replace BX1 := bG BX1 HG
  replace BX2 := bG BX2 HG
  replace BX3 := bG BX3 HG
  replace BX4 := bG BX4 HG
  have lx11 := bx11.cells; have fx11 := bx11.free
  have lx12 := bx12.cells; have fx12 := bx12.free
  have r0 := Gr.refl vw1
  have BX11 := Lib.hid bx11; clear bx11
  have BX12 := Lib.hid bx12; clear bx12
  go_wp2
  refine hK.out _ _ ?_; clear hK K
  show Code.wp _ _ _ _ _
  clear lx11 fx11
  clear lx12 fx12
  clear r0
  refine forgetW (fun w2 => Bx w2 (w.heap.size + 1 + 1 + 1 + 1) 38 #[.int .u64 0, .string ⟨#[]⟩, .bool false, .int .u64 0, .string ⟨#[]⟩, .int .u64 0, .string ⟨#[]⟩, .bool false, .int .u64 0, .string ⟨#[]⟩] ∧ Bx w2 gx11 38 #[.int .u64 (lo fr1.num.natAbs), .string (bg fr1.num.natAbs), .bool (decide (fr1.num < 0)), .int .u64 (lo (fr1.den - 1)), .string (bg (fr1.den - 1)), .int .u64 (lo fr2.num.natAbs), .string (bg fr2.num.natAbs), .bool (decide (fr2.num < 0)), .int .u64 (lo (fr2.den - 1)), .string (bg (fr2.den - 1))] ∧ Bx w2 gx12 38 #[.int .u64 (lo to1.num.natAbs), .string (bg to1.num.natAbs), .bool (decide (to1.num < 0)), .int .u64 (lo (to1.den - 1)), .string (bg (to1.den - 1)), .int .u64 (lo to2.num.natAbs), .string (bg to2.num.natAbs), .bool (decide (to2.num < 0)), .int .u64 (lo (to2.den - 1)), .string (bg (to2.den - 1))] ∧ Below w.heap.size w w2) ⟨so10 (so10 (BX4.out) (by show w.heap.size + 1 + 1 + 1 + 1 ≠ gx11; omega)) (by show w.heap.size + 1 + 1 + 1 + 1 ≠ gx12; omega), (so10 (((((((((((BX11.out).set 0 _).set 1 _).set 2 _).set 3 _).set 4 _).set 5 _).set 6 _).set 7 _).set 8 _).set 9 _) (by show gx11 ≠ gx12; omega)).eq (by simp only [rA, rB, rC]), (((((((((((so10 (BX12.out) (by show gx12 ≠ gx11; omega)).set 0 _).set 1 _).set 2 _).set 3 _).set 4 _).set 5 _).set 6 _).set 7 _).set 8 _).set 9 _).eq (by simp only [rA, rB, rC]), sc10 (sc10 (HB.out.trans (HG.out.mono HB.out.size)) (by show w.heap.size ≤ gx11; omega)) (by show w.heap.size ≤ gx12; omega)⟩ ?_
  clear HB HG BX0 BX1 BX2 BX3 BX4 BX11 BX12
  rintro Wx1 ⟨bx4, bx11, bx12, HB⟩
  replace HB := Lib.hid HB
  refine wp_seq ?_
  refine wp_block ?_
  -- region 2
  have lx11 := bx11.cells
  have lx12 := bx12.cells
  have BX4 := Lib.hid bx4
  have BX11 := Lib.hid bx11
  have BX12 := Lib.hid bx12
  clear bx4 bx11 bx12
  refine wp_seq_k fun K hK => ?_
  replace hK := Lib.hid hK
  refine wp_region_seqplan 4 [(true, 0), (true, 1), (true, 2), (true, 3)] (by rfl) (by simp) (fun T hT => ?_)
  iterate 2
    refine wpPlan_takeL (v := ?_) rfl (by rfl) (fun w' hw => ?_) ?_
    rotate_left
    · go_simp
      with_reducible rfl
    simp only [Act.put, qA, qB, qC]
  refine wpPlan_callL rfl (by rfl) Tryz.call21 (fun w' hw => pless_any (to1) (to2) (fr1) (fr2) false _ (hl.out) (by omega) (by omega) (by omega) (by omega)) (by rfl) ?_
  simp only [Act.put, qA, qB, qC]
  iterate 1
    refine wpPlan_takeL (v := ?_) rfl (by rfl) (fun w' hw => ?_) ?_
    rotate_left
    · go_simp
      with_reducible rfl
    simp only [Act.put, qA, qB, qC]
  refine wpPlan_nil (hT.out _ _ ?_); clear hT T
  intro vw2 hg
  simp only [puts, Act.put, qA, qB, qC, qD, qE, ↓reduceIte, Nat.reduceEqDiff]
  clear lx11 lx12
  have HG := Lib.hid (hg)
  clear hg
  replace BX4 := bG BX4 HG
  replace BX11 := bG BX11 HG
  replace BX12 := bG BX12 HG
  have r0 := Gr.refl vw2
  go_wp2
  refine hK.out _ _ ?_; clear hK K
  show Code.wp _ _ _ _ _
  clear r0
  refine forgetW (fun w2 => Bx w2 (w.heap.size + 1 + 1 + 1 + 1) 38 #[.int .u64 0, .string ⟨#[]⟩, .bool false, .int .u64 0, .string ⟨#[]⟩, .int .u64 0, .string ⟨#[]⟩, .bool false, .int .u64 0, .string ⟨#[]⟩] ∧ Bx w2 gx11 38 #[.int .u64 (lo fr1.num.natAbs), .string (bg fr1.num.natAbs), .bool (decide (fr1.num < 0)), .int .u64 (lo (fr1.den - 1)), .string (bg (fr1.den - 1)), .int .u64 (lo fr2.num.natAbs), .string (bg fr2.num.natAbs), .bool (decide (fr2.num < 0)), .int .u64 (lo (fr2.den - 1)), .string (bg (fr2.den - 1))] ∧ Bx w2 gx12 38 #[.int .u64 (lo to1.num.natAbs), .string (bg to1.num.natAbs), .bool (decide (to1.num < 0)), .int .u64 (lo (to1.den - 1)), .string (bg (to1.den - 1)), .int .u64 (lo to2.num.natAbs), .string (bg to2.num.natAbs), .bool (decide (to2.num < 0)), .int .u64 (lo (to2.den - 1)), .string (bg (to2.den - 1))] ∧ Below w.heap.size w w2) ⟨BX4.out, BX11.out, BX12.out, HB.out.trans (HG.out.mono HB.out.size)⟩ ?_
  clear HB HG BX4 BX11 BX12
  rintro Wx2 ⟨bx4, bx11, bx12, HB⟩
  replace HB := Lib.hid HB
  refine wp_cond_false (by rfl) ?_
  -- region 4
  have lx11 := bx11.cells
  have lx12 := bx12.cells
  have BX4 := Lib.hid bx4
  have BX11 := Lib.hid bx11
  have BX12 := Lib.hid bx12
  clear bx4 bx11 bx12
  refine wp_seq_k fun K hK => ?_
  replace hK := Lib.hid hK
  refine wp_region_seqplan 4 [(true, 0), (true, 1), (true, 2), (true, 3)] (by rfl) (by simp) (fun T hT => ?_)
  iterate 4
    refine wpPlan_takeL (v := ?_) rfl (by rfl) (fun w' hw => ?_) ?_
    rotate_left
    · go_simp
      with_reducible rfl
    simp only [Act.put, qA, qB, qC]
  refine wpPlan_nil (hT.out _ _ ?_); clear hT T
  intro vw3 hg
  simp only [puts, Act.put, qA, qB, qC, qD, qE, ↓reduceIte, Nat.reduceEqDiff]
  clear lx11 lx12
  have HG := Lib.hid (hg)
  clear hg
  replace BX4 := bG BX4 HG
  replace BX11 := bG BX11 HG
  replace BX12 := bG BX12 HG
  have r0 := Gr.refl vw3
  go_wp2
  refine hK.out _ _ ?_; clear hK K
  show Code.wp _ _ _ _ _
  clear r0
  refine forgetW (fun w2 => Bx w2 (w.heap.size + 1 + 1 + 1 + 1) 38 #[.int .u64 0, .string ⟨#[]⟩, .bool false, .int .u64 0, .string ⟨#[]⟩, .int .u64 0, .string ⟨#[]⟩, .bool false, .int .u64 0, .string ⟨#[]⟩] ∧ Bx w2 gx11 38 #[.int .u64 (lo fr1.num.natAbs), .string (bg fr1.num.natAbs), .bool (decide (fr1.num < 0)), .int .u64 (lo (fr1.den - 1)), .string (bg (fr1.den - 1)), .int .u64 (lo fr2.num.natAbs), .string (bg fr2.num.natAbs), .bool (decide (fr2.num < 0)), .int .u64 (lo (fr2.den - 1)), .string (bg (fr2.den - 1))] ∧ Below w.heap.size w w2) ⟨BX4.out, BX11.out, HB.out.trans (HG.out.mono HB.out.size)⟩ ?_
  clear HB HG BX4 BX11 BX12
  rintro Wx4 ⟨bx4, bx11, HB⟩
  replace HB := Lib.hid HB
  refine wp_cond_true (by rfl) ?_
  -- region 5
  have lx11 := bx11.cells
  have BX4 := Lib.hid bx4
  have BX11 := Lib.hid bx11
  clear bx4 bx11
  refine wp_seq_k fun K hK => ?_
  replace hK := Lib.hid hK
  refine wp_region_plan 2 [] [] (fun _ => 0) (fun _ => .cells #[] 0) [(true, 0), (true, 1)] (by kernel_rfl) (by kernel_rfl) (fun i hi => by cases hi) (fun i hi => by cases hi) (fun _ _ _ _ _ h => h) (fun T hT => ?_)
  iterate 2
    refine wpPlan_takeL (v := ?_) rfl (by rfl) (fun w' hw => ?_) ?_
    rotate_left
    · go_simp
      with_reducible rfl
    simp only [Act.put, qA, qB, qC]
  refine wpPlan_nil (hT.out _ _ ?_); clear hT T
  intro G vw4 hg hf
  simp only [puts, Act.put, qA, qB, qC, qD, qE, ↓reduceIte, Nat.reduceEqDiff]
  clear lx11
  have HG := Lib.hid (hg)
  clear hg
  replace BX4 := bG BX4 HG
  replace BX11 := bG BX11 HG
  have lx4 := BX4.out.cells; have fx4 := BX4.out.free
  have r0 := Gr.refl vw4
  go_wp2
  refine hK.out _ _ ?_; clear hK K
  show Code.wp _ _ _ _ _
  clear lx4 fx4
  clear r0
  refine forgetW (fun w2 => Bx w2 (w.heap.size + 1 + 1 + 1 + 1) 38 #[.int .u64 (lo fr1.num.natAbs), .string (bg fr1.num.natAbs), .bool (decide (fr1.num < 0)), .int .u64 (lo (fr1.den - 1)), .string (bg (fr1.den - 1)), .int .u64 (lo fr2.num.natAbs), .string (bg fr2.num.natAbs), .bool (decide (fr2.num < 0)), .int .u64 (lo (fr2.den - 1)), .string (bg (fr2.den - 1))] ∧ Bx w2 gx11 38 #[.int .u64 (lo fr1.num.natAbs), .string (bg fr1.num.natAbs), .bool (decide (fr1.num < 0)), .int .u64 (lo (fr1.den - 1)), .string (bg (fr1.den - 1)), .int .u64 (lo fr2.num.natAbs), .string (bg fr2.num.natAbs), .bool (decide (fr2.num < 0)), .int .u64 (lo (fr2.den - 1)), .string (bg (fr2.den - 1))] ∧ Below w.heap.size w w2) ⟨(((((((((((BX4.out).set 0 _).set 1 _).set 2 _).set 3 _).set 4 _).set 5 _).set 6 _).set 7 _).set 8 _).set 9 _).eq (by simp only [rA, rB, rC]), so10 (BX11.out) (by show gx11 ≠ w.heap.size + 1 + 1 + 1 + 1; omega), sc10 (HB.out.trans (HG.out.mono HB.out.size)) (by show w.heap.size ≤ w.heap.size + 1 + 1 + 1 + 1; omega)⟩ ?_
  clear HB HG BX4 BX11
  rintro Wx5 ⟨bx4, bx11, HB⟩
  replace HB := Lib.hid HB
  refine wp_ret ?_
  try simp only [Exit.then, Exit.inBlock]
  have lx4 := bx4.cells
  have r0 := Gr.refl Wx5
  exact bodyPost_ret (v := .tuple #[.int .i64 1, (.agg #[.int .u64 (lo fr1.num.natAbs), .string (bg fr1.num.natAbs), .bool (decide (fr1.num < 0)), .int .u64 (lo (fr1.den - 1)), .string (bg (fr1.den - 1)), .int .u64 (lo fr2.num.natAbs), .string (bg fr2.num.natAbs), .bool (decide (fr2.num < 0)), .int .u64 (lo (fr2.den - 1)), .string (bg (fr2.den - 1))])]) (by simp [results, Tryz.results56, go_sem, lx4 _ r0]) rfl ⟨rfl, HB.out⟩

set_option maxHeartbeats 4000000 in
theorem ppiece_two (a1 a2 b1 b2 c1 c2 d1 d2 la1 la2 lc1 lc2 fr1 fr2 ga1 ga2 gc1 gc2 to1 to2 : Rat) (r_la r_lc r_fr r_ga r_gc r_to : Bool) (w : World) (h_la : Hid (plt b1 b2 a1 a2 = r_la)) (h1_la : Hid ((if r_la then b1 else a1) = la1)) (h2_la : Hid ((if r_la then b2 else a2) = la2)) (h_lc : Hid (plt d1 d2 c1 c2 = r_lc)) (h1_lc : Hid ((if r_lc then d1 else c1) = lc1)) (h2_lc : Hid ((if r_lc then d2 else c2) = lc2)) (h_fr : Hid (plt la1 la2 lc1 lc2 = r_fr)) (h1_fr : Hid ((if r_fr then lc1 else la1) = fr1)) (h2_fr : Hid ((if r_fr then lc2 else la2) = fr2)) (h_ga : Hid (plt a1 a2 b1 b2 = r_ga)) (h1_ga : Hid ((if r_ga then b1 else a1) = ga1)) (h2_ga : Hid ((if r_ga then b2 else a2) = ga2)) (h_gc : Hid (plt c1 c2 d1 d2 = r_gc)) (h1_gc : Hid ((if r_gc then d1 else c1) = gc1)) (h2_gc : Hid ((if r_gc then d2 else c2) = gc2)) (h_to : Hid (plt gc1 gc2 ga1 ga2 = r_to)) (h1_to : Hid ((if r_to then gc1 else ga1) = to1)) (h2_to : Hid ((if r_to then gc2 else ga2) = to2)) (hl : Hid (plt to1 to2 fr1 fr2 = false)) (he : (decide (fr1 = to1) && decide (fr2 = to2)) = false) (hs_a1 : sz a1 ≤ 100000000) (hs_a2 : sz a2 ≤ 100000000) (hs_b1 : sz b1 ≤ 100000000) (hs_b2 : sz b2 ≤ 100000000) (hs_c1 : sz c1 ≤ 100000000) (hs_c2 : sz c2 ≤ 100000000) (hs_d1 : sz d1 ≤ 100000000) (hs_d2 : sz d2 ≤ 100000000) (hs_la1 : sz la1 ≤ 100000000) (hs_la2 : sz la2 ≤ 100000000) (hs_lc1 : sz lc1 ≤ 100000000) (hs_lc2 : sz lc2 ≤ 100000000) (hs_fr1 : sz fr1 ≤ 100000000) (hs_fr2 : sz fr2 ≤ 100000000) (hs_ga1 : sz ga1 ≤ 100000000) (hs_ga2 : sz ga2 ≤ 100000000) (hs_gc1 : sz gc1 ≤ 100000000) (hs_gc2 : sz gc2 ≤ 100000000) (hs_to1 : sz to1 ≤ 100000000) (hs_to2 : sz to2 ≤ 100000000) :
    Calls Tryz.prog 56 #[(Value.agg #[.int .u64 (lo a1.num.natAbs), .string (bg a1.num.natAbs), .bool (decide (a1.num < 0)), .int .u64 (lo (a1.den - 1)), .string (bg (a1.den - 1)), .int .u64 (lo a2.num.natAbs), .string (bg a2.num.natAbs), .bool (decide (a2.num < 0)), .int .u64 (lo (a2.den - 1)), .string (bg (a2.den - 1))]), (Value.agg #[.int .u64 (lo b1.num.natAbs), .string (bg b1.num.natAbs), .bool (decide (b1.num < 0)), .int .u64 (lo (b1.den - 1)), .string (bg (b1.den - 1)), .int .u64 (lo b2.num.natAbs), .string (bg b2.num.natAbs), .bool (decide (b2.num < 0)), .int .u64 (lo (b2.den - 1)), .string (bg (b2.den - 1))]), (Value.agg #[.int .u64 (lo c1.num.natAbs), .string (bg c1.num.natAbs), .bool (decide (c1.num < 0)), .int .u64 (lo (c1.den - 1)), .string (bg (c1.den - 1)), .int .u64 (lo c2.num.natAbs), .string (bg c2.num.natAbs), .bool (decide (c2.num < 0)), .int .u64 (lo (c2.den - 1)), .string (bg (c2.den - 1))]), (Value.agg #[.int .u64 (lo d1.num.natAbs), .string (bg d1.num.natAbs), .bool (decide (d1.num < 0)), .int .u64 (lo (d1.den - 1)), .string (bg (d1.den - 1)), .int .u64 (lo d2.num.natAbs), .string (bg d2.num.natAbs), .bool (decide (d2.num < 0)), .int .u64 (lo (d2.den - 1)), .string (bg (d2.den - 1))])] w fun e w' => e = .returned (.tuple #[.int .i64 2, (.agg #[.int .u64 (lo fr1.num.natAbs), .string (bg fr1.num.natAbs), .bool (decide (fr1.num < 0)), .int .u64 (lo (fr1.den - 1)), .string (bg (fr1.den - 1)), .int .u64 (lo fr2.num.natAbs), .string (bg fr2.num.natAbs), .bool (decide (fr2.num < 0)), .int .u64 (lo (fr2.den - 1)), .string (bg (fr2.den - 1))])]) ∧ Below w.heap.size w w' := by
  go_enter Tryz.func56, Tryz.ntmps56
  -- region 0
  refine wp_seq_k fun K hK => ?_
  replace hK := Lib.hid hK
  refine wp_region_lit ?_
  go_wp2
  refine hK.out _ _ ?_; clear hK K
  show Code.wp _ _ _ _ _
  refine forgetW (fun w2 => Bx w2 (w.heap.size) 38 #[.int .u64 (lo a1.num.natAbs), .string (bg a1.num.natAbs), .bool (decide (a1.num < 0)), .int .u64 (lo (a1.den - 1)), .string (bg (a1.den - 1)), .int .u64 (lo a2.num.natAbs), .string (bg a2.num.natAbs), .bool (decide (a2.num < 0)), .int .u64 (lo (a2.den - 1)), .string (bg (a2.den - 1))] ∧ Bx w2 (w.heap.size + 1) 38 #[.int .u64 (lo b1.num.natAbs), .string (bg b1.num.natAbs), .bool (decide (b1.num < 0)), .int .u64 (lo (b1.den - 1)), .string (bg (b1.den - 1)), .int .u64 (lo b2.num.natAbs), .string (bg b2.num.natAbs), .bool (decide (b2.num < 0)), .int .u64 (lo (b2.den - 1)), .string (bg (b2.den - 1))] ∧ Bx w2 (w.heap.size + 1 + 1) 38 #[.int .u64 (lo c1.num.natAbs), .string (bg c1.num.natAbs), .bool (decide (c1.num < 0)), .int .u64 (lo (c1.den - 1)), .string (bg (c1.den - 1)), .int .u64 (lo c2.num.natAbs), .string (bg c2.num.natAbs), .bool (decide (c2.num < 0)), .int .u64 (lo (c2.den - 1)), .string (bg (c2.den - 1))] ∧ Bx w2 (w.heap.size + 1 + 1 + 1) 38 #[.int .u64 (lo d1.num.natAbs), .string (bg d1.num.natAbs), .bool (decide (d1.num < 0)), .int .u64 (lo (d1.den - 1)), .string (bg (d1.den - 1)), .int .u64 (lo d2.num.natAbs), .string (bg d2.num.natAbs), .bool (decide (d2.num < 0)), .int .u64 (lo (d2.den - 1)), .string (bg (d2.den - 1))] ∧ Bx w2 (w.heap.size + 1 + 1 + 1 + 1) 38 #[.int .u64 0, .string ⟨#[]⟩, .bool false, .int .u64 0, .string ⟨#[]⟩, .int .u64 0, .string ⟨#[]⟩, .bool false, .int .u64 0, .string ⟨#[]⟩] ∧ Below w.heap.size w w2) ⟨((((Bx.at rfl).alloc _).alloc _).alloc _).alloc _, (((Bx.at (by simp)).alloc _).alloc _).alloc _, ((Bx.at (by simp)).alloc _).alloc _, (Bx.at (by simp)).alloc _, Bx.at (by simp), (((((Below.refl _ _).alloc (Nat.le_refl _) _).alloc (by simp) _).alloc (by simp; omega) _).alloc (by simp; omega) _).alloc (by simp; omega) _⟩ ?_
  rintro Wx ⟨bx0, bx1, bx2, bx3, bx4, HB⟩
  replace HB := Lib.hid HB
  -- region 1
  have lx0 := bx0.cells
  have lx1 := bx1.cells
  have lx2 := bx2.cells
  have lx3 := bx3.cells
  have BX0 := Lib.hid bx0
  have BX1 := Lib.hid bx1
  have BX2 := Lib.hid bx2
  have BX3 := Lib.hid bx3
  have BX4 := Lib.hid bx4
  clear bx0 bx1 bx2 bx3 bx4
  refine wp_seq_k fun K hK => ?_
  replace hK := Lib.hid hK
  have HS0 := Lib.hid (HB.out.size)
  have MX0 : w.heap.size < Wx.heap.size := BX0.out.lt
  have MX1 : w.heap.size + 1 < Wx.heap.size := BX1.out.lt
  have MX2 : w.heap.size + 1 + 1 < Wx.heap.size := BX2.out.lt
  have MX3 : w.heap.size + 1 + 1 + 1 < Wx.heap.size := BX3.out.lt
  have MX4 : w.heap.size + 1 + 1 + 1 + 1 < Wx.heap.size := BX4.out.lt
  refine wp_region_early 22 [20, 21] [] (fun i => if i = 20 then 10 else 11) (fun i => if i = 20 then .cells #[.int .u64 0, .string ⟨#[]⟩, .bool false, .int .u64 0, .string ⟨#[]⟩, .int .u64 0, .string ⟨#[]⟩, .bool false, .int .u64 0, .string ⟨#[]⟩] 38 else .cells #[.int .u64 0, .string ⟨#[]⟩, .bool false, .int .u64 0, .string ⟨#[]⟩, .int .u64 0, .string ⟨#[]⟩, .bool false, .int .u64 0, .string ⟨#[]⟩] 38) (fun i => if i = 2 then (1, #[.int .u64 (lo b1.num.natAbs), .string (bg b1.num.natAbs), .bool (decide (b1.num < 0)), .int .u64 (lo (b1.den - 1)), .string (bg (b1.den - 1)), .int .u64 (lo b2.num.natAbs), .string (bg b2.num.natAbs), .bool (decide (b2.num < 0)), .int .u64 (lo (b2.den - 1)), .string (bg (b2.den - 1))], 38) else if i = 6 then (1, #[.int .u64 (lo d1.num.natAbs), .string (bg d1.num.natAbs), .bool (decide (d1.num < 0)), .int .u64 (lo (d1.den - 1)), .string (bg (d1.den - 1)), .int .u64 (lo d2.num.natAbs), .string (bg d2.num.natAbs), .bool (decide (d2.num < 0)), .int .u64 (lo (d2.den - 1)), .string (bg (d2.den - 1))], 38) else if i = 8 then (1, #[.int .u64 (lo lc1.num.natAbs), .string (bg lc1.num.natAbs), .bool (decide (lc1.num < 0)), .int .u64 (lo (lc1.den - 1)), .string (bg (lc1.den - 1)), .int .u64 (lo lc2.num.natAbs), .string (bg lc2.num.natAbs), .bool (decide (lc2.num < 0)), .int .u64 (lo (lc2.den - 1)), .string (bg (lc2.den - 1))], 38) else if i = 12 then (1, #[.int .u64 (lo b1.num.natAbs), .string (bg b1.num.natAbs), .bool (decide (b1.num < 0)), .int .u64 (lo (b1.den - 1)), .string (bg (b1.den - 1)), .int .u64 (lo b2.num.natAbs), .string (bg b2.num.natAbs), .bool (decide (b2.num < 0)), .int .u64 (lo (b2.den - 1)), .string (bg (b2.den - 1))], 38) else if i = 16 then (1, #[.int .u64 (lo d1.num.natAbs), .string (bg d1.num.natAbs), .bool (decide (d1.num < 0)), .int .u64 (lo (d1.den - 1)), .string (bg (d1.den - 1)), .int .u64 (lo d2.num.natAbs), .string (bg d2.num.natAbs), .bool (decide (d2.num < 0)), .int .u64 (lo (d2.den - 1)), .string (bg (d2.den - 1))], 38) else (1, #[.int .u64 (lo gc1.num.natAbs), .string (bg gc1.num.natAbs), .bool (decide (gc1.num < 0)), .int .u64 (lo (gc1.den - 1)), .string (bg (gc1.den - 1)), .int .u64 (lo gc2.num.natAbs), .string (bg gc2.num.natAbs), .bool (decide (gc2.num < 0)), .int .u64 (lo (gc2.den - 1)), .string (bg (gc2.den - 1))], 38)) [(0, 0), (0, 1), (1, 2), (0, 4), (0, 5), (1, 6), (0, 10), (0, 11), (1, 12), (0, 14), (0, 15), (1, 16), (2, 2), (0, 3), (2, 6), (0, 7), (1, 8), (2, 8), (0, 9), (2, 12), (0, 13), (2, 16), (0, 17), (1, 18), (2, 18), (0, 19)] (by kernel_rfl) (by kernel_rfl) (by intro i hi; simp only [List.mem_cons, List.not_mem_nil, or_false] at hi; rcases hi with rfl | rfl <;> exact ⟨_, rfl, rfl, rfl, by simp, fun ρ w => by kernel_rfl⟩) (fun i hi => by cases hi) (fun _ _ _ _ _ h => h) (fun T hT => ?_)
  iterate 2
    refine wpEarly_takeL (v := ?_) rfl (by rfl) (fun w' hw => ?_) ?_
    rotate_left
    · go_simp
      with_reducible rfl
    simp only [Act.put, qA, qB, qC]
  refine wpEarly_mk rfl (by rfl) (fun w' => ?_) ?_
  · go_simp
  iterate 2
    refine wpEarly_takeL (v := ?_) rfl (by rfl) (fun w' hw => ?_) ?_
    rotate_left
    · go_simp
      with_reducible rfl
    simp only [Act.put, qA, qB, qC]
  refine wpEarly_mk rfl (by rfl) (fun w' => ?_) ?_
  · go_simp
  iterate 2
    refine wpEarly_takeL (v := ?_) rfl (by rfl) (fun w' hw => ?_) ?_
    rotate_left
    · go_simp
      with_reducible rfl
    simp only [Act.put, qA, qB, qC]
  refine wpEarly_mk rfl (by rfl) (fun w' => ?_) ?_
  · go_simp
  iterate 2
    refine wpEarly_takeL (v := ?_) rfl (by rfl) (fun w' hw => ?_) ?_
    rotate_left
    · go_simp
      with_reducible rfl
    simp only [Act.put, qA, qB, qC]
  refine wpEarly_mk rfl (by rfl) (fun w' => ?_) ?_
  · go_simp
  refine wpEarly_use rfl (by rfl) (fun gx5 vv1 hg0 yx5 bx5 => ?_)
  have HG0 := Lib.hid hg0; clear hg0
  replace yx5 : w.heap.size ≤ gx5 := by first | exact Nat.le_trans HS0.out yx5 | exact Nat.le_trans HB.out.size yx5
  have BX5 := Lib.hid bx5; clear bx5
  replace BX0 := bG BX0 HG0
  replace BX1 := bG BX1 HG0
  replace BX2 := bG BX2 HG0
  replace BX3 := bG BX3 HG0
  replace BX4 := bG BX4 HG0
  replace HB := Lib.hid (HB.out.trans (HG0.out.mono HB.out.size))
  clear HG0
  clear lx0; have lx0 := BX0.out.cells
  clear lx1; have lx1 := BX1.out.cells
  clear lx2; have lx2 := BX2.out.cells
  clear lx3; have lx3 := BX3.out.cells
  simp only [Act.put, qA, qB, qC]
  refine wpEarly_callL rfl (by rfl) Tryz.call22 (fun w' hw => pleast_any (a1) (a2) (b1) (b2) la1 la2 (gx5) _ (BX5.out.gr hw) (r_la) (h_la.out) (h1_la.out) (h2_la.out) (by omega) (by omega) (by omega) (by omega)) (by rfl) ?_
  simp only [Act.put, qA, qB, qC]
  refine wpEarly_use rfl (by rfl) (fun gx6 vv2 hg0 yx6 bx6 => ?_)
  have HG0 := Lib.hid hg0; clear hg0
  replace yx6 : w.heap.size ≤ gx6 := by first | exact Nat.le_trans HS0.out yx6 | exact Nat.le_trans HB.out.size yx6
  have BX6 := Lib.hid bx6; clear bx6
  replace BX0 := bG BX0 HG0
  replace BX1 := bG BX1 HG0
  replace BX2 := bG BX2 HG0
  replace BX3 := bG BX3 HG0
  replace BX4 := bG BX4 HG0
  replace BX5 := bG BX5 HG0
  replace HB := Lib.hid (HB.out.trans (HG0.out.mono HB.out.size))
  clear HG0
  clear lx0; have lx0 := BX0.out.cells
  clear lx1; have lx1 := BX1.out.cells
  clear lx2; have lx2 := BX2.out.cells
  clear lx3; have lx3 := BX3.out.cells
  simp only [Act.put, qA, qB, qC]
  refine wpEarly_callL rfl (by rfl) Tryz.call22 (fun w' hw => pleast_any (c1) (c2) (d1) (d2) lc1 lc2 (gx6) _ (BX6.out.gr hw) (r_lc) (h_lc.out) (h1_lc.out) (h2_lc.out) (by omega) (by omega) (by omega) (by omega)) (by rfl) ?_
  simp only [Act.put, qA, qB, qC]
  refine wpEarly_mk rfl (by rfl) (fun w' => ?_) ?_
  · go_simp
  refine wpEarly_use rfl (by rfl) (fun gx9 vv3 hg0 yx9 bx9 => ?_)
  have HG0 := Lib.hid hg0; clear hg0
  replace yx9 : w.heap.size ≤ gx9 := by first | exact Nat.le_trans HS0.out yx9 | exact Nat.le_trans HB.out.size yx9
  have BX9 := Lib.hid bx9; clear bx9
  replace BX0 := bG BX0 HG0
  replace BX1 := bG BX1 HG0
  replace BX2 := bG BX2 HG0
  replace BX3 := bG BX3 HG0
  replace BX4 := bG BX4 HG0
  replace BX5 := bG BX5 HG0
  replace BX6 := bG BX6 HG0
  replace HB := Lib.hid (HB.out.trans (HG0.out.mono HB.out.size))
  clear HG0
  clear lx0; have lx0 := BX0.out.cells
  clear lx1; have lx1 := BX1.out.cells
  clear lx2; have lx2 := BX2.out.cells
  clear lx3; have lx3 := BX3.out.cells
  simp only [Act.put, qA, qB, qC]
  refine wpEarly_callL rfl (by rfl) Tryz.call23 (fun w' hw => pgreatest_any (la1) (la2) (lc1) (lc2) fr1 fr2 (gx9) _ (BX9.out.gr hw) (r_fr) (h_fr.out) (h1_fr.out) (h2_fr.out) (by omega) (by omega) (by omega) (by omega)) (by rfl) ?_
  simp only [Act.put, qA, qB, qC]
  refine wpEarly_use rfl (by rfl) (fun gx7 vv4 hg0 yx7 bx7 => ?_)
  have HG0 := Lib.hid hg0; clear hg0
  replace yx7 : w.heap.size ≤ gx7 := by first | exact Nat.le_trans HS0.out yx7 | exact Nat.le_trans HB.out.size yx7
  have BX7 := Lib.hid bx7; clear bx7
  replace BX0 := bG BX0 HG0
  replace BX1 := bG BX1 HG0
  replace BX2 := bG BX2 HG0
  replace BX3 := bG BX3 HG0
  replace BX4 := bG BX4 HG0
  replace BX5 := bG BX5 HG0
  replace BX6 := bG BX6 HG0
  replace BX9 := bG BX9 HG0
  replace HB := Lib.hid (HB.out.trans (HG0.out.mono HB.out.size))
  clear HG0
  clear lx0; have lx0 := BX0.out.cells
  clear lx1; have lx1 := BX1.out.cells
  clear lx2; have lx2 := BX2.out.cells
  clear lx3; have lx3 := BX3.out.cells
  simp only [Act.put, qA, qB, qC]
  refine wpEarly_callL rfl (by rfl) Tryz.call23 (fun w' hw => pgreatest_any (a1) (a2) (b1) (b2) ga1 ga2 (gx7) _ (BX7.out.gr hw) (r_ga) (h_ga.out) (h1_ga.out) (h2_ga.out) (by omega) (by omega) (by omega) (by omega)) (by rfl) ?_
  simp only [Act.put, qA, qB, qC]
  refine wpEarly_use rfl (by rfl) (fun gx8 vv5 hg0 yx8 bx8 => ?_)
  have HG0 := Lib.hid hg0; clear hg0
  replace yx8 : w.heap.size ≤ gx8 := by first | exact Nat.le_trans HS0.out yx8 | exact Nat.le_trans HB.out.size yx8
  have BX8 := Lib.hid bx8; clear bx8
  replace BX0 := bG BX0 HG0
  replace BX1 := bG BX1 HG0
  replace BX2 := bG BX2 HG0
  replace BX3 := bG BX3 HG0
  replace BX4 := bG BX4 HG0
  replace BX5 := bG BX5 HG0
  replace BX6 := bG BX6 HG0
  replace BX9 := bG BX9 HG0
  replace BX7 := bG BX7 HG0
  replace HB := Lib.hid (HB.out.trans (HG0.out.mono HB.out.size))
  clear HG0
  clear lx0; have lx0 := BX0.out.cells
  clear lx1; have lx1 := BX1.out.cells
  clear lx2; have lx2 := BX2.out.cells
  clear lx3; have lx3 := BX3.out.cells
  simp only [Act.put, qA, qB, qC]
  refine wpEarly_callL rfl (by rfl) Tryz.call23 (fun w' hw => pgreatest_any (c1) (c2) (d1) (d2) gc1 gc2 (gx8) _ (BX8.out.gr hw) (r_gc) (h_gc.out) (h1_gc.out) (h2_gc.out) (by omega) (by omega) (by omega) (by omega)) (by rfl) ?_
  simp only [Act.put, qA, qB, qC]
  refine wpEarly_mk rfl (by rfl) (fun w' => ?_) ?_
  · go_simp
  refine wpEarly_use rfl (by rfl) (fun gx10 vv6 hg0 yx10 bx10 => ?_)
  have HG0 := Lib.hid hg0; clear hg0
  replace yx10 : w.heap.size ≤ gx10 := by first | exact Nat.le_trans HS0.out yx10 | exact Nat.le_trans HB.out.size yx10
  have BX10 := Lib.hid bx10; clear bx10
  replace BX0 := bG BX0 HG0
  replace BX1 := bG BX1 HG0
  replace BX2 := bG BX2 HG0
  replace BX3 := bG BX3 HG0
  replace BX4 := bG BX4 HG0
  replace BX5 := bG BX5 HG0
  replace BX6 := bG BX6 HG0
  replace BX9 := bG BX9 HG0
  replace BX7 := bG BX7 HG0
  replace BX8 := bG BX8 HG0
  replace HB := Lib.hid (HB.out.trans (HG0.out.mono HB.out.size))
  clear HG0
  clear lx0; have lx0 := BX0.out.cells
  clear lx1; have lx1 := BX1.out.cells
  clear lx2; have lx2 := BX2.out.cells
  clear lx3; have lx3 := BX3.out.cells
  simp only [Act.put, qA, qB, qC]
  refine wpEarly_callL rfl (by rfl) Tryz.call22 (fun w' hw => pleast_any (ga1) (ga2) (gc1) (gc2) to1 to2 (gx10) _ (BX10.out.gr hw) (r_to) (h_to.out) (h1_to.out) (h2_to.out) (by omega) (by omega) (by omega) (by omega)) (by rfl) ?_
  simp only [Act.put, qA, qB, qC]
  refine wpEarly_nil (hT.out _ _ ?_); clear hT T
  intro G vw1 hg hf
  simp only [puts, Act.put, qA, qB, qC, qD, qE, ↓reduceIte, Nat.reduceEqDiff]
  clear lx0 lx1 lx2 lx3
  clear BX5
  clear BX6
  clear BX9
  clear BX7
  clear BX8
  clear BX10
  have HG := Lib.hid (hg)
  clear hg
  have bx11 := Bx.of_fresh hf (i := 20) (by decide) rfl
  have yx11 := (hf.1 20 (by decide)).1
  have bx12 := Bx.of_fresh hf (i := 21) (by decide) rfl
  have yx12 := (hf.1 21 (by decide)).1
  have dx11_12 : G 20 ≠ G 21 := fun e => absurd (hf.2 20 (by decide) 21 (by decide) e) (by decide)
  clear hf
  generalize G 20 = gx11 at *
  generalize G 21 = gx12 at *
  have qx0_11 : w.heap.size < gx11 := Nat.lt_of_lt_of_le MX0 yx11
  have qx0_12 : w.heap.size < gx12 := Nat.lt_of_lt_of_le MX0 yx12
  have qx1_11 : w.heap.size + 1 < gx11 := Nat.lt_of_lt_of_le MX1 yx11
  have qx1_12 : w.heap.size + 1 < gx12 := Nat.lt_of_lt_of_le MX1 yx12
  have qx2_11 : w.heap.size + 1 + 1 < gx11 := Nat.lt_of_lt_of_le MX2 yx11
  have qx2_12 : w.heap.size + 1 + 1 < gx12 := Nat.lt_of_lt_of_le MX2 yx12
  have qx3_11 : w.heap.size + 1 + 1 + 1 < gx11 := Nat.lt_of_lt_of_le MX3 yx11
  have qx3_12 : w.heap.size + 1 + 1 + 1 < gx12 := Nat.lt_of_lt_of_le MX3 yx12
  have qx4_11 : w.heap.size + 1 + 1 + 1 + 1 < gx11 := Nat.lt_of_lt_of_le MX4 yx11
  have qx4_12 : w.heap.size + 1 + 1 + 1 + 1 < gx12 := Nat.lt_of_lt_of_le MX4 yx12
  replace yx11 : w.heap.size ≤ gx11 := Nat.le_trans HS0.out yx11
  replace yx12 : w.heap.size ≤ gx12 := Nat.le_trans HS0.out yx12
  replace BX0 := bG BX0 HG
  replace BX1 := bG BX1 HG
  replace BX2 := bG BX2 HG
  replace BX3 := bG BX3 HG
  replace BX4 := bG BX4 HG
  have lx11 := bx11.cells; have fx11 := bx11.free
  have lx12 := bx12.cells; have fx12 := bx12.free
  have r0 := Gr.refl vw1
  have BX11 := Lib.hid bx11; clear bx11
  have BX12 := Lib.hid bx12; clear bx12
  go_wp2
  refine hK.out _ _ ?_; clear hK K
  show Code.wp _ _ _ _ _
  clear lx11 fx11
  clear lx12 fx12
  clear r0
  refine forgetW (fun w2 => Bx w2 (w.heap.size + 1 + 1 + 1 + 1) 38 #[.int .u64 0, .string ⟨#[]⟩, .bool false, .int .u64 0, .string ⟨#[]⟩, .int .u64 0, .string ⟨#[]⟩, .bool false, .int .u64 0, .string ⟨#[]⟩] ∧ Bx w2 gx11 38 #[.int .u64 (lo fr1.num.natAbs), .string (bg fr1.num.natAbs), .bool (decide (fr1.num < 0)), .int .u64 (lo (fr1.den - 1)), .string (bg (fr1.den - 1)), .int .u64 (lo fr2.num.natAbs), .string (bg fr2.num.natAbs), .bool (decide (fr2.num < 0)), .int .u64 (lo (fr2.den - 1)), .string (bg (fr2.den - 1))] ∧ Bx w2 gx12 38 #[.int .u64 (lo to1.num.natAbs), .string (bg to1.num.natAbs), .bool (decide (to1.num < 0)), .int .u64 (lo (to1.den - 1)), .string (bg (to1.den - 1)), .int .u64 (lo to2.num.natAbs), .string (bg to2.num.natAbs), .bool (decide (to2.num < 0)), .int .u64 (lo (to2.den - 1)), .string (bg (to2.den - 1))] ∧ Below w.heap.size w w2) ⟨so10 (so10 (BX4.out) (by show w.heap.size + 1 + 1 + 1 + 1 ≠ gx11; omega)) (by show w.heap.size + 1 + 1 + 1 + 1 ≠ gx12; omega), (so10 (((((((((((BX11.out).set 0 _).set 1 _).set 2 _).set 3 _).set 4 _).set 5 _).set 6 _).set 7 _).set 8 _).set 9 _) (by show gx11 ≠ gx12; omega)).eq (by simp only [rA, rB, rC]), (((((((((((so10 (BX12.out) (by show gx12 ≠ gx11; omega)).set 0 _).set 1 _).set 2 _).set 3 _).set 4 _).set 5 _).set 6 _).set 7 _).set 8 _).set 9 _).eq (by simp only [rA, rB, rC]), sc10 (sc10 (HB.out.trans (HG.out.mono HB.out.size)) (by show w.heap.size ≤ gx11; omega)) (by show w.heap.size ≤ gx12; omega)⟩ ?_
  clear HB HG BX0 BX1 BX2 BX3 BX4 BX11 BX12
  rintro Wx1 ⟨bx4, bx11, bx12, HB⟩
  replace HB := Lib.hid HB
  refine wp_seq ?_
  refine wp_block ?_
  -- region 2
  have lx11 := bx11.cells
  have lx12 := bx12.cells
  have BX4 := Lib.hid bx4
  have BX11 := Lib.hid bx11
  have BX12 := Lib.hid bx12
  clear bx4 bx11 bx12
  refine wp_seq_k fun K hK => ?_
  replace hK := Lib.hid hK
  refine wp_region_seqplan 4 [(true, 0), (true, 1), (true, 2), (true, 3)] (by rfl) (by simp) (fun T hT => ?_)
  iterate 2
    refine wpPlan_takeL (v := ?_) rfl (by rfl) (fun w' hw => ?_) ?_
    rotate_left
    · go_simp
      with_reducible rfl
    simp only [Act.put, qA, qB, qC]
  refine wpPlan_callL rfl (by rfl) Tryz.call21 (fun w' hw => pless_any (to1) (to2) (fr1) (fr2) false _ (hl.out) (by omega) (by omega) (by omega) (by omega)) (by rfl) ?_
  simp only [Act.put, qA, qB, qC]
  iterate 1
    refine wpPlan_takeL (v := ?_) rfl (by rfl) (fun w' hw => ?_) ?_
    rotate_left
    · go_simp
      with_reducible rfl
    simp only [Act.put, qA, qB, qC]
  refine wpPlan_nil (hT.out _ _ ?_); clear hT T
  intro vw2 hg
  simp only [puts, Act.put, qA, qB, qC, qD, qE, ↓reduceIte, Nat.reduceEqDiff]
  clear lx11 lx12
  have HG := Lib.hid (hg)
  clear hg
  replace BX4 := bG BX4 HG
  replace BX11 := bG BX11 HG
  replace BX12 := bG BX12 HG
  have r0 := Gr.refl vw2
  go_wp2
  refine hK.out _ _ ?_; clear hK K
  show Code.wp _ _ _ _ _
  clear r0
  refine forgetW (fun w2 => Bx w2 (w.heap.size + 1 + 1 + 1 + 1) 38 #[.int .u64 0, .string ⟨#[]⟩, .bool false, .int .u64 0, .string ⟨#[]⟩, .int .u64 0, .string ⟨#[]⟩, .bool false, .int .u64 0, .string ⟨#[]⟩] ∧ Bx w2 gx11 38 #[.int .u64 (lo fr1.num.natAbs), .string (bg fr1.num.natAbs), .bool (decide (fr1.num < 0)), .int .u64 (lo (fr1.den - 1)), .string (bg (fr1.den - 1)), .int .u64 (lo fr2.num.natAbs), .string (bg fr2.num.natAbs), .bool (decide (fr2.num < 0)), .int .u64 (lo (fr2.den - 1)), .string (bg (fr2.den - 1))] ∧ Bx w2 gx12 38 #[.int .u64 (lo to1.num.natAbs), .string (bg to1.num.natAbs), .bool (decide (to1.num < 0)), .int .u64 (lo (to1.den - 1)), .string (bg (to1.den - 1)), .int .u64 (lo to2.num.natAbs), .string (bg to2.num.natAbs), .bool (decide (to2.num < 0)), .int .u64 (lo (to2.den - 1)), .string (bg (to2.den - 1))] ∧ Below w.heap.size w w2) ⟨BX4.out, BX11.out, BX12.out, HB.out.trans (HG.out.mono HB.out.size)⟩ ?_
  clear HB HG BX4 BX11 BX12
  rintro Wx2 ⟨bx4, bx11, bx12, HB⟩
  replace HB := Lib.hid HB
  refine wp_cond_false (by rfl) ?_
  -- region 4
  have lx11 := bx11.cells
  have lx12 := bx12.cells
  have BX4 := Lib.hid bx4
  have BX11 := Lib.hid bx11
  have BX12 := Lib.hid bx12
  clear bx4 bx11 bx12
  refine wp_seq_k fun K hK => ?_
  replace hK := Lib.hid hK
  refine wp_region_seqplan 4 [(true, 0), (true, 1), (true, 2), (true, 3)] (by rfl) (by simp) (fun T hT => ?_)
  iterate 4
    refine wpPlan_takeL (v := ?_) rfl (by rfl) (fun w' hw => ?_) ?_
    rotate_left
    · go_simp
      with_reducible rfl
    simp only [Act.put, qA, qB, qC]
  refine wpPlan_nil (hT.out _ _ ?_); clear hT T
  intro vw3 hg
  simp only [puts, Act.put, qA, qB, qC, qD, qE, ↓reduceIte, Nat.reduceEqDiff]
  clear lx11 lx12
  have HG := Lib.hid (hg)
  clear hg
  replace BX4 := bG BX4 HG
  replace BX11 := bG BX11 HG
  replace BX12 := bG BX12 HG
  have r0 := Gr.refl vw3
  go_wp2
  refine hK.out _ _ ?_; clear hK K
  show Code.wp _ _ _ _ _
  clear r0
  refine forgetW (fun w2 => Bx w2 (w.heap.size + 1 + 1 + 1 + 1) 38 #[.int .u64 0, .string ⟨#[]⟩, .bool false, .int .u64 0, .string ⟨#[]⟩, .int .u64 0, .string ⟨#[]⟩, .bool false, .int .u64 0, .string ⟨#[]⟩] ∧ Bx w2 gx11 38 #[.int .u64 (lo fr1.num.natAbs), .string (bg fr1.num.natAbs), .bool (decide (fr1.num < 0)), .int .u64 (lo (fr1.den - 1)), .string (bg (fr1.den - 1)), .int .u64 (lo fr2.num.natAbs), .string (bg fr2.num.natAbs), .bool (decide (fr2.num < 0)), .int .u64 (lo (fr2.den - 1)), .string (bg (fr2.den - 1))] ∧ Below w.heap.size w w2) ⟨BX4.out, BX11.out, HB.out.trans (HG.out.mono HB.out.size)⟩ ?_
  clear HB HG BX4 BX11 BX12
  rintro Wx4 ⟨bx4, bx11, HB⟩
  replace HB := Lib.hid HB
  refine wp_cond_false (by rfl) ?_
  refine wp_skip ?_
  show Code.wp _ _ _ _ _
  -- region 6
  have lx11 := bx11.cells
  have BX4 := Lib.hid bx4
  have BX11 := Lib.hid bx11
  clear bx4 bx11
  refine wp_seq_k fun K hK => ?_
  replace hK := Lib.hid hK
  refine wp_region_plan 2 [] [] (fun _ => 0) (fun _ => .cells #[] 0) [(true, 0), (true, 1)] (by kernel_rfl) (by kernel_rfl) (fun i hi => by cases hi) (fun i hi => by cases hi) (fun _ _ _ _ _ h => h) (fun T hT => ?_)
  iterate 2
    refine wpPlan_takeL (v := ?_) rfl (by rfl) (fun w' hw => ?_) ?_
    rotate_left
    · go_simp
      with_reducible rfl
    simp only [Act.put, qA, qB, qC]
  refine wpPlan_nil (hT.out _ _ ?_); clear hT T
  intro G vw4 hg hf
  simp only [puts, Act.put, qA, qB, qC, qD, qE, ↓reduceIte, Nat.reduceEqDiff]
  clear lx11
  have HG := Lib.hid (hg)
  clear hg
  replace BX4 := bG BX4 HG
  replace BX11 := bG BX11 HG
  have lx4 := BX4.out.cells; have fx4 := BX4.out.free
  have r0 := Gr.refl vw4
  go_wp2
  refine hK.out _ _ ?_; clear hK K
  show Code.wp _ _ _ _ _
  clear lx4 fx4
  clear r0
  refine forgetW (fun w2 => Bx w2 (w.heap.size + 1 + 1 + 1 + 1) 38 #[.int .u64 (lo fr1.num.natAbs), .string (bg fr1.num.natAbs), .bool (decide (fr1.num < 0)), .int .u64 (lo (fr1.den - 1)), .string (bg (fr1.den - 1)), .int .u64 (lo fr2.num.natAbs), .string (bg fr2.num.natAbs), .bool (decide (fr2.num < 0)), .int .u64 (lo (fr2.den - 1)), .string (bg (fr2.den - 1))] ∧ Below w.heap.size w w2) ⟨(((((((((((BX4.out).set 0 _).set 1 _).set 2 _).set 3 _).set 4 _).set 5 _).set 6 _).set 7 _).set 8 _).set 9 _).eq (by simp only [rA, rB, rC]), sc10 (HB.out.trans (HG.out.mono HB.out.size)) (by show w.heap.size ≤ w.heap.size + 1 + 1 + 1 + 1; omega)⟩ ?_
  clear HB HG BX4 BX11
  rintro Wx6 ⟨bx4, HB⟩
  replace HB := Lib.hid HB
  refine wp_ret ?_
  try simp only [Exit.then, Exit.inBlock]
  have lx4 := bx4.cells
  have r0 := Gr.refl Wx6
  exact bodyPost_ret (v := .tuple #[.int .i64 2, (.agg #[.int .u64 (lo fr1.num.natAbs), .string (bg fr1.num.natAbs), .bool (decide (fr1.num < 0)), .int .u64 (lo (fr1.den - 1)), .string (bg (fr1.den - 1)), .int .u64 (lo fr2.num.natAbs), .string (bg fr2.num.natAbs), .bool (decide (fr2.num < 0)), .int .u64 (lo (fr2.den - 1)), .string (bg (fr2.den - 1))])]) (by simp [results, Tryz.results56, go_sem, lx4 _ r0]) rfl ⟨rfl, HB.out⟩

/-- the lesser, the greater of two points -/
def pmn (a b : Rat × Rat) : Rat × Rat := if plt b.1 b.2 a.1 a.2 then b else a
def pmx (a b : Rat × Rat) : Rat × Rat := if plt a.1 a.2 b.1 b.2 then b else a
def pieceV (a b c d : Rat × Rat) : Int × (Rat × Rat) :=
  if plt (pmn (pmx a b) (pmx c d)).1 (pmn (pmx a b) (pmx c d)).2 (pmx (pmn a b) (pmn c d)).1 (pmx (pmn a b) (pmn c d)).2 then (0, (0, 0))
  else if pmx (pmn a b) (pmn c d) = pmn (pmx a b) (pmx c d) then (1, pmx (pmn a b) (pmn c d)) else (2, pmx (pmn a b) (pmn c d))
def szp (M : Nat) (a : Rat × Rat) : Prop := sz a.1 ≤ M ∧ sz a.2 ≤ M
theorem szp_pmn {M : Nat} {a b : Rat × Rat} (ha : szp M a) (hb : szp M b) : szp M (pmn a b) := by unfold pmn; split <;> assumption
theorem szp_pmx {M : Nat} {a b : Rat × Rat} (ha : szp M a) (hb : szp M b) : szp M (pmx a b) := by unfold pmx; split <;> assumption
theorem fst_if {r : Bool} {x y : Rat × Rat} : (if r then x.1 else y.1) = (if r then x else y).1 := by cases r <;> rfl
theorem snd_if {r : Bool} {x y : Rat × Rat} : (if r then x.2 else y.2) = (if r then x else y).2 := by cases r <;> rfl
theorem ppiece_any (a b c d : Rat × Rat) (n : Int) (m : Rat × Rat) (w : World) (h : pieceV a b c d = (n, m)) (ha : szp 100000000 a) (hb : szp 100000000 b) (hc : szp 100000000 c) (hd : szp 100000000 d) :
    Calls Tryz.prog 56 #[(Value.agg #[.int .u64 (lo (Int.natAbs ((a.1).num))), .string (bg (Int.natAbs ((a.1).num))), .bool (decide (((a.1).num) < 0)), .int .u64 (lo ((a.1).den - 1)), .string (bg ((a.1).den - 1)), .int .u64 (lo (Int.natAbs ((a.2).num))), .string (bg (Int.natAbs ((a.2).num))), .bool (decide (((a.2).num) < 0)), .int .u64 (lo ((a.2).den - 1)), .string (bg ((a.2).den - 1))]), (Value.agg #[.int .u64 (lo (Int.natAbs ((b.1).num))), .string (bg (Int.natAbs ((b.1).num))), .bool (decide (((b.1).num) < 0)), .int .u64 (lo ((b.1).den - 1)), .string (bg ((b.1).den - 1)), .int .u64 (lo (Int.natAbs ((b.2).num))), .string (bg (Int.natAbs ((b.2).num))), .bool (decide (((b.2).num) < 0)), .int .u64 (lo ((b.2).den - 1)), .string (bg ((b.2).den - 1))]), (Value.agg #[.int .u64 (lo (Int.natAbs ((c.1).num))), .string (bg (Int.natAbs ((c.1).num))), .bool (decide (((c.1).num) < 0)), .int .u64 (lo ((c.1).den - 1)), .string (bg ((c.1).den - 1)), .int .u64 (lo (Int.natAbs ((c.2).num))), .string (bg (Int.natAbs ((c.2).num))), .bool (decide (((c.2).num) < 0)), .int .u64 (lo ((c.2).den - 1)), .string (bg ((c.2).den - 1))]), (Value.agg #[.int .u64 (lo (Int.natAbs ((d.1).num))), .string (bg (Int.natAbs ((d.1).num))), .bool (decide (((d.1).num) < 0)), .int .u64 (lo ((d.1).den - 1)), .string (bg ((d.1).den - 1)), .int .u64 (lo (Int.natAbs ((d.2).num))), .string (bg (Int.natAbs ((d.2).num))), .bool (decide (((d.2).num) < 0)), .int .u64 (lo ((d.2).den - 1)), .string (bg ((d.2).den - 1))])] w fun e w' => e = .returned (.tuple #[.int .i64 n, (.agg #[.int .u64 (lo (Int.natAbs ((m.1).num))), .string (bg (Int.natAbs ((m.1).num))), .bool (decide (((m.1).num) < 0)), .int .u64 (lo ((m.1).den - 1)), .string (bg ((m.1).den - 1)), .int .u64 (lo (Int.natAbs ((m.2).num))), .string (bg (Int.natAbs ((m.2).num))), .bool (decide (((m.2).num) < 0)), .int .u64 (lo ((m.2).den - 1)), .string (bg ((m.2).den - 1))])]) ∧ Below w.heap.size w w' := by
  have h1 := szp_pmn ha hb
  have h2 := szp_pmn hc hd
  have h3 := szp_pmx h1 h2
  have h4 := szp_pmx ha hb
  have h5 := szp_pmx hc hd
  have h6 := szp_pmn h4 h5
  unfold pieceV at h
  cases hl : plt (pmn (pmx a b) (pmx c d)).1 (pmn (pmx a b) (pmx c d)).2 (pmx (pmn a b) (pmn c d)).1 (pmx (pmn a b) (pmn c d)).2
  · rw [hl] at h
    by_cases he : pmx (pmn a b) (pmn c d) = pmn (pmx a b) (pmx c d)
    · have hee := he
      rw [if_pos he] at h
      injection h with e1 e2
      subst e1 e2
      exact ppiece_one a.1 a.2 b.1 b.2 c.1 c.2 d.1 d.2 (pmn a b).1 (pmn a b).2 (pmn c d).1 (pmn c d).2 (pmx (pmn a b) (pmn c d)).1 (pmx (pmn a b) (pmn c d)).2 (pmx a b).1 (pmx a b).2 (pmx c d).1 (pmx c d).2 (pmn (pmx a b) (pmx c d)).1 (pmn (pmx a b) (pmx c d)).2 _ _ _ _ _ _ w
        (Lib.hid rfl) (Lib.hid fst_if) (Lib.hid snd_if) (Lib.hid rfl) (Lib.hid fst_if) (Lib.hid snd_if) (Lib.hid rfl) (Lib.hid fst_if) (Lib.hid snd_if) (Lib.hid rfl) (Lib.hid fst_if) (Lib.hid snd_if) (Lib.hid rfl) (Lib.hid fst_if) (Lib.hid snd_if) (Lib.hid rfl) (Lib.hid fst_if) (Lib.hid snd_if)
        (Lib.hid hl) (by rw [he]; simp) ha.1 ha.2 hb.1 hb.2 hc.1 hc.2 hd.1 hd.2 h1.1 h1.2 h2.1 h2.2 h3.1 h3.2 h4.1 h4.2 h5.1 h5.2 h6.1 h6.2
    · rw [if_neg he] at h
      injection h with e1 e2
      subst e1 e2
      exact ppiece_two a.1 a.2 b.1 b.2 c.1 c.2 d.1 d.2 (pmn a b).1 (pmn a b).2 (pmn c d).1 (pmn c d).2 (pmx (pmn a b) (pmn c d)).1 (pmx (pmn a b) (pmn c d)).2 (pmx a b).1 (pmx a b).2 (pmx c d).1 (pmx c d).2 (pmn (pmx a b) (pmx c d)).1 (pmn (pmx a b) (pmx c d)).2 _ _ _ _ _ _ w
        (Lib.hid rfl) (Lib.hid fst_if) (Lib.hid snd_if) (Lib.hid rfl) (Lib.hid fst_if) (Lib.hid snd_if) (Lib.hid rfl) (Lib.hid fst_if) (Lib.hid snd_if) (Lib.hid rfl) (Lib.hid fst_if) (Lib.hid snd_if) (Lib.hid rfl) (Lib.hid fst_if) (Lib.hid snd_if) (Lib.hid rfl) (Lib.hid fst_if) (Lib.hid snd_if)
        (Lib.hid hl) (by rw [← Bool.decide_and]; exact decide_eq_false (fun e => he (Prod.ext e.1 e.2))) ha.1 ha.2 hb.1 hb.2 hc.1 hc.2 hd.1 hd.2 h1.1 h1.2 h2.1 h2.2 h3.1 h3.2 h4.1 h4.2 h5.1 h5.2 h6.1 h6.2
  · rw [hl, if_pos rfl] at h
    injection h with e1 e2
    subst e1 e2
    exact ppiece_none a.1 a.2 b.1 b.2 c.1 c.2 d.1 d.2 (pmn a b).1 (pmn a b).2 (pmn c d).1 (pmn c d).2 (pmx (pmn a b) (pmn c d)).1 (pmx (pmn a b) (pmn c d)).2 (pmx a b).1 (pmx a b).2 (pmx c d).1 (pmx c d).2 (pmn (pmx a b) (pmx c d)).1 (pmn (pmx a b) (pmx c d)).2 _ _ _ _ _ _ w
      (Lib.hid rfl) (Lib.hid fst_if) (Lib.hid snd_if) (Lib.hid rfl) (Lib.hid fst_if) (Lib.hid snd_if) (Lib.hid rfl) (Lib.hid fst_if) (Lib.hid snd_if) (Lib.hid rfl) (Lib.hid fst_if) (Lib.hid snd_if) (Lib.hid rfl) (Lib.hid fst_if) (Lib.hid snd_if) (Lib.hid rfl) (Lib.hid fst_if) (Lib.hid snd_if)
      (Lib.hid hl) ha.1 ha.2 hb.1 hb.2 hc.1 hc.2 hd.1 hd.2 h1.1 h1.2 h2.1 h2.2 h3.1 h3.2 h4.1 h4.2 h5.1 h5.2 h6.1 h6.2

end Go.Proofs.YtenpbnmmadbkdaaGreat


/- points.Cut: what it hands back. -/
namespace Go.Proofs.YtenpbnmmadbkdaaGreat
open Go.RowKit
set_option linter.unusedSimpArgs false
set_option linter.unusedVariables false
attribute [local go_sem ↓] Go.wp_at_zero Go.wp_at_succ
theorem sgQ_cases (q : Rat) : sgQ q = -1 ∨ sgQ q = 0 ∨ sgQ q = 1 := by
  unfold sgQ
  split
  · exact .inr (.inl rfl)
  · split
    · exact .inl rfl
    · exact .inr (.inr rfl)
/-- the orientation of three points -/
def tn (a b c : Rat × Rat) : Int := turn a.1 a.2 b.1 b.2 c.1 c.2
theorem tn_cases (a b c : Rat × Rat) : tn a b c = -1 ∨ tn a b c = 0 ∨ tn a b c = 1 := sgQ_cases _
theorem wrap_tn {s t : Int} (hs : s = -1 ∨ s = 0 ∨ s = 1) (ht : t = -1 ∨ t = 0 ∨ t = 1) : IntKind.i64.wrap (s * t) = s * t := by
  rcases hs with rfl | rfl | rfl <;> rcases ht with rfl | rfl | rfl <;> rfl
/-- the cross product of the directions -/
def crs (a b c d : Rat × Rat) : Rat := (b.1 - a.1) * (d.2 - c.2) - (b.2 - a.2) * (d.1 - c.1)
/-- where the lines meet -/
def cutP (a b c d : Rat × Rat) : Rat × Rat := (a.1 + (b.1 - a.1) * (((c.1 - a.1) * (d.2 - c.2) - (c.2 - a.2) * (d.1 - c.1)) / crs a b c d), a.2 + (b.2 - a.2) * (((c.1 - a.1) * (d.2 - c.2) - (c.2 - a.2) * (d.1 - c.1)) / crs a b c d))
/-- what Cut hands back -/
def cutV (a b c d : Rat × Rat) : Int × (Rat × Rat) :=
  if tn a b c = 0 ∧ tn a b d = 0 ∧ tn c d a = 0 ∧ tn c d b = 0 then pieceV a b c d
  else if 0 < tn a b c * tn a b d ∨ 0 < tn c d a * tn c d b then (0, (0, 0)) else (1, cutP a b c d)
theorem crs_ne {a b c d : Rat × Rat} (h0 : ¬ (tn a b c = 0 ∧ tn a b d = 0 ∧ tn c d a = 0 ∧ tn c d b = 0)) (h1 : ¬ (0 < tn a b c * tn a b d ∨ 0 < tn c d a * tn c d b)) : crs a b c d ≠ 0 := by
  intro hk
  unfold crs at hk
  have e1 : tn a b c = tn a b d := by unfold tn turn; congr 1; grind
  have e2 : tn c d a = tn c d b := by unfold tn turn; congr 1; grind
  have z1 : tn a b c = 0 := by
    rcases tn_cases a b c with e | e | e
    · exact absurd (.inl (by rw [← e1, e]; decide)) h1
    · exact e
    · exact absurd (.inl (by rw [← e1, e]; decide)) h1
  have z2 : tn c d a = 0 := by
    rcases tn_cases c d a with e | e | e
    · exact absurd (.inr (by rw [← e2, e]; decide)) h1
    · exact e
    · exact absurd (.inr (by rw [← e2, e]; decide)) h1
  exact h0 ⟨z1, e1 ▸ z1, z2, e2 ▸ z2⟩

end Go.Proofs.YtenpbnmmadbkdaaGreat


/- PointsRound: plain facts. -/
namespace Go.Proofs.YtenpbnmmadbkdaaGreat
open Go.RowKit
set_option linter.unusedSimpArgs false
set_option linter.unusedVariables false
attribute [local go_sem ↓] Go.wp_at_zero Go.wp_at_succ
theorem incirc_rot (a1 a2 b1 b2 c1 c2 d1 d2 : Rat) : incirc b1 b2 c1 c2 a1 a2 d1 d2 = incirc a1 a2 b1 b2 c1 c2 d1 d2 := by
  simp only [incirc, psum, List.take, List.foldl]; grind
theorem incirc_swap (a1 a2 b1 b2 c1 c2 d1 d2 : Rat) : incirc b1 b2 a1 a2 c1 c2 d1 d2 = -incirc a1 a2 b1 b2 c1 c2 d1 d2 := by
  simp only [incirc, psum, List.take, List.foldl]; grind
theorem incirc_a (a1 a2 b1 b2 c1 c2 : Rat) : incirc a1 a2 b1 b2 c1 c2 a1 a2 = 0 := by
  simp only [incirc, psum, List.take, List.foldl]; grind
theorem incirc_b (a1 a2 b1 b2 c1 c2 : Rat) : incirc a1 a2 b1 b2 c1 c2 b1 b2 = 0 := by
  simp only [incirc, psum, List.take, List.foldl]; grind
theorem incirc_c (a1 a2 b1 b2 c1 c2 : Rat) : incirc a1 a2 b1 b2 c1 c2 c1 c2 = 0 := by
  simp only [incirc, psum, List.take, List.foldl]; grind
theorem rect_1 (a1 a2 b1 b2 k : Rat) : incirc a1 a2 b1 b2 (b1 + -(b2 - a2) * k) (b2 + (b1 - a1) * k) (a1 + -(b2 - a2) * k) (a2 + (b1 - a1) * k) = 0 := by
  simp only [incirc, psum, List.take, List.foldl]; grind
theorem rect_2 (a1 a2 b1 b2 k : Rat) : incirc b1 b2 (b1 + -(b2 - a2) * k) (b2 + (b1 - a1) * k) (a1 + -(b2 - a2) * k) (a2 + (b1 - a1) * k) a1 a2 = 0 := by
  simp only [incirc, psum, List.take, List.foldl]; grind
theorem half_two : half + half = 1 := by decide +kernel
theorem thales (a1 a2 b1 b2 k : Rat) : incirc a1 a2 b1 b2 (b1 + -(b2 - a2) * k) (b2 + (b1 - a1) * k) ((a1 + (b1 + -(b2 - a2) * k)) * half) ((a2 + (b2 + (b1 - a1) * k)) * half)
    = half * half * (((b1 - a1) * (b1 - a1) + (b2 - a2) * (b2 - a2)) * (1 + k * k)) * ((b1 - a1) * (b2 + (b1 - a1) * k - a2) - (b2 - a2) * (b1 + -(b2 - a2) * k - a1)) := by
  have h := half_two
  generalize half = z at *
  obtain rfl : z = 1 / 2 := by grind
  simp only [incirc, psum, List.take, List.foldl]; grind
theorem sq_nonneg (x : Rat) : 0 ≤ x * x := by
  rcases Rat.le_total (a := 0) (b := x) with h | h
  · exact Rat.mul_nonneg h h
  · have := Rat.mul_nonneg (show 0 ≤ -x by grind) (show 0 ≤ -x by grind); grind
theorem sq_pos {x : Rat} (h : x ≠ 0) : 0 < x * x := by
  have h1 := sq_nonneg x
  have h2 : x * x ≠ 0 := fun e => h ((Rat.mul_eq_zero.1 e).elim id id)
  grind
theorem sgQ_mul_pos {p q : Rat} (h : 0 < p) : sgQ (p * q) = sgQ q := by
  unfold sgQ
  have h0 : p * q = 0 ↔ q = 0 := ⟨fun e => (Rat.mul_eq_zero.1 e).elim (fun e => by grind) id, fun e => by rw [e, Rat.mul_zero]⟩
  have h1 : p * q < 0 ↔ q < 0 := by
    constructor
    · intro e
      rcases Rat.le_total (a := 0) (b := q) with h2 | h2
      · have := Rat.mul_nonneg (Rat.le_of_lt h) h2; grind
      · by_cases h3 : q = 0
        · subst h3; rw [Rat.mul_zero] at e; exact absurd e (Rat.lt_irrefl)
        · grind
    · intro e
      have := Rat.mul_pos h (show 0 < -q by grind); grind
  simp only [h0, h1]
theorem sgQ_sq {t : Rat} (h : sgQ t ≠ 0) : sgQ t * sgQ t = 1 := by
  unfold sgQ at *
  split at h
  · exact absurd rfl h
  · rename_i h1; rw [if_neg h1]; split <;> rfl
/-- the midpoint of the hypotenuse lies inside the circle -/
theorem thales_in (a1 a2 b1 b2 k : Rat) (h : turn a1 a2 b1 b2 (b1 + -(b2 - a2) * k) (b2 + (b1 - a1) * k) ≠ 0) :
    sgQ (incirc a1 a2 b1 b2 (b1 + -(b2 - a2) * k) (b2 + (b1 - a1) * k) ((a1 + (b1 + -(b2 - a2) * k)) * half) ((a2 + (b2 + (b1 - a1) * k)) * half)) = turn a1 a2 b1 b2 (b1 + -(b2 - a2) * k) (b2 + (b1 - a1) * k) := by
  rw [thales]
  unfold turn at h ⊢
  rw [sgQ_mul_pos]
  have h1 := sq_nonneg (b1 - a1)
  have h2 := sq_nonneg (b2 - a2)
  have h3 := sq_nonneg k
  have h4 : (b1 - a1) * (b1 - a1) + (b2 - a2) * (b2 - a2) ≠ 0 := by
    intro e
    have e1 : (b1 - a1) * (b1 - a1) = 0 := by grind
    have e2 : (b2 - a2) * (b2 - a2) = 0 := by grind
    have e3 : b1 - a1 = 0 := (Rat.mul_eq_zero.1 e1).elim id id
    have e4 : b2 - a2 = 0 := (Rat.mul_eq_zero.1 e2).elim id id
    apply h
    rw [e3, e4, Rat.zero_mul, Rat.zero_mul, Rat.sub_self]
    rfl
  have h5 : 0 < half * half := by decide +kernel
  exact Rat.mul_pos h5 (Rat.mul_pos (by grind) (by grind))
/-- whether the hypotenuse is long: the case of PointsRound -/
def tt (a1 a2 b1 b2 k : Rat) : Int := turn a1 a2 b1 b2 (b1 + -(b2 - a2) * k) (b2 + (b1 - a1) * k)

end Go.Proofs.YtenpbnmmadbkdaaGreat
