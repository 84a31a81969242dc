
/- gussetref02: Sub, Cmp, Div. -/
import Derived.Test.YtflhpdlecpehkaaGreatDoorSh
import Derived.Test.YtflhpdlecpehkaaGreatDoorIntE
import Derived.Test.YtflhpdlecpehkaaGreatDoorRefT3
namespace Go.Proofs.YtflhpdlecpehkaaGreatDoor
open Go.RowKit
set_option linter.unusedSimpArgs false
set_option linter.unusedVariables false
attribute [local go_sem ↓] Go.wp_at_zero Go.wp_at_succ
theorem tw_isub (a b : Int) : tw (Int.natAbs (a - b)) ≤ max (tw a.natAbs) (tw b.natAbs) + 1 := by
  have := tw_iadd a (-b)
  rw [Int.natAbs_neg] at this
  rw [Int.sub_eq_add_neg]; exact this
theorem tw_idiv (a b : Int) : tw (a / b).natAbs ≤ tw a.natAbs + 1 := by
  have h1 := tw_mono (div_abs a b)
  have h2 := tw_add a.natAbs 1
  have h3 : tw 1 ≤ 1 := tw_le.2 (by decide)
  by_cases h : a = 0
  · subst h; simp
  · have h4 : 0 < tw a.natAbs := tw_pos (by omega)
    omega
theorem tw_imod (a b : Int) (h : b ≠ 0) : tw (a % b).natAbs ≤ tw b.natAbs := tw_mono (Nat.le_of_lt (mod_abs a h).1)
theorem zrsign (a s : Int) (va : Value) (w : World) (hs : sgI a = s) (h : Rn w va a.natAbs) :
    Calls Tryz.prog 14 #[.agg #[.bool (decide (a < 0)), va]] w fun e w' => e = .returned (.int .i64 s) ∧ Below w.heap.size w w' := zsign_any a s va w hs h

set_option maxRecDepth 20000 in
set_option maxHeartbeats 4000000 in
theorem zsub_any (a b z : Int) (va vb : Value) (w : World) (hz : a - b = z) (hs_a : tw (Int.natAbs a) ≤ 100000000) (hs_b : tw (Int.natAbs b) ≤ 100000000) (bx21 : Rn w va (Int.natAbs (a))) (bx22 : Rn w vb (Int.natAbs (b))) :
    Calls Tryz.prog 21 #[(Value.agg #[.bool (decide ((a) < 0)), va]), (Value.agg #[.bool (decide ((b) < 0)), vb])] w fun e w' => (∃ r1 : Value, e = .returned (.agg #[.bool (decide ((z) < 0)), r1]) ∧ Rn w' r1 (Int.natAbs (z))) ∧ Below w.heap.size w w' := by
  have HZ := Lib.hid hz
  clear hz
  obtain ⟨ao_va, n_va, c_va, rfl⟩ := Rn.sl bx21
  obtain ⟨ao_vb, n_vb, c_vb, rfl⟩ := Rn.sl bx22
  go_enter Tryz.func21, Tryz.ntmps21
  refine sK fun K hK => ?_
  refine wp_region_lit ?_
  go_wp2
  refine hK.out _ _ ?_; clear hK K
  show Code.wp _ _ _ _ _
  refine forgetW (fun w2 => Rn w2 (.slice ao_va n_va c_va) (Int.natAbs (a)) ∧ Rn w2 (.slice ao_vb n_vb c_vb) (Int.natAbs (b)) ∧ Bx w2 (w.heap.size) 38 #[.bool (decide ((a) < 0)), (.slice ao_va n_va c_va)] ∧ Bx w2 (w.heap.size + 1) 38 #[.bool (decide ((b) < 0)), (.slice ao_vb n_vb c_vb)] ∧ Bx w2 (w.heap.size + 1 + 1) 38 #[.bool false, .slice none 0 0] ∧ Below w.heap.size w w2) ⟨(((bx21).alloc _).alloc _).alloc _, (((bx22).alloc _).alloc _).alloc _, ((Bx.at rfl).alloc _).alloc _, (Bx.at (by simp)).alloc _, Bx.at (by simp), (((Below.refl _ _).alloc (Nat.le_refl _) _).alloc (by simp) _).alloc (by simp; omega) _⟩ ?_
  clear bx21 bx22
  rintro Wx ⟨bx21, bx22, bx23, bx24, bx25, HB⟩
  replace HB := Lib.hid HB
  obtain ⟨u1, HZ1⟩ : ∃ z, Hid (-(b) = z) := ⟨_, Lib.hid rfl⟩
  have su1 : tw (Int.natAbs (u1)) ≤ 100000000 := by rw [← HZ1.out]; rw [Int.natAbs_neg]; omega
  have HZ2 : Hid ((a) + (u1) = z) := Lib.hid (by rw [← HZ.out, ← HZ1.out]; omega)
  have su2 : tw (Int.natAbs (z)) ≤ 100000001 := by have e := HZ2.out; first | omega | (rw [← e]; have := tw_iadd (a) (u1); omega)
  have lx23 := bx23.cells
  have lx24 := bx24.cells
  have BX21 := Lib.hid bx21
  have BX22 := Lib.hid bx22
  have BX23 := Lib.hid bx23
  have BX24 := Lib.hid bx24
  have BX25 := Lib.hid bx25
  clear bx21 bx22 bx23 bx24 bx25
  refine sK fun K hK => ?_
  have HS0 := Lib.hid (HB.out.size)
  have MX23 : w.heap.size < Wx.heap.size := BX23.out.lt
  have MX24 : w.heap.size + 1 < Wx.heap.size := BX24.out.lt
  have MX25 : w.heap.size + 1 + 1 < Wx.heap.size := BX25.out.lt
  refine wp_region_plan 4 [] [] (fun _ => 0) (fun _ => .cells #[] 0) [(true, 0), (true, 1), (false, 2), (false, 3)] (by kernel_rfl) (by kernel_rfl) (fun i hi => by cases hi) (fun i hi => by cases hi) (fun _ _ _ _ _ h => h) (fun T hT => ?_)
  iterate 2 (refine wpPlan_takeL (v := ?_) rfl (by rfl) (fun w' hw => ?_) ?_; rotate_left; go_simp; with_reducible rfl; simp only [Act.put, rA, rB, rC])
  refine wpPlan_callE rfl (by rfl) Tryz.call25 (by rfl) (fun w' hw => (zneg_any (b) (u1) _ _ HZ1.out (BX22.out.gr hw)).mono ?_)
  rintro e vv1 ⟨⟨rv1, rfl, bx26⟩, hg0⟩
  obtain ⟨ao1, nn1, cc1, rfl⟩ := Rn.sl bx26
  refine ⟨_, rfl, hg0, ?_⟩
  replace hg0 := Gr.trans hw hg0; clear hw
  have HG0 := Lib.hid hg0; clear hg0
  replace BX21 := rG BX21 HG0
  replace BX22 := rG BX22 HG0
  replace BX23 := bG BX23 HG0
  replace BX24 := bG BX24 HG0
  replace BX25 := bG BX25 HG0
  replace HB := Lib.hid (HB.out.trans (HG0.out.mono HB.out.size))
  have BX26 := Lib.hid bx26; clear bx26
  clear HG0
  clear lx23; have lx23 := BX23.out.cells
  clear lx24; have lx24 := BX24.out.cells
  simp only [Act.put, rA, rB, rC]
  refine wpPlan_callE rfl (by rfl) Tryz.call19 (by rfl) (fun w' hw => (zadd_any (a) (u1) (z) _ _ _ HZ2.out (by omega) (by omega) (BX21.out.gr hw) (BX26.out.gr hw)).mono ?_)
  rintro e vv2 ⟨⟨rv2, rfl, bx27⟩, hg0⟩
  obtain ⟨ao2, nn2, cc2, rfl⟩ := Rn.sl bx27
  refine ⟨_, rfl, hg0, ?_⟩
  replace hg0 := Gr.trans hw hg0; clear hw
  have HG0 := Lib.hid hg0; clear hg0
  replace BX21 := rG BX21 HG0
  replace BX22 := rG BX22 HG0
  replace BX23 := bG BX23 HG0
  replace BX24 := bG BX24 HG0
  replace BX25 := bG BX25 HG0
  replace BX26 := rG BX26 HG0
  replace HB := Lib.hid (HB.out.trans (HG0.out.mono HB.out.size))
  have BX27 := Lib.hid bx27; clear bx27
  clear HG0
  clear lx23; have lx23 := BX23.out.cells
  clear lx24; have lx24 := BX24.out.cells
  simp only [Act.put, rA, rB, rC]
  refine wpPlan_nil (hT.out _ _ ?_); clear hT T
  intro G vw1 hg hf
  simp only [puts, Act.put, rA, rB, rC, rD, rE, ↓reduceIte, Nat.reduceEqDiff]
  clear lx23 lx24
  have HG := Lib.hid (hg)
  clear hg
  replace BX21 := rG BX21 HG
  replace BX22 := rG BX22 HG
  replace BX23 := bG BX23 HG
  replace BX24 := bG BX24 HG
  replace BX25 := bG BX25 HG
  replace BX26 := rG BX26 HG
  replace BX27 := rG BX27 HG
  have lx25 := BX25.out.cells; have fx25 := BX25.out.free
  have r0 := Gr.refl vw1
  go_wp2
  refine hK.out _ _ ?_; clear hK K
  show Code.wp _ _ _ _ _
  clear lx25 fx25
  clear r0
  refine forgetW (fun w2 => Bx w2 (w.heap.size + 1 + 1) 38 #[.bool (decide ((z) < 0)), (.slice ao2 nn2 cc2)] ∧ Rn w2 (.slice ao2 nn2 cc2) (Int.natAbs (z)) ∧ Below w.heap.size w w2) ⟨(((BX25.out).set 0 _).set 1 _).eq (by simp only [rA, rB, rC]), ro2 (BX27.out) (Rn.ne BX27.out BX25.out (by decide)), sc2 (HB.out.trans (HG.out.mono HB.out.size)) (by show w.heap.size ≤ w.heap.size + 1 + 1; omega)⟩ ?_
  clear HB HG BX21 BX22 BX23 BX24 BX25 BX26 BX27
  rintro Wx1 ⟨bx25, bx27, HB⟩
  replace HB := Lib.hid HB
  refine wp_ret ?_
  try simp only [Exit.then, Exit.inBlock]
  have lx25 := bx25.cells
  have r0 := Gr.refl Wx1
  exact bodyPost_ret (v := .agg #[.bool (decide ((z) < 0)), (.slice ao2 nn2 cc2)]) (by simp [results, Tryz.results21, go_sem, lx25 _ r0]) rfl ⟨⟨(.slice ao2 nn2 cc2), rfl, bx27⟩, HB.out⟩

set_option maxRecDepth 20000 in
set_option maxHeartbeats 4000000 in
theorem zzcmp (a b t : Int) (va vb : Value) (w : World) (ht : sgI (a - b) = t) (hs_a : tw (Int.natAbs a) ≤ 100000000) (hs_b : tw (Int.natAbs b) ≤ 100000000) (bx21 : Rn w va (Int.natAbs (a))) (bx22 : Rn w vb (Int.natAbs (b))) :
    Calls Tryz.prog 17 #[(Value.agg #[.bool (decide ((a) < 0)), va]), (Value.agg #[.bool (decide ((b) < 0)), vb])] w fun e w' => e = .returned (.int .i64 (t)) ∧ Below w.heap.size w w' := by
  have HT_ := Lib.hid ht
  clear ht
  obtain ⟨ao_va, n_va, c_va, rfl⟩ := Rn.sl bx21
  obtain ⟨ao_vb, n_vb, c_vb, rfl⟩ := Rn.sl bx22
  go_enter Tryz.func17, Tryz.ntmps17
  refine sK fun K hK => ?_
  refine wp_region_lit ?_
  go_wp2
  refine hK.out _ _ ?_; clear hK K
  show Code.wp _ _ _ _ _
  refine forgetW (fun w2 => Rn w2 (.slice ao_va n_va c_va) (Int.natAbs (a)) ∧ Rn w2 (.slice ao_vb n_vb c_vb) (Int.natAbs (b)) ∧ Bx w2 (w.heap.size) 38 #[.bool (decide ((a) < 0)), (.slice ao_va n_va c_va)] ∧ Bx w2 (w.heap.size + 1) 38 #[.bool (decide ((b) < 0)), (.slice ao_vb n_vb c_vb)] ∧ Below w.heap.size w w2) ⟨((bx21).alloc _).alloc _, ((bx22).alloc _).alloc _, (Bx.at rfl).alloc _, Bx.at (by simp), ((Below.refl _ _).alloc (Nat.le_refl _) _).alloc (by simp) _⟩ ?_
  clear bx21 bx22
  rintro Wx ⟨bx21, bx22, bx23, bx24, HB⟩
  replace HB := Lib.hid HB
  obtain ⟨u1, HZ1⟩ : ∃ z, Hid ((a) - (b) = z) := ⟨_, Lib.hid rfl⟩
  have su1 : tw (Int.natAbs (u1)) ≤ 100000001 := by rw [← HZ1.out]; have := tw_isub (a) (b); omega
  have lx23 := bx23.cells
  have lx24 := bx24.cells
  have BX21 := Lib.hid bx21
  have BX22 := Lib.hid bx22
  have BX23 := Lib.hid bx23
  have BX24 := Lib.hid bx24
  clear bx21 bx22 bx23 bx24
  refine sK fun K hK => ?_
  have HS0 := Lib.hid (HB.out.size)
  have MX23 : w.heap.size < Wx.heap.size := BX23.out.lt
  have MX24 : w.heap.size + 1 < Wx.heap.size := BX24.out.lt
  refine wp_region_seqplan 5 [(true, 0), (true, 1), (false, 2), (true, 3), (true, 4)] (by rfl) (by simp) (fun T hT => ?_)
  iterate 2 (refine wpPlan_takeL (v := ?_) rfl (by rfl) (fun w' hw => ?_) ?_; rotate_left; go_simp; with_reducible rfl; simp only [Act.put, rA, rB, rC])
  refine wpPlan_callE rfl (by rfl) Tryz.call21 (by rfl) (fun w' hw => (zsub_any (a) (b) (u1) _ _ _ HZ1.out (by omega) (by omega) (BX21.out.gr hw) (BX22.out.gr hw)).mono ?_)
  rintro e vv1 ⟨⟨rv1, rfl, bx25⟩, hg0⟩
  obtain ⟨ao1, nn1, cc1, rfl⟩ := Rn.sl bx25
  refine ⟨_, rfl, hg0, ?_⟩
  replace hg0 := Gr.trans hw hg0; clear hw
  have HG0 := Lib.hid hg0; clear hg0
  replace BX21 := rG BX21 HG0
  replace BX22 := rG BX22 HG0
  replace BX23 := bG BX23 HG0
  replace BX24 := bG BX24 HG0
  replace HB := Lib.hid (HB.out.trans (HG0.out.mono HB.out.size))
  have BX25 := Lib.hid bx25; clear bx25
  clear HG0
  clear lx23; have lx23 := BX23.out.cells
  clear lx24; have lx24 := BX24.out.cells
  simp only [Act.put, rA, rB, rC]
  refine wpPlan_callL rfl (by rfl) Tryz.call14 (fun w' hw => zrsign (u1) (t) _ _ (by rw [← HT_.out, ← HZ1.out]) (BX25.out.gr hw)) (by rfl) ?_
  simp only [Act.put, rA, rB, rC]
  refine wpPlan_takeL (v := ?_) rfl (by rfl) (fun w' hw => ?_) ?_; rotate_left; go_simp; with_reducible rfl; simp only [Act.put, rA, rB, rC]
  refine wpPlan_nil (hT.out _ _ ?_); clear hT T
  intro vw1 hg
  simp only [puts, Act.put, rA, rB, rC, rD, rE, ↓reduceIte, Nat.reduceEqDiff]
  clear lx23 lx24
  have HG := Lib.hid (hg)
  clear hg
  replace BX21 := rG BX21 HG
  replace BX22 := rG BX22 HG
  replace BX23 := bG BX23 HG
  replace BX24 := bG BX24 HG
  replace BX25 := rG BX25 HG
  have r0 := Gr.refl vw1
  go_wp2
  refine hK.out _ _ ?_; clear hK K
  show Code.wp _ _ _ _ _
  clear r0
  refine forgetW (fun w2 => Below w.heap.size w w2) (HB.out.trans (HG.out.mono HB.out.size)) ?_
  clear HB HG BX21 BX22 BX23 BX24 BX25
  rintro Wx1 HB
  replace HB := Lib.hid HB
  refine wp_ret ?_
  try simp only [Exit.then, Exit.inBlock]
  have r0 := Gr.refl Wx1
  exact bodyPost_ret (v := .int .i64 (t)) (by simp [results, Tryz.results17, go_sem]) rfl ⟨rfl, HB.out⟩

set_option maxRecDepth 20000 in
set_option maxHeartbeats 4000000 in
theorem zdiv_pp (a b q r t : Int) (va vb : Value) (w : World) (HQ : Hid (a / b = q)) (HR : Hid (a % b = r)) (HBS : Hid (0 < b)) (H0 : Hid (0 ≤ a)) (HT_ : Hid (sgI r = t)) (ht : ¬ t < 0) (HRS : Hid (0 ≤ r)) (hs_a : tw (Int.natAbs a) ≤ 100000000) (hs_b : tw (Int.natAbs b) ≤ 100000000) (bx21 : Rn w va (Int.natAbs (a))) (bx22 : Rn w vb (Int.natAbs (b))) :
    Calls Tryz.prog 16 #[(Value.agg #[.bool (decide ((a) < 0)), va]), (Value.agg #[.bool (decide ((b) < 0)), vb])] w fun e w' => (∃ r1 r2 : Value, e = .returned (.tuple #[(.agg #[.bool (decide ((q) < 0)), r1]), (.agg #[.bool (decide ((r) < 0)), r2])]) ∧ Rn w' r1 (Int.natAbs (q)) ∧ Rn w' r2 (Int.natAbs (r))) ∧ Below w.heap.size w w' := by
  obtain ⟨ao_va, n_va, c_va, rfl⟩ := Rn.sl bx21
  obtain ⟨ao_vb, n_vb, c_vb, rfl⟩ := Rn.sl bx22
  go_enter Tryz.func16, Tryz.ntmps16
  refine sK fun K hK => ?_
  refine wp_region_lit ?_
  go_wp2
  refine hK.out _ _ ?_; clear hK K
  show Code.wp _ _ _ _ _
  refine forgetW (fun w2 => Rn w2 (.slice ao_va n_va c_va) (Int.natAbs (a)) ∧ Rn w2 (.slice ao_vb n_vb c_vb) (Int.natAbs (b)) ∧ Bx w2 (w.heap.size) 38 #[.bool (decide ((a) < 0)), (.slice ao_va n_va c_va)] ∧ Bx w2 (w.heap.size + 1) 38 #[.bool (decide ((b) < 0)), (.slice ao_vb n_vb c_vb)] ∧ Bx w2 (w.heap.size + 1 + 1) 38 #[.bool false, .slice none 0 0] ∧ Bx w2 (w.heap.size + 1 + 1 + 1) 38 #[.bool false, .slice none 0 0] ∧ Below w.heap.size w w2) ⟨((((bx21).alloc _).alloc _).alloc _).alloc _, ((((bx22).alloc _).alloc _).alloc _).alloc _, (((Bx.at rfl).alloc _).alloc _).alloc _, ((Bx.at (by simp)).alloc _).alloc _, (Bx.at (by simp)).alloc _, Bx.at (by simp), ((((Below.refl _ _).alloc (Nat.le_refl _) _).alloc (by simp) _).alloc (by simp; omega) _).alloc (by simp; omega) _⟩ ?_
  clear bx21 bx22
  rintro Wx ⟨bx21, bx22, bx23, bx24, bx25, bx26, HB⟩
  replace HB := Lib.hid HB
  obtain ⟨u1, HZ1⟩ : ∃ z, Hid ((Int.natAbs (a)) / (Int.natAbs (b)) = z) := ⟨_, Lib.hid rfl⟩
  have su1 : tw (u1) ≤ 100000000 := by rw [← HZ1.out]; have := tw_div (Int.natAbs (a)) (Int.natAbs (b)); omega
  obtain ⟨u2, HZ2⟩ : ∃ z, Hid ((Int.natAbs (a)) % (Int.natAbs (b)) = z) := ⟨_, Lib.hid rfl⟩
  have su2 : tw (u2) ≤ 100000000 := by rw [← HZ2.out]; have := tw_mod (Int.natAbs (a)) (Int.natAbs (b)); omega
  have lx23 := bx23.cells
  have lx24 := bx24.cells
  have BX21 := Lib.hid bx21
  have BX22 := Lib.hid bx22
  have BX23 := Lib.hid bx23
  have BX24 := Lib.hid bx24
  have BX25 := Lib.hid bx25
  have BX26 := Lib.hid bx26
  clear bx21 bx22 bx23 bx24 bx25 bx26
  refine sK fun K hK => ?_
  have HS0 := Lib.hid (HB.out.size)
  have MX23 : w.heap.size < Wx.heap.size := BX23.out.lt
  have MX24 : w.heap.size + 1 < Wx.heap.size := BX24.out.lt
  have MX25 : w.heap.size + 1 + 1 < Wx.heap.size := BX25.out.lt
  have MX26 : w.heap.size + 1 + 1 + 1 < Wx.heap.size := BX26.out.lt
  refine wp_region_seqplan 10 [(true, 0), (true, 1), (true, 2), (true, 3), (false, 4), (true, 5), (true, 6), (true, 7), (true, 8), (true, 9)] (by rfl) (by simp) (fun T hT => ?_)
  iterate 4 (refine wpPlan_takeL (v := ?_) rfl (by rfl) (fun w' hw => ?_) ?_; rotate_left; go_simp; with_reducible rfl; simp only [Act.put, rA, rB, rC])
  refine wpPlan_callE rfl (by rfl) Tryz.call48 (by rfl) (fun w' hw => (zrdiv _ _ (Int.natAbs (a)) (Int.natAbs (b)) (u1) (u2) _ HZ1.out HZ2.out (BX21.out.gr hw) (BX22.out.gr hw) (by have h0 := H0.out; have hb := HBS.out; have hr := HRS.out; first | omega | (try simp only [← HZ2.out, ← HZ1.out]) <;> first | rfl | omega | (simp; done) | grind) (by omega) (by omega)).mono ?_)
  rintro e vv1 ⟨⟨rv1, rv2, rfl, bx27, bx28⟩, hg0⟩
  obtain ⟨ao1, nn1, cc1, rfl⟩ := Rn.sl bx27
  obtain ⟨ao2, nn2, cc2, rfl⟩ := Rn.sl bx28
  refine ⟨_, rfl, hg0, ?_⟩
  replace hg0 := Gr.trans hw hg0; clear hw
  have HG0 := Lib.hid hg0; clear hg0
  replace BX21 := rG BX21 HG0
  replace BX22 := rG BX22 HG0
  replace BX23 := bG BX23 HG0
  replace BX24 := bG BX24 HG0
  replace BX25 := bG BX25 HG0
  replace BX26 := bG BX26 HG0
  replace HB := Lib.hid (HB.out.trans (HG0.out.mono HB.out.size))
  have BX27 := Lib.hid bx27; clear bx27
  have BX28 := Lib.hid bx28; clear bx28
  clear HG0
  clear lx23; have lx23 := BX23.out.cells
  clear lx24; have lx24 := BX24.out.cells
  simp only [Act.put, rA, rB, rC]
  iterate 5 (refine wpPlan_takeL (v := ?_) rfl (by rfl) (fun w' hw => ?_) ?_; rotate_left; go_simp; with_reducible rfl; simp only [Act.put, rA, rB, rC])
  refine wpPlan_nil (hT.out _ _ ?_); clear hT T
  intro vw1 hg
  simp only [puts, Act.put, rA, rB, rC, rD, rE, ↓reduceIte, Nat.reduceEqDiff]
  clear lx23 lx24
  have HG := Lib.hid (hg)
  clear hg
  replace BX21 := rG BX21 HG
  replace BX22 := rG BX22 HG
  replace BX23 := bG BX23 HG
  replace BX24 := bG BX24 HG
  replace BX25 := bG BX25 HG
  replace BX26 := bG BX26 HG
  replace BX27 := rG BX27 HG
  replace BX28 := rG BX28 HG
  have r0 := Gr.refl vw1
  go_wp2
  refine hK.out _ _ ?_; clear hK K
  show Code.wp _ _ _ _ _
  clear r0
  refine forgetW (fun w2 => Rn w2 (.slice ao_va n_va c_va) (Int.natAbs (a)) ∧ Rn w2 (.slice ao_vb n_vb c_vb) (Int.natAbs (b)) ∧ Bx w2 (w.heap.size) 38 #[.bool (decide ((a) < 0)), (.slice ao_va n_va c_va)] ∧ Bx w2 (w.heap.size + 1) 38 #[.bool (decide ((b) < 0)), (.slice ao_vb n_vb c_vb)] ∧ Bx w2 (w.heap.size + 1 + 1) 38 #[.bool false, .slice none 0 0] ∧ Bx w2 (w.heap.size + 1 + 1 + 1) 38 #[.bool false, .slice none 0 0] ∧ Rn w2 (.slice ao1 nn1 cc1) (u1) ∧ Rn w2 (.slice ao2 nn2 cc2) (u2) ∧ Below w.heap.size w w2) ⟨BX21.out, BX22.out, BX23.out, BX24.out, BX25.out, BX26.out, BX27.out, BX28.out, HB.out.trans (HG.out.mono HB.out.size)⟩ ?_
  clear HB HG BX21 BX22 BX23 BX24 BX25 BX26 BX27 BX28
  rintro Wx1 ⟨bx21, bx22, bx23, bx24, bx25, bx26, bx27, bx28, HB⟩
  replace HB := Lib.hid HB
  have hd1 : decide ((a) < 0) = false := decide_eq_false (by have h0 := H0.out; have hb := HBS.out; have hr := HRS.out; first | omega | (try simp only [← HZ2.out, ← HZ1.out]) <;> first | rfl | omega | (simp; done) | grind)
  have hd2 : decide ((b) < 0) = false := decide_eq_false (by have h0 := H0.out; have hb := HBS.out; have hr := HRS.out; first | omega | (try simp only [← HZ2.out, ← HZ1.out]) <;> first | rfl | omega | (simp; done) | grind)
  have hd3 : decide ((a) < 0) = false := decide_eq_false (by have h0 := H0.out; have hb := HBS.out; have hr := HRS.out; first | omega | (try simp only [← HZ2.out, ← HZ1.out]) <;> first | rfl | omega | (simp; done) | grind)
  have HZ3 : Hid ((if false then -((u1 : Nat) : Int) else ((u1 : Nat) : Int)) = q) := Lib.hid (by have h0 := H0.out; have hb := HBS.out; have hr := HRS.out; rw [← HQ.out, ← HZ1.out]; exact dq false false (decide_eq_false (by omega)) (decide_eq_false (by omega)) (by omega) (.inl (by omega)))
  have su3 : tw (Int.natAbs (q)) ≤ 100000000 := by have e := HZ3.out; first | omega | (rw [← e]; split <;> simp <;> omega)
  have HZ4 : Hid ((if false then -((u2 : Nat) : Int) else ((u2 : Nat) : Int)) = r) := Lib.hid (by have h0 := H0.out; have hb := HBS.out; have hr := HRS.out; rw [← HR.out, ← HZ2.out]; exact dr false (decide_eq_false (by omega)) (by omega) (.inl (by omega)))
  have su4 : tw (Int.natAbs (r)) ≤ 100000000 := by have e := HZ4.out; first | omega | (rw [← e]; split <;> simp <;> omega)
  have lx23 := bx23.cells
  have lx24 := bx24.cells
  have BX21 := Lib.hid bx21
  have BX22 := Lib.hid bx22
  have BX23 := Lib.hid bx23
  have BX24 := Lib.hid bx24
  have BX25 := Lib.hid bx25
  have BX26 := Lib.hid bx26
  have BX27 := Lib.hid bx27
  have BX28 := Lib.hid bx28
  clear bx21 bx22 bx23 bx24 bx25 bx26 bx27 bx28
  refine sK fun K hK => ?_
  have HS0 := Lib.hid (HB.out.size)
  have MX23 : w.heap.size < Wx1.heap.size := BX23.out.lt
  have MX24 : w.heap.size + 1 < Wx1.heap.size := BX24.out.lt
  have MX25 : w.heap.size + 1 + 1 < Wx1.heap.size := BX25.out.lt
  have MX26 : w.heap.size + 1 + 1 + 1 < Wx1.heap.size := BX26.out.lt
  refine wp_region_plan 13 [11, 12] [] (fun i => if i = 11 then 8 else 9) (fun i => if i = 11 then .cells #[.bool false, .slice none 0 0] 38 else .cells #[.bool false, .slice none 0 0] 38) [(true, 0), (true, 1), (true, 2), (true, 3), (true, 4), (true, 5), (true, 7), (true, 8), (true, 9), (false, 6), (false, 10)] (by kernel_rfl) (by kernel_rfl) (by intro i hi; simp only [List.mem_cons, List.not_mem_nil, or_false] at hi; rcases hi with rfl | rfl <;> exact ⟨_, rfl, rfl, rfl, by simp, fun ρ w => by kernel_rfl⟩) (fun i hi => by cases hi) (fun _ _ _ _ _ h => h) (fun T hT => ?_)
  iterate 9 (refine wpPlan_takeL (v := ?_) rfl (by rfl) (fun w' hw => ?_) ?_; rotate_left; go_simp; with_reducible rfl; simp only [Act.put, rA, rB, rC])
  refine wpPlan_callE rfl (by rfl) Tryz.call42 (by rfl) (fun w' hw => (zfrom_any false (u1) (q) _ _ HZ3.out (BX27.out.gr hw)).mono ?_)
  rintro e vv1 ⟨⟨rv3, rfl, bx29⟩, hg0⟩
  obtain ⟨ao3, nn3, cc3, rfl⟩ := Rn.sl bx29
  refine ⟨_, rfl, hg0, ?_⟩
  replace hg0 := Gr.trans hw hg0; clear hw
  have HG0 := Lib.hid hg0; clear hg0
  replace BX21 := rG BX21 HG0
  replace BX22 := rG BX22 HG0
  replace BX23 := bG BX23 HG0
  replace BX24 := bG BX24 HG0
  replace BX25 := bG BX25 HG0
  replace BX26 := bG BX26 HG0
  replace BX27 := rG BX27 HG0
  replace BX28 := rG BX28 HG0
  replace HB := Lib.hid (HB.out.trans (HG0.out.mono HB.out.size))
  have BX29 := Lib.hid bx29; clear bx29
  clear HG0
  clear lx23; have lx23 := BX23.out.cells
  clear lx24; have lx24 := BX24.out.cells
  simp only [Act.put, rA, rB, rC]
  refine wpPlan_callE rfl (by rfl) Tryz.call42 (by rfl) (fun w' hw => (zfrom_any false (u2) (r) _ _ HZ4.out (BX28.out.gr hw)).mono ?_)
  rintro e vv2 ⟨⟨rv4, rfl, bx30⟩, hg0⟩
  obtain ⟨ao4, nn4, cc4, rfl⟩ := Rn.sl bx30
  refine ⟨_, rfl, hg0, ?_⟩
  replace hg0 := Gr.trans hw hg0; clear hw
  have HG0 := Lib.hid hg0; clear hg0
  replace BX21 := rG BX21 HG0
  replace BX22 := rG BX22 HG0
  replace BX23 := bG BX23 HG0
  replace BX24 := bG BX24 HG0
  replace BX25 := bG BX25 HG0
  replace BX26 := bG BX26 HG0
  replace BX27 := rG BX27 HG0
  replace BX28 := rG BX28 HG0
  replace BX29 := rG BX29 HG0
  replace HB := Lib.hid (HB.out.trans (HG0.out.mono HB.out.size))
  have BX30 := Lib.hid bx30; clear bx30
  clear HG0
  clear lx23; have lx23 := BX23.out.cells
  clear lx24; have lx24 := BX24.out.cells
  simp only [Act.put, rA, rB, rC]
  refine wpPlan_nil (hT.out _ _ ?_); clear hT T
  intro G vw2 hg hf
  simp only [puts, Act.put, rA, rB, rC, rD, rE, ↓reduceIte, Nat.reduceEqDiff]
  clear lx23 lx24
  have HG := Lib.hid (hg)
  clear hg
  have bx31 := Bx.of_fresh hf (i := 11) (by decide) rfl
  have yx31 := (hf.1 11 (by decide)).1
  have bx32 := Bx.of_fresh hf (i := 12) (by decide) rfl
  have yx32 := (hf.1 12 (by decide)).1
  have dx31_32 : G 11 ≠ G 12 := fun e => absurd (hf.2 11 (by decide) 12 (by decide) e) (by decide)
  clear hf
  generalize G 11 = gx31 at *
  generalize G 12 = gx32 at *
  have qx23_31 : w.heap.size < gx31 := Nat.lt_of_lt_of_le MX23 yx31
  have qx23_32 : w.heap.size < gx32 := Nat.lt_of_lt_of_le MX23 yx32
  have qx24_31 : w.heap.size + 1 < gx31 := Nat.lt_of_lt_of_le MX24 yx31
  have qx24_32 : w.heap.size + 1 < gx32 := Nat.lt_of_lt_of_le MX24 yx32
  have qx25_31 : w.heap.size + 1 + 1 < gx31 := Nat.lt_of_lt_of_le MX25 yx31
  have qx25_32 : w.heap.size + 1 + 1 < gx32 := Nat.lt_of_lt_of_le MX25 yx32
  have qx26_31 : w.heap.size + 1 + 1 + 1 < gx31 := Nat.lt_of_lt_of_le MX26 yx31
  have qx26_32 : w.heap.size + 1 + 1 + 1 < gx32 := Nat.lt_of_lt_of_le MX26 yx32
  replace yx31 : w.heap.size ≤ gx31 := Nat.le_trans HS0.out yx31
  replace yx32 : w.heap.size ≤ gx32 := Nat.le_trans HS0.out yx32
  replace BX21 := rG BX21 HG
  replace BX22 := rG BX22 HG
  replace BX23 := bG BX23 HG
  replace BX24 := bG BX24 HG
  replace BX25 := bG BX25 HG
  replace BX26 := bG BX26 HG
  replace BX27 := rG BX27 HG
  replace BX28 := rG BX28 HG
  replace BX29 := rG BX29 HG
  replace BX30 := rG BX30 HG
  have lx31 := bx31.cells; have fx31 := bx31.free
  have lx32 := bx32.cells; have fx32 := bx32.free
  have r0 := Gr.refl vw2
  have BX31 := Lib.hid bx31; clear bx31
  have BX32 := Lib.hid bx32; clear bx32
  go_wp2
  refine hK.out _ _ ?_; clear hK K
  show Code.wp _ _ _ _ _
  clear lx31 fx31
  clear lx32 fx32
  clear r0
  refine forgetW (fun w2 => Rn w2 (.slice ao_vb n_vb c_vb) (Int.natAbs (b)) ∧ Bx w2 (w.heap.size + 1) 38 #[.bool (decide ((b) < 0)), (.slice ao_vb n_vb c_vb)] ∧ Bx w2 (w.heap.size + 1 + 1) 38 #[.bool false, .slice none 0 0] ∧ Bx w2 (w.heap.size + 1 + 1 + 1) 38 #[.bool false, .slice none 0 0] ∧ Rn w2 (.slice ao3 nn3 cc3) (Int.natAbs (q)) ∧ Rn w2 (.slice ao4 nn4 cc4) (Int.natAbs (r)) ∧ Bx w2 gx31 38 #[.bool (decide ((q) < 0)), (.slice ao3 nn3 cc3)] ∧ Bx w2 gx32 38 #[.bool (decide ((r) < 0)), (.slice ao4 nn4 cc4)] ∧ Below w.heap.size w w2) ⟨ro2 (ro2 (BX22.out) (Rn.ne BX22.out BX31.out (by decide))) (Rn.ne BX22.out BX32.out (by decide)), so2 (so2 (BX24.out) (by show w.heap.size + 1 ≠ gx31; omega)) (by show w.heap.size + 1 ≠ gx32; omega), so2 (so2 (BX25.out) (by show w.heap.size + 1 + 1 ≠ gx31; omega)) (by show w.heap.size + 1 + 1 ≠ gx32; omega), so2 (so2 (BX26.out) (by show w.heap.size + 1 + 1 + 1 ≠ gx31; omega)) (by show w.heap.size + 1 + 1 + 1 ≠ gx32; omega), ro2 (ro2 (BX29.out) (Rn.ne BX29.out BX31.out (by decide))) (Rn.ne BX29.out BX32.out (by decide)), ro2 (ro2 (BX30.out) (Rn.ne BX30.out BX31.out (by decide))) (Rn.ne BX30.out BX32.out (by decide)), (so2 (((BX31.out).set 0 _).set 1 _) (by show gx31 ≠ gx32; omega)).eq (by simp only [rA, rB, rC]), (((so2 (BX32.out) (by show gx32 ≠ gx31; omega)).set 0 _).set 1 _).eq (by simp only [rA, rB, rC]), sc2 (sc2 (HB.out.trans (HG.out.mono HB.out.size)) (by show w.heap.size ≤ gx31; omega)) (by show w.heap.size ≤ gx32; omega)⟩ ?_
  clear HB HG BX21 BX22 BX23 BX24 BX25 BX26 BX27 BX28 BX29 BX30 BX31 BX32
  rintro Wx2 ⟨bx22, bx24, bx25, bx26, bx29, bx30, bx31, bx32, HB⟩
  replace HB := Lib.hid HB
  clear hd1 hd2 hd3
  refine wp_seq ?_
  have hd4 : ¬ (t < 0) := by have h0 := H0.out; have hb := HBS.out; have hr := HRS.out; omega
  have lx24 := bx24.cells
  have lx32 := bx32.cells
  have BX22 := Lib.hid bx22
  have BX24 := Lib.hid bx24
  have BX25 := Lib.hid bx25
  have BX26 := Lib.hid bx26
  have BX29 := Lib.hid bx29
  have BX30 := Lib.hid bx30
  have BX31 := Lib.hid bx31
  have BX32 := Lib.hid bx32
  clear bx22 bx24 bx25 bx26 bx29 bx30 bx31 bx32
  refine sK fun K hK => ?_
  refine wp_region_seqplan 8 [(true, 0), (true, 1), (true, 2), (true, 3), (true, 4), (true, 5), (true, 6), (true, 7)] (by rfl) (by simp) (fun T hT => ?_)
  refine wpPlan_takeL (v := ?_) rfl (by rfl) (fun w' hw => ?_) ?_; rotate_left; go_simp; with_reducible rfl; simp only [Act.put, rA, rB, rC]
  refine wpPlan_callL rfl (by rfl) Tryz.call14 (fun w' hw => zrsign (r) (t) _ _ (HT_.out) (BX30.out.gr hw)) (by rfl) ?_
  simp only [Act.put, rA, rB, rC]
  iterate 2 (refine wpPlan_takeL (v := ?_) rfl (by rfl) (fun w' hw => ?_) ?_; rotate_left; go_simp; with_reducible rfl; simp only [Act.put, rA, rB, rC])
  iterate 3 (refine wpPlan_skipL rfl (by rfl) ?_; simp only [Act.put, rA, rB, rC])
  refine wpPlan_takeL (v := ?_) rfl (by rfl) (fun w' hw => ?_) ?_; rotate_left; go_simp; with_reducible rfl; simp only [Act.put, rA, rB, rC]
  refine wpPlan_nil (hT.out _ _ ?_); clear hT T
  intro vw3 hg
  simp only [puts, Act.put, rA, rB, rC, rD, rE, ↓reduceIte, Nat.reduceEqDiff]
  clear lx24 lx32
  have HG := Lib.hid (hg)
  clear hg
  replace BX22 := rG BX22 HG
  replace BX24 := bG BX24 HG
  replace BX25 := bG BX25 HG
  replace BX26 := bG BX26 HG
  replace BX29 := rG BX29 HG
  replace BX30 := rG BX30 HG
  replace BX31 := bG BX31 HG
  replace BX32 := bG BX32 HG
  have r0 := Gr.refl vw3
  go_wp2
  refine hK.out _ _ ?_; clear hK K
  show Code.wp _ _ _ _ _
  clear r0
  refine forgetW (fun w2 => Rn w2 (.slice ao_vb n_vb c_vb) (Int.natAbs (b)) ∧ Bx w2 (w.heap.size + 1) 38 #[.bool (decide ((b) < 0)), (.slice ao_vb n_vb c_vb)] ∧ Bx w2 (w.heap.size + 1 + 1) 38 #[.bool false, .slice none 0 0] ∧ Bx w2 (w.heap.size + 1 + 1 + 1) 38 #[.bool false, .slice none 0 0] ∧ Rn w2 (.slice ao3 nn3 cc3) (Int.natAbs (q)) ∧ Rn w2 (.slice ao4 nn4 cc4) (Int.natAbs (r)) ∧ Bx w2 gx31 38 #[.bool (decide ((q) < 0)), (.slice ao3 nn3 cc3)] ∧ Bx w2 gx32 38 #[.bool (decide ((r) < 0)), (.slice ao4 nn4 cc4)] ∧ Below w.heap.size w w2) ⟨BX22.out, BX24.out, BX25.out, BX26.out, BX29.out, BX30.out, BX31.out, BX32.out, HB.out.trans (HG.out.mono HB.out.size)⟩ ?_
  clear HB HG BX22 BX24 BX25 BX26 BX29 BX30 BX31 BX32
  rintro Wx3 ⟨bx22, bx24, bx25, bx26, bx29, bx30, bx31, bx32, HB⟩
  replace HB := Lib.hid HB
  clear hd4
  refine wp_cond_false (by rfl) ?_
  refine wp_skip ?_
  show Code.wp _ _ _ _ _
  refine wp_seq ?_
  have hd5 : ¬ (t < 0) := by have h0 := H0.out; have hb := HBS.out; have hr := HRS.out; omega
  have lx32 := bx32.cells
  have BX22 := Lib.hid bx22
  have BX24 := Lib.hid bx24
  have BX25 := Lib.hid bx25
  have BX26 := Lib.hid bx26
  have BX29 := Lib.hid bx29
  have BX30 := Lib.hid bx30
  have BX31 := Lib.hid bx31
  have BX32 := Lib.hid bx32
  clear bx22 bx24 bx25 bx26 bx29 bx30 bx31 bx32
  refine sK fun K hK => ?_
  refine wp_region_seqplan 3 [(true, 0), (true, 1), (true, 2)] (by rfl) (by simp) (fun T hT => ?_)
  refine wpPlan_takeL (v := ?_) rfl (by rfl) (fun w' hw => ?_) ?_; rotate_left; go_simp; with_reducible rfl; simp only [Act.put, rA, rB, rC]
  refine wpPlan_callL rfl (by rfl) Tryz.call14 (fun w' hw => zrsign (r) (t) _ _ (HT_.out) (BX30.out.gr hw)) (by rfl) ?_
  simp only [Act.put, rA, rB, rC]
  refine wpPlan_takeL (v := ?_) rfl (by rfl) (fun w' hw => ?_) ?_; rotate_left; go_simp; with_reducible rfl; simp only [Act.put, rA, rB, rC]
  refine wpPlan_nil (hT.out _ _ ?_); clear hT T
  intro vw4 hg
  simp only [puts, Act.put, rA, rB, rC, rD, rE, ↓reduceIte, Nat.reduceEqDiff]
  clear lx32
  have HG := Lib.hid (hg)
  clear hg
  replace BX22 := rG BX22 HG
  replace BX24 := bG BX24 HG
  replace BX25 := bG BX25 HG
  replace BX26 := bG BX26 HG
  replace BX29 := rG BX29 HG
  replace BX30 := rG BX30 HG
  replace BX31 := bG BX31 HG
  replace BX32 := bG BX32 HG
  have r0 := Gr.refl vw4
  go_wp2
  refine hK.out _ _ ?_; clear hK K
  show Code.wp _ _ _ _ _
  clear r0
  refine forgetW (fun w2 => Rn w2 (.slice ao_vb n_vb c_vb) (Int.natAbs (b)) ∧ Bx w2 (w.heap.size + 1) 38 #[.bool (decide ((b) < 0)), (.slice ao_vb n_vb c_vb)] ∧ Bx w2 (w.heap.size + 1 + 1) 38 #[.bool false, .slice none 0 0] ∧ Bx w2 (w.heap.size + 1 + 1 + 1) 38 #[.bool false, .slice none 0 0] ∧ Rn w2 (.slice ao3 nn3 cc3) (Int.natAbs (q)) ∧ Rn w2 (.slice ao4 nn4 cc4) (Int.natAbs (r)) ∧ Bx w2 gx31 38 #[.bool (decide ((q) < 0)), (.slice ao3 nn3 cc3)] ∧ Bx w2 gx32 38 #[.bool (decide ((r) < 0)), (.slice ao4 nn4 cc4)] ∧ Below w.heap.size w w2) ⟨BX22.out, BX24.out, BX25.out, BX26.out, BX29.out, BX30.out, BX31.out, BX32.out, HB.out.trans (HG.out.mono HB.out.size)⟩ ?_
  clear HB HG BX22 BX24 BX25 BX26 BX29 BX30 BX31 BX32
  rintro Wx5 ⟨bx22, bx24, bx25, bx26, bx29, bx30, bx31, bx32, HB⟩
  replace HB := Lib.hid HB
  clear hd5
  refine wp_cond_false (by rfl) ?_
  refine wp_skip ?_
  show Code.wp _ _ _ _ _
  have lx25 := bx25.cells; have fx25 := bx25.free
  have lx26 := bx26.cells; have fx26 := bx26.free
  have lx31 := bx31.cells; have fx31 := bx31.free
  have lx32 := bx32.cells; have fx32 := bx32.free
  have r0 := Gr.refl Wx5
  have BX22 := Lib.hid bx22; clear bx22
  have BX24 := Lib.hid bx24; clear bx24
  have BX25 := Lib.hid bx25; clear bx25
  have BX26 := Lib.hid bx26; clear bx26
  have BX29 := Lib.hid bx29; clear bx29
  have BX30 := Lib.hid bx30; clear bx30
  have BX31 := Lib.hid bx31; clear bx31
  have BX32 := Lib.hid bx32; clear bx32
  refine sK fun K hK => ?_
  go_region
  go_wp2
  refine hK.out _ _ ?_; clear hK K
  show Code.wp _ _ _ _ _
  clear r0 lx25 fx25 lx26 fx26 lx31 fx31 lx32 fx32
  refine forgetW (fun w2 => Bx w2 (w.heap.size + 1 + 1) 38 #[.bool (decide ((q) < 0)), (.slice ao3 nn3 cc3)] ∧ Bx w2 (w.heap.size + 1 + 1 + 1) 38 #[.bool (decide ((r) < 0)), (.slice ao4 nn4 cc4)] ∧ Rn w2 (.slice ao3 nn3 cc3) (Int.natAbs (q)) ∧ Rn w2 (.slice ao4 nn4 cc4) (Int.natAbs (r)) ∧ Below w.heap.size w w2) ⟨((so2 (((BX25.out).set 0 _).set 1 _) (by show w.heap.size + 1 + 1 ≠ w.heap.size + 1 + 1 + 1; omega)).eq (by simp only [rA, rB, rC])).gr ((Below.refl _ _).drew), ((((so2 (BX26.out) (by show w.heap.size + 1 + 1 + 1 ≠ w.heap.size + 1 + 1; omega)).set 0 _).set 1 _).eq (by simp only [rA, rB, rC])).gr ((Below.refl _ _).drew), (ro2 (ro2 (BX29.out) (Rn.ne BX29.out BX25.out (by decide))) (Rn.ne BX29.out BX26.out (by decide))).gr ((Below.refl _ _).drew), (ro2 (ro2 (BX30.out) (Rn.ne BX30.out BX25.out (by decide))) (Rn.ne BX30.out BX26.out (by decide))).gr ((Below.refl _ _).drew), (sc2 (sc2 (HB.out) (by show w.heap.size ≤ w.heap.size + 1 + 1; omega)) (by show w.heap.size ≤ w.heap.size + 1 + 1 + 1; omega)).drew⟩ ?_
  clear HB BX22 BX24 BX25 BX26 BX29 BX30 BX31 BX32
  rintro Wx7 ⟨bx25, bx26, bx29, bx30, HB⟩
  replace HB := Lib.hid HB
  refine wp_ret ?_
  try simp only [Exit.then, Exit.inBlock]
  have lx25 := bx25.cells
  have lx26 := bx26.cells
  have r0 := Gr.refl Wx7
  exact bodyPost_ret (v := .tuple #[(.agg #[.bool (decide ((q) < 0)), (.slice ao3 nn3 cc3)]), (.agg #[.bool (decide ((r) < 0)), (.slice ao4 nn4 cc4)])]) (by simp [results, Tryz.results16, go_sem, lx25 _ r0, lx26 _ r0]) rfl ⟨⟨(.slice ao3 nn3 cc3), (.slice ao4 nn4 cc4), rfl, bx29, bx30⟩, HB.out⟩

set_option maxRecDepth 20000 in
set_option maxHeartbeats 4000000 in
theorem zdiv_pn (a b q r t : Int) (va vb : Value) (w : World) (HQ : Hid (a / b = q)) (HR : Hid (a % b = r)) (HBS : Hid (b < 0)) (H0 : Hid (0 ≤ a)) (HT_ : Hid (sgI r = t)) (ht : ¬ t < 0) (HRS : Hid (0 ≤ r)) (hs_a : tw (Int.natAbs a) ≤ 100000000) (hs_b : tw (Int.natAbs b) ≤ 100000000) (bx21 : Rn w va (Int.natAbs (a))) (bx22 : Rn w vb (Int.natAbs (b))) :
    Calls Tryz.prog 16 #[(Value.agg #[.bool (decide ((a) < 0)), va]), (Value.agg #[.bool (decide ((b) < 0)), vb])] w fun e w' => (∃ r1 r2 : Value, e = .returned (.tuple #[(.agg #[.bool (decide ((q) < 0)), r1]), (.agg #[.bool (decide ((r) < 0)), r2])]) ∧ Rn w' r1 (Int.natAbs (q)) ∧ Rn w' r2 (Int.natAbs (r))) ∧ Below w.heap.size w w' := by
  obtain ⟨ao_va, n_va, c_va, rfl⟩ := Rn.sl bx21
  obtain ⟨ao_vb, n_vb, c_vb, rfl⟩ := Rn.sl bx22
  go_enter Tryz.func16, Tryz.ntmps16
  refine sK fun K hK => ?_
  refine wp_region_lit ?_
  go_wp2
  refine hK.out _ _ ?_; clear hK K
  show Code.wp _ _ _ _ _
  refine forgetW (fun w2 => Rn w2 (.slice ao_va n_va c_va) (Int.natAbs (a)) ∧ Rn w2 (.slice ao_vb n_vb c_vb) (Int.natAbs (b)) ∧ Bx w2 (w.heap.size) 38 #[.bool (decide ((a) < 0)), (.slice ao_va n_va c_va)] ∧ Bx w2 (w.heap.size + 1) 38 #[.bool (decide ((b) < 0)), (.slice ao_vb n_vb c_vb)] ∧ Bx w2 (w.heap.size + 1 + 1) 38 #[.bool false, .slice none 0 0] ∧ Bx w2 (w.heap.size + 1 + 1 + 1) 38 #[.bool false, .slice none 0 0] ∧ Below w.heap.size w w2) ⟨((((bx21).alloc _).alloc _).alloc _).alloc _, ((((bx22).alloc _).alloc _).alloc _).alloc _, (((Bx.at rfl).alloc _).alloc _).alloc _, ((Bx.at (by simp)).alloc _).alloc _, (Bx.at (by simp)).alloc _, Bx.at (by simp), ((((Below.refl _ _).alloc (Nat.le_refl _) _).alloc (by simp) _).alloc (by simp; omega) _).alloc (by simp; omega) _⟩ ?_
  clear bx21 bx22
  rintro Wx ⟨bx21, bx22, bx23, bx24, bx25, bx26, HB⟩
  replace HB := Lib.hid HB
  obtain ⟨u1, HZ1⟩ : ∃ z, Hid ((Int.natAbs (a)) / (Int.natAbs (b)) = z) := ⟨_, Lib.hid rfl⟩
  have su1 : tw (u1) ≤ 100000000 := by rw [← HZ1.out]; have := tw_div (Int.natAbs (a)) (Int.natAbs (b)); omega
  obtain ⟨u2, HZ2⟩ : ∃ z, Hid ((Int.natAbs (a)) % (Int.natAbs (b)) = z) := ⟨_, Lib.hid rfl⟩
  have su2 : tw (u2) ≤ 100000000 := by rw [← HZ2.out]; have := tw_mod (Int.natAbs (a)) (Int.natAbs (b)); omega
  have lx23 := bx23.cells
  have lx24 := bx24.cells
  have BX21 := Lib.hid bx21
  have BX22 := Lib.hid bx22
  have BX23 := Lib.hid bx23
  have BX24 := Lib.hid bx24
  have BX25 := Lib.hid bx25
  have BX26 := Lib.hid bx26
  clear bx21 bx22 bx23 bx24 bx25 bx26
  refine sK fun K hK => ?_
  have HS0 := Lib.hid (HB.out.size)
  have MX23 : w.heap.size < Wx.heap.size := BX23.out.lt
  have MX24 : w.heap.size + 1 < Wx.heap.size := BX24.out.lt
  have MX25 : w.heap.size + 1 + 1 < Wx.heap.size := BX25.out.lt
  have MX26 : w.heap.size + 1 + 1 + 1 < Wx.heap.size := BX26.out.lt
  refine wp_region_seqplan 10 [(true, 0), (true, 1), (true, 2), (true, 3), (false, 4), (true, 5), (true, 6), (true, 7), (true, 8), (true, 9)] (by rfl) (by simp) (fun T hT => ?_)
  iterate 4 (refine wpPlan_takeL (v := ?_) rfl (by rfl) (fun w' hw => ?_) ?_; rotate_left; go_simp; with_reducible rfl; simp only [Act.put, rA, rB, rC])
  refine wpPlan_callE rfl (by rfl) Tryz.call48 (by rfl) (fun w' hw => (zrdiv _ _ (Int.natAbs (a)) (Int.natAbs (b)) (u1) (u2) _ HZ1.out HZ2.out (BX21.out.gr hw) (BX22.out.gr hw) (by have h0 := H0.out; have hb := HBS.out; have hr := HRS.out; first | omega | (try simp only [← HZ2.out, ← HZ1.out]) <;> first | rfl | omega | (simp; done) | grind) (by omega) (by omega)).mono ?_)
  rintro e vv1 ⟨⟨rv1, rv2, rfl, bx27, bx28⟩, hg0⟩
  obtain ⟨ao1, nn1, cc1, rfl⟩ := Rn.sl bx27
  obtain ⟨ao2, nn2, cc2, rfl⟩ := Rn.sl bx28
  refine ⟨_, rfl, hg0, ?_⟩
  replace hg0 := Gr.trans hw hg0; clear hw
  have HG0 := Lib.hid hg0; clear hg0
  replace BX21 := rG BX21 HG0
  replace BX22 := rG BX22 HG0
  replace BX23 := bG BX23 HG0
  replace BX24 := bG BX24 HG0
  replace BX25 := bG BX25 HG0
  replace BX26 := bG BX26 HG0
  replace HB := Lib.hid (HB.out.trans (HG0.out.mono HB.out.size))
  have BX27 := Lib.hid bx27; clear bx27
  have BX28 := Lib.hid bx28; clear bx28
  clear HG0
  clear lx23; have lx23 := BX23.out.cells
  clear lx24; have lx24 := BX24.out.cells
  simp only [Act.put, rA, rB, rC]
  iterate 5 (refine wpPlan_takeL (v := ?_) rfl (by rfl) (fun w' hw => ?_) ?_; rotate_left; go_simp; with_reducible rfl; simp only [Act.put, rA, rB, rC])
  refine wpPlan_nil (hT.out _ _ ?_); clear hT T
  intro vw1 hg
  simp only [puts, Act.put, rA, rB, rC, rD, rE, ↓reduceIte, Nat.reduceEqDiff]
  clear lx23 lx24
  have HG := Lib.hid (hg)
  clear hg
  replace BX21 := rG BX21 HG
  replace BX22 := rG BX22 HG
  replace BX23 := bG BX23 HG
  replace BX24 := bG BX24 HG
  replace BX25 := bG BX25 HG
  replace BX26 := bG BX26 HG
  replace BX27 := rG BX27 HG
  replace BX28 := rG BX28 HG
  have r0 := Gr.refl vw1
  go_wp2
  refine hK.out _ _ ?_; clear hK K
  show Code.wp _ _ _ _ _
  clear r0
  refine forgetW (fun w2 => Rn w2 (.slice ao_va n_va c_va) (Int.natAbs (a)) ∧ Rn w2 (.slice ao_vb n_vb c_vb) (Int.natAbs (b)) ∧ Bx w2 (w.heap.size) 38 #[.bool (decide ((a) < 0)), (.slice ao_va n_va c_va)] ∧ Bx w2 (w.heap.size + 1) 38 #[.bool (decide ((b) < 0)), (.slice ao_vb n_vb c_vb)] ∧ Bx w2 (w.heap.size + 1 + 1) 38 #[.bool false, .slice none 0 0] ∧ Bx w2 (w.heap.size + 1 + 1 + 1) 38 #[.bool false, .slice none 0 0] ∧ Rn w2 (.slice ao1 nn1 cc1) (u1) ∧ Rn w2 (.slice ao2 nn2 cc2) (u2) ∧ Below w.heap.size w w2) ⟨BX21.out, BX22.out, BX23.out, BX24.out, BX25.out, BX26.out, BX27.out, BX28.out, HB.out.trans (HG.out.mono HB.out.size)⟩ ?_
  clear HB HG BX21 BX22 BX23 BX24 BX25 BX26 BX27 BX28
  rintro Wx1 ⟨bx21, bx22, bx23, bx24, bx25, bx26, bx27, bx28, HB⟩
  replace HB := Lib.hid HB
  have hd1 : decide ((a) < 0) = false := decide_eq_false (by have h0 := H0.out; have hb := HBS.out; have hr := HRS.out; first | omega | (try simp only [← HZ2.out, ← HZ1.out]) <;> first | rfl | omega | (simp; done) | grind)
  have hd2 : decide ((b) < 0) = true := decide_eq_true (by have h0 := H0.out; have hb := HBS.out; have hr := HRS.out; first | omega | (try simp only [← HZ2.out, ← HZ1.out]) <;> first | rfl | omega | (simp; done) | grind)
  have hd3 : decide ((a) < 0) = false := decide_eq_false (by have h0 := H0.out; have hb := HBS.out; have hr := HRS.out; first | omega | (try simp only [← HZ2.out, ← HZ1.out]) <;> first | rfl | omega | (simp; done) | grind)
  have HZ3 : Hid ((if true then -((u1 : Nat) : Int) else ((u1 : Nat) : Int)) = q) := Lib.hid (by have h0 := H0.out; have hb := HBS.out; have hr := HRS.out; rw [← HQ.out, ← HZ1.out]; exact dq false true (decide_eq_false (by omega)) (decide_eq_true (by omega)) (by omega) (.inl (by omega)))
  have su3 : tw (Int.natAbs (q)) ≤ 100000000 := by have e := HZ3.out; first | omega | (rw [← e]; split <;> simp <;> omega)
  have HZ4 : Hid ((if false then -((u2 : Nat) : Int) else ((u2 : Nat) : Int)) = r) := Lib.hid (by have h0 := H0.out; have hb := HBS.out; have hr := HRS.out; rw [← HR.out, ← HZ2.out]; exact dr false (decide_eq_false (by omega)) (by omega) (.inl (by omega)))
  have su4 : tw (Int.natAbs (r)) ≤ 100000000 := by have e := HZ4.out; first | omega | (rw [← e]; split <;> simp <;> omega)
  have lx23 := bx23.cells
  have lx24 := bx24.cells
  have BX21 := Lib.hid bx21
  have BX22 := Lib.hid bx22
  have BX23 := Lib.hid bx23
  have BX24 := Lib.hid bx24
  have BX25 := Lib.hid bx25
  have BX26 := Lib.hid bx26
  have BX27 := Lib.hid bx27
  have BX28 := Lib.hid bx28
  clear bx21 bx22 bx23 bx24 bx25 bx26 bx27 bx28
  refine sK fun K hK => ?_
  have HS0 := Lib.hid (HB.out.size)
  have MX23 : w.heap.size < Wx1.heap.size := BX23.out.lt
  have MX24 : w.heap.size + 1 < Wx1.heap.size := BX24.out.lt
  have MX25 : w.heap.size + 1 + 1 < Wx1.heap.size := BX25.out.lt
  have MX26 : w.heap.size + 1 + 1 + 1 < Wx1.heap.size := BX26.out.lt
  refine wp_region_plan 13 [11, 12] [] (fun i => if i = 11 then 8 else 9) (fun i => if i = 11 then .cells #[.bool false, .slice none 0 0] 38 else .cells #[.bool false, .slice none 0 0] 38) [(true, 0), (true, 1), (true, 2), (true, 3), (true, 4), (true, 5), (true, 7), (true, 8), (true, 9), (false, 6), (false, 10)] (by kernel_rfl) (by kernel_rfl) (by intro i hi; simp only [List.mem_cons, List.not_mem_nil, or_false] at hi; rcases hi with rfl | rfl <;> exact ⟨_, rfl, rfl, rfl, by simp, fun ρ w => by kernel_rfl⟩) (fun i hi => by cases hi) (fun _ _ _ _ _ h => h) (fun T hT => ?_)
  iterate 9 (refine wpPlan_takeL (v := ?_) rfl (by rfl) (fun w' hw => ?_) ?_; rotate_left; go_simp; with_reducible rfl; simp only [Act.put, rA, rB, rC])
  refine wpPlan_callE rfl (by rfl) Tryz.call42 (by rfl) (fun w' hw => (zfrom_any true (u1) (q) _ _ HZ3.out (BX27.out.gr hw)).mono ?_)
  rintro e vv1 ⟨⟨rv3, rfl, bx29⟩, hg0⟩
  obtain ⟨ao3, nn3, cc3, rfl⟩ := Rn.sl bx29
  refine ⟨_, rfl, hg0, ?_⟩
  replace hg0 := Gr.trans hw hg0; clear hw
  have HG0 := Lib.hid hg0; clear hg0
  replace BX21 := rG BX21 HG0
  replace BX22 := rG BX22 HG0
  replace BX23 := bG BX23 HG0
  replace BX24 := bG BX24 HG0
  replace BX25 := bG BX25 HG0
  replace BX26 := bG BX26 HG0
  replace BX27 := rG BX27 HG0
  replace BX28 := rG BX28 HG0
  replace HB := Lib.hid (HB.out.trans (HG0.out.mono HB.out.size))
  have BX29 := Lib.hid bx29; clear bx29
  clear HG0
  clear lx23; have lx23 := BX23.out.cells
  clear lx24; have lx24 := BX24.out.cells
  simp only [Act.put, rA, rB, rC]
  refine wpPlan_callE rfl (by rfl) Tryz.call42 (by rfl) (fun w' hw => (zfrom_any false (u2) (r) _ _ HZ4.out (BX28.out.gr hw)).mono ?_)
  rintro e vv2 ⟨⟨rv4, rfl, bx30⟩, hg0⟩
  obtain ⟨ao4, nn4, cc4, rfl⟩ := Rn.sl bx30
  refine ⟨_, rfl, hg0, ?_⟩
  replace hg0 := Gr.trans hw hg0; clear hw
  have HG0 := Lib.hid hg0; clear hg0
  replace BX21 := rG BX21 HG0
  replace BX22 := rG BX22 HG0
  replace BX23 := bG BX23 HG0
  replace BX24 := bG BX24 HG0
  replace BX25 := bG BX25 HG0
  replace BX26 := bG BX26 HG0
  replace BX27 := rG BX27 HG0
  replace BX28 := rG BX28 HG0
  replace BX29 := rG BX29 HG0
  replace HB := Lib.hid (HB.out.trans (HG0.out.mono HB.out.size))
  have BX30 := Lib.hid bx30; clear bx30
  clear HG0
  clear lx23; have lx23 := BX23.out.cells
  clear lx24; have lx24 := BX24.out.cells
  simp only [Act.put, rA, rB, rC]
  refine wpPlan_nil (hT.out _ _ ?_); clear hT T
  intro G vw2 hg hf
  simp only [puts, Act.put, rA, rB, rC, rD, rE, ↓reduceIte, Nat.reduceEqDiff]
  clear lx23 lx24
  have HG := Lib.hid (hg)
  clear hg
  have bx31 := Bx.of_fresh hf (i := 11) (by decide) rfl
  have yx31 := (hf.1 11 (by decide)).1
  have bx32 := Bx.of_fresh hf (i := 12) (by decide) rfl
  have yx32 := (hf.1 12 (by decide)).1
  have dx31_32 : G 11 ≠ G 12 := fun e => absurd (hf.2 11 (by decide) 12 (by decide) e) (by decide)
  clear hf
  generalize G 11 = gx31 at *
  generalize G 12 = gx32 at *
  have qx23_31 : w.heap.size < gx31 := Nat.lt_of_lt_of_le MX23 yx31
  have qx23_32 : w.heap.size < gx32 := Nat.lt_of_lt_of_le MX23 yx32
  have qx24_31 : w.heap.size + 1 < gx31 := Nat.lt_of_lt_of_le MX24 yx31
  have qx24_32 : w.heap.size + 1 < gx32 := Nat.lt_of_lt_of_le MX24 yx32
  have qx25_31 : w.heap.size + 1 + 1 < gx31 := Nat.lt_of_lt_of_le MX25 yx31
  have qx25_32 : w.heap.size + 1 + 1 < gx32 := Nat.lt_of_lt_of_le MX25 yx32
  have qx26_31 : w.heap.size + 1 + 1 + 1 < gx31 := Nat.lt_of_lt_of_le MX26 yx31
  have qx26_32 : w.heap.size + 1 + 1 + 1 < gx32 := Nat.lt_of_lt_of_le MX26 yx32
  replace yx31 : w.heap.size ≤ gx31 := Nat.le_trans HS0.out yx31
  replace yx32 : w.heap.size ≤ gx32 := Nat.le_trans HS0.out yx32
  replace BX21 := rG BX21 HG
  replace BX22 := rG BX22 HG
  replace BX23 := bG BX23 HG
  replace BX24 := bG BX24 HG
  replace BX25 := bG BX25 HG
  replace BX26 := bG BX26 HG
  replace BX27 := rG BX27 HG
  replace BX28 := rG BX28 HG
  replace BX29 := rG BX29 HG
  replace BX30 := rG BX30 HG
  have lx31 := bx31.cells; have fx31 := bx31.free
  have lx32 := bx32.cells; have fx32 := bx32.free
  have r0 := Gr.refl vw2
  have BX31 := Lib.hid bx31; clear bx31
  have BX32 := Lib.hid bx32; clear bx32
  go_wp2
  refine hK.out _ _ ?_; clear hK K
  show Code.wp _ _ _ _ _
  clear lx31 fx31
  clear lx32 fx32
  clear r0
  refine forgetW (fun w2 => Rn w2 (.slice ao_vb n_vb c_vb) (Int.natAbs (b)) ∧ Bx w2 (w.heap.size + 1) 38 #[.bool (decide ((b) < 0)), (.slice ao_vb n_vb c_vb)] ∧ Bx w2 (w.heap.size + 1 + 1) 38 #[.bool false, .slice none 0 0] ∧ Bx w2 (w.heap.size + 1 + 1 + 1) 38 #[.bool false, .slice none 0 0] ∧ Rn w2 (.slice ao3 nn3 cc3) (Int.natAbs (q)) ∧ Rn w2 (.slice ao4 nn4 cc4) (Int.natAbs (r)) ∧ Bx w2 gx31 38 #[.bool (decide ((q) < 0)), (.slice ao3 nn3 cc3)] ∧ Bx w2 gx32 38 #[.bool (decide ((r) < 0)), (.slice ao4 nn4 cc4)] ∧ Below w.heap.size w w2) ⟨ro2 (ro2 (BX22.out) (Rn.ne BX22.out BX31.out (by decide))) (Rn.ne BX22.out BX32.out (by decide)), so2 (so2 (BX24.out) (by show w.heap.size + 1 ≠ gx31; omega)) (by show w.heap.size + 1 ≠ gx32; omega), so2 (so2 (BX25.out) (by show w.heap.size + 1 + 1 ≠ gx31; omega)) (by show w.heap.size + 1 + 1 ≠ gx32; omega), so2 (so2 (BX26.out) (by show w.heap.size + 1 + 1 + 1 ≠ gx31; omega)) (by show w.heap.size + 1 + 1 + 1 ≠ gx32; omega), ro2 (ro2 (BX29.out) (Rn.ne BX29.out BX31.out (by decide))) (Rn.ne BX29.out BX32.out (by decide)), ro2 (ro2 (BX30.out) (Rn.ne BX30.out BX31.out (by decide))) (Rn.ne BX30.out BX32.out (by decide)), (so2 (((BX31.out).set 0 _).set 1 _) (by show gx31 ≠ gx32; omega)).eq (by simp only [rA, rB, rC]), (((so2 (BX32.out) (by show gx32 ≠ gx31; omega)).set 0 _).set 1 _).eq (by simp only [rA, rB, rC]), sc2 (sc2 (HB.out.trans (HG.out.mono HB.out.size)) (by show w.heap.size ≤ gx31; omega)) (by show w.heap.size ≤ gx32; omega)⟩ ?_
  clear HB HG BX21 BX22 BX23 BX24 BX25 BX26 BX27 BX28 BX29 BX30 BX31 BX32
  rintro Wx2 ⟨bx22, bx24, bx25, bx26, bx29, bx30, bx31, bx32, HB⟩
  replace HB := Lib.hid HB
  clear hd1 hd2 hd3
  refine wp_seq ?_
  have hd4 : ¬ (t < 0) := by have h0 := H0.out; have hb := HBS.out; have hr := HRS.out; omega
  have lx24 := bx24.cells
  have lx32 := bx32.cells
  have BX22 := Lib.hid bx22
  have BX24 := Lib.hid bx24
  have BX25 := Lib.hid bx25
  have BX26 := Lib.hid bx26
  have BX29 := Lib.hid bx29
  have BX30 := Lib.hid bx30
  have BX31 := Lib.hid bx31
  have BX32 := Lib.hid bx32
  clear bx22 bx24 bx25 bx26 bx29 bx30 bx31 bx32
  refine sK fun K hK => ?_
  refine wp_region_seqplan 8 [(true, 0), (true, 1), (true, 2), (true, 3), (true, 4), (true, 5), (true, 6), (true, 7)] (by rfl) (by simp) (fun T hT => ?_)
  refine wpPlan_takeL (v := ?_) rfl (by rfl) (fun w' hw => ?_) ?_; rotate_left; go_simp; with_reducible rfl; simp only [Act.put, rA, rB, rC]
  refine wpPlan_callL rfl (by rfl) Tryz.call14 (fun w' hw => zrsign (r) (t) _ _ (HT_.out) (BX30.out.gr hw)) (by rfl) ?_
  simp only [Act.put, rA, rB, rC]
  iterate 2 (refine wpPlan_takeL (v := ?_) rfl (by rfl) (fun w' hw => ?_) ?_; rotate_left; go_simp; with_reducible rfl; simp only [Act.put, rA, rB, rC])
  iterate 3 (refine wpPlan_skipL rfl (by rfl) ?_; simp only [Act.put, rA, rB, rC])
  refine wpPlan_takeL (v := ?_) rfl (by rfl) (fun w' hw => ?_) ?_; rotate_left; go_simp; with_reducible rfl; simp only [Act.put, rA, rB, rC]
  refine wpPlan_nil (hT.out _ _ ?_); clear hT T
  intro vw3 hg
  simp only [puts, Act.put, rA, rB, rC, rD, rE, ↓reduceIte, Nat.reduceEqDiff]
  clear lx24 lx32
  have HG := Lib.hid (hg)
  clear hg
  replace BX22 := rG BX22 HG
  replace BX24 := bG BX24 HG
  replace BX25 := bG BX25 HG
  replace BX26 := bG BX26 HG
  replace BX29 := rG BX29 HG
  replace BX30 := rG BX30 HG
  replace BX31 := bG BX31 HG
  replace BX32 := bG BX32 HG
  have r0 := Gr.refl vw3
  go_wp2
  refine hK.out _ _ ?_; clear hK K
  show Code.wp _ _ _ _ _
  clear r0
  refine forgetW (fun w2 => Rn w2 (.slice ao_vb n_vb c_vb) (Int.natAbs (b)) ∧ Bx w2 (w.heap.size + 1) 38 #[.bool (decide ((b) < 0)), (.slice ao_vb n_vb c_vb)] ∧ Bx w2 (w.heap.size + 1 + 1) 38 #[.bool false, .slice none 0 0] ∧ Bx w2 (w.heap.size + 1 + 1 + 1) 38 #[.bool false, .slice none 0 0] ∧ Rn w2 (.slice ao3 nn3 cc3) (Int.natAbs (q)) ∧ Rn w2 (.slice ao4 nn4 cc4) (Int.natAbs (r)) ∧ Bx w2 gx31 38 #[.bool (decide ((q) < 0)), (.slice ao3 nn3 cc3)] ∧ Bx w2 gx32 38 #[.bool (decide ((r) < 0)), (.slice ao4 nn4 cc4)] ∧ Below w.heap.size w w2) ⟨BX22.out, BX24.out, BX25.out, BX26.out, BX29.out, BX30.out, BX31.out, BX32.out, HB.out.trans (HG.out.mono HB.out.size)⟩ ?_
  clear HB HG BX22 BX24 BX25 BX26 BX29 BX30 BX31 BX32
  rintro Wx3 ⟨bx22, bx24, bx25, bx26, bx29, bx30, bx31, bx32, HB⟩
  replace HB := Lib.hid HB
  clear hd4
  refine wp_cond_false (by rfl) ?_
  refine wp_skip ?_
  show Code.wp _ _ _ _ _
  refine wp_seq ?_
  have hd5 : ¬ (t < 0) := by have h0 := H0.out; have hb := HBS.out; have hr := HRS.out; omega
  have lx32 := bx32.cells
  have BX22 := Lib.hid bx22
  have BX24 := Lib.hid bx24
  have BX25 := Lib.hid bx25
  have BX26 := Lib.hid bx26
  have BX29 := Lib.hid bx29
  have BX30 := Lib.hid bx30
  have BX31 := Lib.hid bx31
  have BX32 := Lib.hid bx32
  clear bx22 bx24 bx25 bx26 bx29 bx30 bx31 bx32
  refine sK fun K hK => ?_
  refine wp_region_seqplan 3 [(true, 0), (true, 1), (true, 2)] (by rfl) (by simp) (fun T hT => ?_)
  refine wpPlan_takeL (v := ?_) rfl (by rfl) (fun w' hw => ?_) ?_; rotate_left; go_simp; with_reducible rfl; simp only [Act.put, rA, rB, rC]
  refine wpPlan_callL rfl (by rfl) Tryz.call14 (fun w' hw => zrsign (r) (t) _ _ (HT_.out) (BX30.out.gr hw)) (by rfl) ?_
  simp only [Act.put, rA, rB, rC]
  refine wpPlan_takeL (v := ?_) rfl (by rfl) (fun w' hw => ?_) ?_; rotate_left; go_simp; with_reducible rfl; simp only [Act.put, rA, rB, rC]
  refine wpPlan_nil (hT.out _ _ ?_); clear hT T
  intro vw4 hg
  simp only [puts, Act.put, rA, rB, rC, rD, rE, ↓reduceIte, Nat.reduceEqDiff]
  clear lx32
  have HG := Lib.hid (hg)
  clear hg
  replace BX22 := rG BX22 HG
  replace BX24 := bG BX24 HG
  replace BX25 := bG BX25 HG
  replace BX26 := bG BX26 HG
  replace BX29 := rG BX29 HG
  replace BX30 := rG BX30 HG
  replace BX31 := bG BX31 HG
  replace BX32 := bG BX32 HG
  have r0 := Gr.refl vw4
  go_wp2
  refine hK.out _ _ ?_; clear hK K
  show Code.wp _ _ _ _ _
  clear r0
  refine forgetW (fun w2 => Rn w2 (.slice ao_vb n_vb c_vb) (Int.natAbs (b)) ∧ Bx w2 (w.heap.size + 1) 38 #[.bool (decide ((b) < 0)), (.slice ao_vb n_vb c_vb)] ∧ Bx w2 (w.heap.size + 1 + 1) 38 #[.bool false, .slice none 0 0] ∧ Bx w2 (w.heap.size + 1 + 1 + 1) 38 #[.bool false, .slice none 0 0] ∧ Rn w2 (.slice ao3 nn3 cc3) (Int.natAbs (q)) ∧ Rn w2 (.slice ao4 nn4 cc4) (Int.natAbs (r)) ∧ Bx w2 gx31 38 #[.bool (decide ((q) < 0)), (.slice ao3 nn3 cc3)] ∧ Bx w2 gx32 38 #[.bool (decide ((r) < 0)), (.slice ao4 nn4 cc4)] ∧ Below w.heap.size w w2) ⟨BX22.out, BX24.out, BX25.out, BX26.out, BX29.out, BX30.out, BX31.out, BX32.out, HB.out.trans (HG.out.mono HB.out.size)⟩ ?_
  clear HB HG BX22 BX24 BX25 BX26 BX29 BX30 BX31 BX32
  rintro Wx5 ⟨bx22, bx24, bx25, bx26, bx29, bx30, bx31, bx32, HB⟩
  replace HB := Lib.hid HB
  clear hd5
  refine wp_cond_false (by rfl) ?_
  refine wp_skip ?_
  show Code.wp _ _ _ _ _
  have lx25 := bx25.cells; have fx25 := bx25.free
  have lx26 := bx26.cells; have fx26 := bx26.free
  have lx31 := bx31.cells; have fx31 := bx31.free
  have lx32 := bx32.cells; have fx32 := bx32.free
  have r0 := Gr.refl Wx5
  have BX22 := Lib.hid bx22; clear bx22
  have BX24 := Lib.hid bx24; clear bx24
  have BX25 := Lib.hid bx25; clear bx25
  have BX26 := Lib.hid bx26; clear bx26
  have BX29 := Lib.hid bx29; clear bx29
  have BX30 := Lib.hid bx30; clear bx30
  have BX31 := Lib.hid bx31; clear bx31
  have BX32 := Lib.hid bx32; clear bx32
  refine sK fun K hK => ?_
  go_region
  go_wp2
  refine hK.out _ _ ?_; clear hK K
  show Code.wp _ _ _ _ _
  clear r0 lx25 fx25 lx26 fx26 lx31 fx31 lx32 fx32
  refine forgetW (fun w2 => Bx w2 (w.heap.size + 1 + 1) 38 #[.bool (decide ((q) < 0)), (.slice ao3 nn3 cc3)] ∧ Bx w2 (w.heap.size + 1 + 1 + 1) 38 #[.bool (decide ((r) < 0)), (.slice ao4 nn4 cc4)] ∧ Rn w2 (.slice ao3 nn3 cc3) (Int.natAbs (q)) ∧ Rn w2 (.slice ao4 nn4 cc4) (Int.natAbs (r)) ∧ Below w.heap.size w w2) ⟨((so2 (((BX25.out).set 0 _).set 1 _) (by show w.heap.size + 1 + 1 ≠ w.heap.size + 1 + 1 + 1; omega)).eq (by simp only [rA, rB, rC])).gr ((Below.refl _ _).drew), ((((so2 (BX26.out) (by show w.heap.size + 1 + 1 + 1 ≠ w.heap.size + 1 + 1; omega)).set 0 _).set 1 _).eq (by simp only [rA, rB, rC])).gr ((Below.refl _ _).drew), (ro2 (ro2 (BX29.out) (Rn.ne BX29.out BX25.out (by decide))) (Rn.ne BX29.out BX26.out (by decide))).gr ((Below.refl _ _).drew), (ro2 (ro2 (BX30.out) (Rn.ne BX30.out BX25.out (by decide))) (Rn.ne BX30.out BX26.out (by decide))).gr ((Below.refl _ _).drew), (sc2 (sc2 (HB.out) (by show w.heap.size ≤ w.heap.size + 1 + 1; omega)) (by show w.heap.size ≤ w.heap.size + 1 + 1 + 1; omega)).drew⟩ ?_
  clear HB BX22 BX24 BX25 BX26 BX29 BX30 BX31 BX32
  rintro Wx7 ⟨bx25, bx26, bx29, bx30, HB⟩
  replace HB := Lib.hid HB
  refine wp_ret ?_
  try simp only [Exit.then, Exit.inBlock]
  have lx25 := bx25.cells
  have lx26 := bx26.cells
  have r0 := Gr.refl Wx7
  exact bodyPost_ret (v := .tuple #[(.agg #[.bool (decide ((q) < 0)), (.slice ao3 nn3 cc3)]), (.agg #[.bool (decide ((r) < 0)), (.slice ao4 nn4 cc4)])]) (by simp [results, Tryz.results16, go_sem, lx25 _ r0, lx26 _ r0]) rfl ⟨⟨(.slice ao3 nn3 cc3), (.slice ao4 nn4 cc4), rfl, bx29, bx30⟩, HB.out⟩

set_option maxRecDepth 20000 in
set_option maxHeartbeats 4000000 in
theorem zdiv_zp (a b q r t : Int) (va vb : Value) (w : World) (HQ : Hid (a / b = q)) (HR : Hid (a % b = r)) (HBS : Hid (0 < b)) (H0 : Hid (a < 0)) (HM : Hid (a.natAbs % b.natAbs = 0)) (HT_ : Hid (sgI r = t)) (ht : ¬ t < 0) (HRS : Hid (0 ≤ r)) (hs_a : tw (Int.natAbs a) ≤ 100000000) (hs_b : tw (Int.natAbs b) ≤ 100000000) (bx21 : Rn w va (Int.natAbs (a))) (bx22 : Rn w vb (Int.natAbs (b))) :
    Calls Tryz.prog 16 #[(Value.agg #[.bool (decide ((a) < 0)), va]), (Value.agg #[.bool (decide ((b) < 0)), vb])] w fun e w' => (∃ r1 r2 : Value, e = .returned (.tuple #[(.agg #[.bool (decide ((q) < 0)), r1]), (.agg #[.bool (decide ((r) < 0)), r2])]) ∧ Rn w' r1 (Int.natAbs (q)) ∧ Rn w' r2 (Int.natAbs (r))) ∧ Below w.heap.size w w' := by
  obtain ⟨ao_va, n_va, c_va, rfl⟩ := Rn.sl bx21
  obtain ⟨ao_vb, n_vb, c_vb, rfl⟩ := Rn.sl bx22
  go_enter Tryz.func16, Tryz.ntmps16
  refine sK fun K hK => ?_
  refine wp_region_lit ?_
  go_wp2
  refine hK.out _ _ ?_; clear hK K
  show Code.wp _ _ _ _ _
  refine forgetW (fun w2 => Rn w2 (.slice ao_va n_va c_va) (Int.natAbs (a)) ∧ Rn w2 (.slice ao_vb n_vb c_vb) (Int.natAbs (b)) ∧ Bx w2 (w.heap.size) 38 #[.bool (decide ((a) < 0)), (.slice ao_va n_va c_va)] ∧ Bx w2 (w.heap.size + 1) 38 #[.bool (decide ((b) < 0)), (.slice ao_vb n_vb c_vb)] ∧ Bx w2 (w.heap.size + 1 + 1) 38 #[.bool false, .slice none 0 0] ∧ Bx w2 (w.heap.size + 1 + 1 + 1) 38 #[.bool false, .slice none 0 0] ∧ Below w.heap.size w w2) ⟨((((bx21).alloc _).alloc _).alloc _).alloc _, ((((bx22).alloc _).alloc _).alloc _).alloc _, (((Bx.at rfl).alloc _).alloc _).alloc _, ((Bx.at (by simp)).alloc _).alloc _, (Bx.at (by simp)).alloc _, Bx.at (by simp), ((((Below.refl _ _).alloc (Nat.le_refl _) _).alloc (by simp) _).alloc (by simp; omega) _).alloc (by simp; omega) _⟩ ?_
  clear bx21 bx22
  rintro Wx ⟨bx21, bx22, bx23, bx24, bx25, bx26, HB⟩
  replace HB := Lib.hid HB
  obtain ⟨u1, HZ1⟩ : ∃ z, Hid ((Int.natAbs (a)) / (Int.natAbs (b)) = z) := ⟨_, Lib.hid rfl⟩
  have su1 : tw (u1) ≤ 100000000 := by rw [← HZ1.out]; have := tw_div (Int.natAbs (a)) (Int.natAbs (b)); omega
  have HZ2 : Hid ((Int.natAbs (a)) % (Int.natAbs (b)) = 0) := Lib.hid (HM.out)
  have su2 : tw (0) ≤ 100000000 := by have e := HZ2.out; first | omega | (rw [← e]; have := tw_mod (Int.natAbs (a)) (Int.natAbs (b)); omega) | exact tw_le.2 (by decide +kernel)
  have lx23 := bx23.cells
  have lx24 := bx24.cells
  have BX21 := Lib.hid bx21
  have BX22 := Lib.hid bx22
  have BX23 := Lib.hid bx23
  have BX24 := Lib.hid bx24
  have BX25 := Lib.hid bx25
  have BX26 := Lib.hid bx26
  clear bx21 bx22 bx23 bx24 bx25 bx26
  refine sK fun K hK => ?_
  have HS0 := Lib.hid (HB.out.size)
  have MX23 : w.heap.size < Wx.heap.size := BX23.out.lt
  have MX24 : w.heap.size + 1 < Wx.heap.size := BX24.out.lt
  have MX25 : w.heap.size + 1 + 1 < Wx.heap.size := BX25.out.lt
  have MX26 : w.heap.size + 1 + 1 + 1 < Wx.heap.size := BX26.out.lt
  refine wp_region_seqplan 10 [(true, 0), (true, 1), (true, 2), (true, 3), (false, 4), (true, 5), (true, 6), (true, 7), (true, 8), (true, 9)] (by rfl) (by simp) (fun T hT => ?_)
  iterate 4 (refine wpPlan_takeL (v := ?_) rfl (by rfl) (fun w' hw => ?_) ?_; rotate_left; go_simp; with_reducible rfl; simp only [Act.put, rA, rB, rC])
  refine wpPlan_callE rfl (by rfl) Tryz.call48 (by rfl) (fun w' hw => (zrdiv _ _ (Int.natAbs (a)) (Int.natAbs (b)) (u1) (0) _ HZ1.out HZ2.out (BX21.out.gr hw) (BX22.out.gr hw) (by have h0 := H0.out; have hb := HBS.out; have hr := HRS.out; first | omega | (try simp only [← HZ1.out]) <;> first | rfl | omega | (simp; done) | grind) (by omega) (by omega)).mono ?_)
  rintro e vv1 ⟨⟨rv1, rv2, rfl, bx27, bx28⟩, hg0⟩
  obtain ⟨ao1, nn1, cc1, rfl⟩ := Rn.sl bx27
  obtain ⟨ao2, nn2, cc2, rfl⟩ := Rn.sl bx28
  refine ⟨_, rfl, hg0, ?_⟩
  replace hg0 := Gr.trans hw hg0; clear hw
  have HG0 := Lib.hid hg0; clear hg0
  replace BX21 := rG BX21 HG0
  replace BX22 := rG BX22 HG0
  replace BX23 := bG BX23 HG0
  replace BX24 := bG BX24 HG0
  replace BX25 := bG BX25 HG0
  replace BX26 := bG BX26 HG0
  replace HB := Lib.hid (HB.out.trans (HG0.out.mono HB.out.size))
  have BX27 := Lib.hid bx27; clear bx27
  have BX28 := Lib.hid bx28; clear bx28
  clear HG0
  clear lx23; have lx23 := BX23.out.cells
  clear lx24; have lx24 := BX24.out.cells
  simp only [Act.put, rA, rB, rC]
  iterate 5 (refine wpPlan_takeL (v := ?_) rfl (by rfl) (fun w' hw => ?_) ?_; rotate_left; go_simp; with_reducible rfl; simp only [Act.put, rA, rB, rC])
  refine wpPlan_nil (hT.out _ _ ?_); clear hT T
  intro vw1 hg
  simp only [puts, Act.put, rA, rB, rC, rD, rE, ↓reduceIte, Nat.reduceEqDiff]
  clear lx23 lx24
  have HG := Lib.hid (hg)
  clear hg
  replace BX21 := rG BX21 HG
  replace BX22 := rG BX22 HG
  replace BX23 := bG BX23 HG
  replace BX24 := bG BX24 HG
  replace BX25 := bG BX25 HG
  replace BX26 := bG BX26 HG
  replace BX27 := rG BX27 HG
  replace BX28 := rG BX28 HG
  have r0 := Gr.refl vw1
  go_wp2
  refine hK.out _ _ ?_; clear hK K
  show Code.wp _ _ _ _ _
  clear r0
  refine forgetW (fun w2 => Rn w2 (.slice ao_va n_va c_va) (Int.natAbs (a)) ∧ Rn w2 (.slice ao_vb n_vb c_vb) (Int.natAbs (b)) ∧ Bx w2 (w.heap.size) 38 #[.bool (decide ((a) < 0)), (.slice ao_va n_va c_va)] ∧ Bx w2 (w.heap.size + 1) 38 #[.bool (decide ((b) < 0)), (.slice ao_vb n_vb c_vb)] ∧ Bx w2 (w.heap.size + 1 + 1) 38 #[.bool false, .slice none 0 0] ∧ Bx w2 (w.heap.size + 1 + 1 + 1) 38 #[.bool false, .slice none 0 0] ∧ Rn w2 (.slice ao1 nn1 cc1) (u1) ∧ Rn w2 (.slice ao2 nn2 cc2) (0) ∧ Below w.heap.size w w2) ⟨BX21.out, BX22.out, BX23.out, BX24.out, BX25.out, BX26.out, BX27.out, BX28.out, HB.out.trans (HG.out.mono HB.out.size)⟩ ?_
  clear HB HG BX21 BX22 BX23 BX24 BX25 BX26 BX27 BX28
  rintro Wx1 ⟨bx21, bx22, bx23, bx24, bx25, bx26, bx27, bx28, HB⟩
  replace HB := Lib.hid HB
  have hd1 : decide ((a) < 0) = true := decide_eq_true (by have h0 := H0.out; have hb := HBS.out; have hr := HRS.out; first | omega | (try simp only [← HZ1.out]) <;> first | rfl | omega | (simp; done) | grind)
  have hd2 : decide ((b) < 0) = false := decide_eq_false (by have h0 := H0.out; have hb := HBS.out; have hr := HRS.out; first | omega | (try simp only [← HZ1.out]) <;> first | rfl | omega | (simp; done) | grind)
  have hd3 : decide ((a) < 0) = true := decide_eq_true (by have h0 := H0.out; have hb := HBS.out; have hr := HRS.out; first | omega | (try simp only [← HZ1.out]) <;> first | rfl | omega | (simp; done) | grind)
  have HZ3 : Hid ((if true then -((u1 : Nat) : Int) else ((u1 : Nat) : Int)) = q) := Lib.hid (by have h0 := H0.out; have hb := HBS.out; have hr := HRS.out; rw [← HQ.out, ← HZ1.out]; exact dq true false (decide_eq_true (by omega)) (decide_eq_false (by omega)) (by omega) (.inr HM.out))
  have su3 : tw (Int.natAbs (q)) ≤ 100000000 := by have e := HZ3.out; first | omega | (rw [← e]; split <;> simp <;> omega)
  have HZ4 : Hid ((if true then -((0 : Nat) : Int) else ((0 : Nat) : Int)) = r) := Lib.hid (by have h0 := H0.out; have hb := HBS.out; have hr := HRS.out; rw [← HR.out]; have e9 := dr (a := a) (b := b) true (decide_eq_true (by omega)) (by omega) (.inr HM.out); rw [HM.out] at e9; exact e9)
  have su4 : tw (Int.natAbs (r)) ≤ 100000000 := by have e := HZ4.out; first | omega | (rw [← e]; split <;> simp <;> omega)
  have lx23 := bx23.cells
  have lx24 := bx24.cells
  have BX21 := Lib.hid bx21
  have BX22 := Lib.hid bx22
  have BX23 := Lib.hid bx23
  have BX24 := Lib.hid bx24
  have BX25 := Lib.hid bx25
  have BX26 := Lib.hid bx26
  have BX27 := Lib.hid bx27
  have BX28 := Lib.hid bx28
  clear bx21 bx22 bx23 bx24 bx25 bx26 bx27 bx28
  refine sK fun K hK => ?_
  have HS0 := Lib.hid (HB.out.size)
  have MX23 : w.heap.size < Wx1.heap.size := BX23.out.lt
  have MX24 : w.heap.size + 1 < Wx1.heap.size := BX24.out.lt
  have MX25 : w.heap.size + 1 + 1 < Wx1.heap.size := BX25.out.lt
  have MX26 : w.heap.size + 1 + 1 + 1 < Wx1.heap.size := BX26.out.lt
  refine wp_region_plan 13 [11, 12] [] (fun i => if i = 11 then 8 else 9) (fun i => if i = 11 then .cells #[.bool false, .slice none 0 0] 38 else .cells #[.bool false, .slice none 0 0] 38) [(true, 0), (true, 1), (true, 2), (true, 3), (true, 4), (true, 5), (true, 7), (true, 8), (true, 9), (false, 6), (false, 10)] (by kernel_rfl) (by kernel_rfl) (by intro i hi; simp only [List.mem_cons, List.not_mem_nil, or_false] at hi; rcases hi with rfl | rfl <;> exact ⟨_, rfl, rfl, rfl, by simp, fun ρ w => by kernel_rfl⟩) (fun i hi => by cases hi) (fun _ _ _ _ _ h => h) (fun T hT => ?_)
  iterate 9 (refine wpPlan_takeL (v := ?_) rfl (by rfl) (fun w' hw => ?_) ?_; rotate_left; go_simp; with_reducible rfl; simp only [Act.put, rA, rB, rC])
  refine wpPlan_callE rfl (by rfl) Tryz.call42 (by rfl) (fun w' hw => (zfrom_any true (u1) (q) _ _ HZ3.out (BX27.out.gr hw)).mono ?_)
  rintro e vv1 ⟨⟨rv3, rfl, bx29⟩, hg0⟩
  obtain ⟨ao3, nn3, cc3, rfl⟩ := Rn.sl bx29
  refine ⟨_, rfl, hg0, ?_⟩
  replace hg0 := Gr.trans hw hg0; clear hw
  have HG0 := Lib.hid hg0; clear hg0
  replace BX21 := rG BX21 HG0
  replace BX22 := rG BX22 HG0
  replace BX23 := bG BX23 HG0
  replace BX24 := bG BX24 HG0
  replace BX25 := bG BX25 HG0
  replace BX26 := bG BX26 HG0
  replace BX27 := rG BX27 HG0
  replace BX28 := rG BX28 HG0
  replace HB := Lib.hid (HB.out.trans (HG0.out.mono HB.out.size))
  have BX29 := Lib.hid bx29; clear bx29
  clear HG0
  clear lx23; have lx23 := BX23.out.cells
  clear lx24; have lx24 := BX24.out.cells
  simp only [Act.put, rA, rB, rC]
  refine wpPlan_callE rfl (by rfl) Tryz.call42 (by rfl) (fun w' hw => (zfrom_any true (0) (r) _ _ HZ4.out (BX28.out.gr hw)).mono ?_)
  rintro e vv2 ⟨⟨rv4, rfl, bx30⟩, hg0⟩
  obtain ⟨ao4, nn4, cc4, rfl⟩ := Rn.sl bx30
  refine ⟨_, rfl, hg0, ?_⟩
  replace hg0 := Gr.trans hw hg0; clear hw
  have HG0 := Lib.hid hg0; clear hg0
  replace BX21 := rG BX21 HG0
  replace BX22 := rG BX22 HG0
  replace BX23 := bG BX23 HG0
  replace BX24 := bG BX24 HG0
  replace BX25 := bG BX25 HG0
  replace BX26 := bG BX26 HG0
  replace BX27 := rG BX27 HG0
  replace BX28 := rG BX28 HG0
  replace BX29 := rG BX29 HG0
  replace HB := Lib.hid (HB.out.trans (HG0.out.mono HB.out.size))
  have BX30 := Lib.hid bx30; clear bx30
  clear HG0
  clear lx23; have lx23 := BX23.out.cells
  clear lx24; have lx24 := BX24.out.cells
  simp only [Act.put, rA, rB, rC]
  refine wpPlan_nil (hT.out _ _ ?_); clear hT T
  intro G vw2 hg hf
  simp only [puts, Act.put, rA, rB, rC, rD, rE, ↓reduceIte, Nat.reduceEqDiff]
  clear lx23 lx24
  have HG := Lib.hid (hg)
  clear hg
  have bx31 := Bx.of_fresh hf (i := 11) (by decide) rfl
  have yx31 := (hf.1 11 (by decide)).1
  have bx32 := Bx.of_fresh hf (i := 12) (by decide) rfl
  have yx32 := (hf.1 12 (by decide)).1
  have dx31_32 : G 11 ≠ G 12 := fun e => absurd (hf.2 11 (by decide) 12 (by decide) e) (by decide)
  clear hf
  generalize G 11 = gx31 at *
  generalize G 12 = gx32 at *
  have qx23_31 : w.heap.size < gx31 := Nat.lt_of_lt_of_le MX23 yx31
  have qx23_32 : w.heap.size < gx32 := Nat.lt_of_lt_of_le MX23 yx32
  have qx24_31 : w.heap.size + 1 < gx31 := Nat.lt_of_lt_of_le MX24 yx31
  have qx24_32 : w.heap.size + 1 < gx32 := Nat.lt_of_lt_of_le MX24 yx32
  have qx25_31 : w.heap.size + 1 + 1 < gx31 := Nat.lt_of_lt_of_le MX25 yx31
  have qx25_32 : w.heap.size + 1 + 1 < gx32 := Nat.lt_of_lt_of_le MX25 yx32
  have qx26_31 : w.heap.size + 1 + 1 + 1 < gx31 := Nat.lt_of_lt_of_le MX26 yx31
  have qx26_32 : w.heap.size + 1 + 1 + 1 < gx32 := Nat.lt_of_lt_of_le MX26 yx32
  replace yx31 : w.heap.size ≤ gx31 := Nat.le_trans HS0.out yx31
  replace yx32 : w.heap.size ≤ gx32 := Nat.le_trans HS0.out yx32
  replace BX21 := rG BX21 HG
  replace BX22 := rG BX22 HG
  replace BX23 := bG BX23 HG
  replace BX24 := bG BX24 HG
  replace BX25 := bG BX25 HG
  replace BX26 := bG BX26 HG
  replace BX27 := rG BX27 HG
  replace BX28 := rG BX28 HG
  replace BX29 := rG BX29 HG
  replace BX30 := rG BX30 HG
  have lx31 := bx31.cells; have fx31 := bx31.free
  have lx32 := bx32.cells; have fx32 := bx32.free
  have r0 := Gr.refl vw2
  have BX31 := Lib.hid bx31; clear bx31
  have BX32 := Lib.hid bx32; clear bx32
  go_wp2
  refine hK.out _ _ ?_; clear hK K
  show Code.wp _ _ _ _ _
  clear lx31 fx31
  clear lx32 fx32
  clear r0
  refine forgetW (fun w2 => Rn w2 (.slice ao_vb n_vb c_vb) (Int.natAbs (b)) ∧ Bx w2 (w.heap.size + 1) 38 #[.bool (decide ((b) < 0)), (.slice ao_vb n_vb c_vb)] ∧ Bx w2 (w.heap.size + 1 + 1) 38 #[.bool false, .slice none 0 0] ∧ Bx w2 (w.heap.size + 1 + 1 + 1) 38 #[.bool false, .slice none 0 0] ∧ Rn w2 (.slice ao3 nn3 cc3) (Int.natAbs (q)) ∧ Rn w2 (.slice ao4 nn4 cc4) (Int.natAbs (r)) ∧ Bx w2 gx31 38 #[.bool (decide ((q) < 0)), (.slice ao3 nn3 cc3)] ∧ Bx w2 gx32 38 #[.bool (decide ((r) < 0)), (.slice ao4 nn4 cc4)] ∧ Below w.heap.size w w2) ⟨ro2 (ro2 (BX22.out) (Rn.ne BX22.out BX31.out (by decide))) (Rn.ne BX22.out BX32.out (by decide)), so2 (so2 (BX24.out) (by show w.heap.size + 1 ≠ gx31; omega)) (by show w.heap.size + 1 ≠ gx32; omega), so2 (so2 (BX25.out) (by show w.heap.size + 1 + 1 ≠ gx31; omega)) (by show w.heap.size + 1 + 1 ≠ gx32; omega), so2 (so2 (BX26.out) (by show w.heap.size + 1 + 1 + 1 ≠ gx31; omega)) (by show w.heap.size + 1 + 1 + 1 ≠ gx32; omega), ro2 (ro2 (BX29.out) (Rn.ne BX29.out BX31.out (by decide))) (Rn.ne BX29.out BX32.out (by decide)), ro2 (ro2 (BX30.out) (Rn.ne BX30.out BX31.out (by decide))) (Rn.ne BX30.out BX32.out (by decide)), (so2 (((BX31.out).set 0 _).set 1 _) (by show gx31 ≠ gx32; omega)).eq (by simp only [rA, rB, rC]), (((so2 (BX32.out) (by show gx32 ≠ gx31; omega)).set 0 _).set 1 _).eq (by simp only [rA, rB, rC]), sc2 (sc2 (HB.out.trans (HG.out.mono HB.out.size)) (by show w.heap.size ≤ gx31; omega)) (by show w.heap.size ≤ gx32; omega)⟩ ?_
  clear HB HG BX21 BX22 BX23 BX24 BX25 BX26 BX27 BX28 BX29 BX30 BX31 BX32
  rintro Wx2 ⟨bx22, bx24, bx25, bx26, bx29, bx30, bx31, bx32, HB⟩
  replace HB := Lib.hid HB
  clear hd1 hd2 hd3
  refine wp_seq ?_
  have hd4 : ¬ (t < 0) := by have h0 := H0.out; have hb := HBS.out; have hr := HRS.out; omega
  have lx24 := bx24.cells
  have lx32 := bx32.cells
  have BX22 := Lib.hid bx22
  have BX24 := Lib.hid bx24
  have BX25 := Lib.hid bx25
  have BX26 := Lib.hid bx26
  have BX29 := Lib.hid bx29
  have BX30 := Lib.hid bx30
  have BX31 := Lib.hid bx31
  have BX32 := Lib.hid bx32
  clear bx22 bx24 bx25 bx26 bx29 bx30 bx31 bx32
  refine sK fun K hK => ?_
  refine wp_region_seqplan 8 [(true, 0), (true, 1), (true, 2), (true, 3), (true, 4), (true, 5), (true, 6), (true, 7)] (by rfl) (by simp) (fun T hT => ?_)
  refine wpPlan_takeL (v := ?_) rfl (by rfl) (fun w' hw => ?_) ?_; rotate_left; go_simp; with_reducible rfl; simp only [Act.put, rA, rB, rC]
  refine wpPlan_callL rfl (by rfl) Tryz.call14 (fun w' hw => zrsign (r) (t) _ _ (HT_.out) (BX30.out.gr hw)) (by rfl) ?_
  simp only [Act.put, rA, rB, rC]
  iterate 2 (refine wpPlan_takeL (v := ?_) rfl (by rfl) (fun w' hw => ?_) ?_; rotate_left; go_simp; with_reducible rfl; simp only [Act.put, rA, rB, rC])
  iterate 3 (refine wpPlan_skipL rfl (by rfl) ?_; simp only [Act.put, rA, rB, rC])
  refine wpPlan_takeL (v := ?_) rfl (by rfl) (fun w' hw => ?_) ?_; rotate_left; go_simp; with_reducible rfl; simp only [Act.put, rA, rB, rC]
  refine wpPlan_nil (hT.out _ _ ?_); clear hT T
  intro vw3 hg
  simp only [puts, Act.put, rA, rB, rC, rD, rE, ↓reduceIte, Nat.reduceEqDiff]
  clear lx24 lx32
  have HG := Lib.hid (hg)
  clear hg
  replace BX22 := rG BX22 HG
  replace BX24 := bG BX24 HG
  replace BX25 := bG BX25 HG
  replace BX26 := bG BX26 HG
  replace BX29 := rG BX29 HG
  replace BX30 := rG BX30 HG
  replace BX31 := bG BX31 HG
  replace BX32 := bG BX32 HG
  have r0 := Gr.refl vw3
  go_wp2
  refine hK.out _ _ ?_; clear hK K
  show Code.wp _ _ _ _ _
  clear r0
  refine forgetW (fun w2 => Rn w2 (.slice ao_vb n_vb c_vb) (Int.natAbs (b)) ∧ Bx w2 (w.heap.size + 1) 38 #[.bool (decide ((b) < 0)), (.slice ao_vb n_vb c_vb)] ∧ Bx w2 (w.heap.size + 1 + 1) 38 #[.bool false, .slice none 0 0] ∧ Bx w2 (w.heap.size + 1 + 1 + 1) 38 #[.bool false, .slice none 0 0] ∧ Rn w2 (.slice ao3 nn3 cc3) (Int.natAbs (q)) ∧ Rn w2 (.slice ao4 nn4 cc4) (Int.natAbs (r)) ∧ Bx w2 gx31 38 #[.bool (decide ((q) < 0)), (.slice ao3 nn3 cc3)] ∧ Bx w2 gx32 38 #[.bool (decide ((r) < 0)), (.slice ao4 nn4 cc4)] ∧ Below w.heap.size w w2) ⟨BX22.out, BX24.out, BX25.out, BX26.out, BX29.out, BX30.out, BX31.out, BX32.out, HB.out.trans (HG.out.mono HB.out.size)⟩ ?_
  clear HB HG BX22 BX24 BX25 BX26 BX29 BX30 BX31 BX32
  rintro Wx3 ⟨bx22, bx24, bx25, bx26, bx29, bx30, bx31, bx32, HB⟩
  replace HB := Lib.hid HB
  clear hd4
  refine wp_cond_false (by rfl) ?_
  refine wp_skip ?_
  show Code.wp _ _ _ _ _
  refine wp_seq ?_
  have hd5 : ¬ (t < 0) := by have h0 := H0.out; have hb := HBS.out; have hr := HRS.out; omega
  have lx32 := bx32.cells
  have BX22 := Lib.hid bx22
  have BX24 := Lib.hid bx24
  have BX25 := Lib.hid bx25
  have BX26 := Lib.hid bx26
  have BX29 := Lib.hid bx29
  have BX30 := Lib.hid bx30
  have BX31 := Lib.hid bx31
  have BX32 := Lib.hid bx32
  clear bx22 bx24 bx25 bx26 bx29 bx30 bx31 bx32
  refine sK fun K hK => ?_
  refine wp_region_seqplan 3 [(true, 0), (true, 1), (true, 2)] (by rfl) (by simp) (fun T hT => ?_)
  refine wpPlan_takeL (v := ?_) rfl (by rfl) (fun w' hw => ?_) ?_; rotate_left; go_simp; with_reducible rfl; simp only [Act.put, rA, rB, rC]
  refine wpPlan_callL rfl (by rfl) Tryz.call14 (fun w' hw => zrsign (r) (t) _ _ (HT_.out) (BX30.out.gr hw)) (by rfl) ?_
  simp only [Act.put, rA, rB, rC]
  refine wpPlan_takeL (v := ?_) rfl (by rfl) (fun w' hw => ?_) ?_; rotate_left; go_simp; with_reducible rfl; simp only [Act.put, rA, rB, rC]
  refine wpPlan_nil (hT.out _ _ ?_); clear hT T
  intro vw4 hg
  simp only [puts, Act.put, rA, rB, rC, rD, rE, ↓reduceIte, Nat.reduceEqDiff]
  clear lx32
  have HG := Lib.hid (hg)
  clear hg
  replace BX22 := rG BX22 HG
  replace BX24 := bG BX24 HG
  replace BX25 := bG BX25 HG
  replace BX26 := bG BX26 HG
  replace BX29 := rG BX29 HG
  replace BX30 := rG BX30 HG
  replace BX31 := bG BX31 HG
  replace BX32 := bG BX32 HG
  have r0 := Gr.refl vw4
  go_wp2
  refine hK.out _ _ ?_; clear hK K
  show Code.wp _ _ _ _ _
  clear r0
  refine forgetW (fun w2 => Rn w2 (.slice ao_vb n_vb c_vb) (Int.natAbs (b)) ∧ Bx w2 (w.heap.size + 1) 38 #[.bool (decide ((b) < 0)), (.slice ao_vb n_vb c_vb)] ∧ Bx w2 (w.heap.size + 1 + 1) 38 #[.bool false, .slice none 0 0] ∧ Bx w2 (w.heap.size + 1 + 1 + 1) 38 #[.bool false, .slice none 0 0] ∧ Rn w2 (.slice ao3 nn3 cc3) (Int.natAbs (q)) ∧ Rn w2 (.slice ao4 nn4 cc4) (Int.natAbs (r)) ∧ Bx w2 gx31 38 #[.bool (decide ((q) < 0)), (.slice ao3 nn3 cc3)] ∧ Bx w2 gx32 38 #[.bool (decide ((r) < 0)), (.slice ao4 nn4 cc4)] ∧ Below w.heap.size w w2) ⟨BX22.out, BX24.out, BX25.out, BX26.out, BX29.out, BX30.out, BX31.out, BX32.out, HB.out.trans (HG.out.mono HB.out.size)⟩ ?_
  clear HB HG BX22 BX24 BX25 BX26 BX29 BX30 BX31 BX32
  rintro Wx5 ⟨bx22, bx24, bx25, bx26, bx29, bx30, bx31, bx32, HB⟩
  replace HB := Lib.hid HB
  clear hd5
  refine wp_cond_false (by rfl) ?_
  refine wp_skip ?_
  show Code.wp _ _ _ _ _
  have lx25 := bx25.cells; have fx25 := bx25.free
  have lx26 := bx26.cells; have fx26 := bx26.free
  have lx31 := bx31.cells; have fx31 := bx31.free
  have lx32 := bx32.cells; have fx32 := bx32.free
  have r0 := Gr.refl Wx5
  have BX22 := Lib.hid bx22; clear bx22
  have BX24 := Lib.hid bx24; clear bx24
  have BX25 := Lib.hid bx25; clear bx25
  have BX26 := Lib.hid bx26; clear bx26
  have BX29 := Lib.hid bx29; clear bx29
  have BX30 := Lib.hid bx30; clear bx30
  have BX31 := Lib.hid bx31; clear bx31
  have BX32 := Lib.hid bx32; clear bx32
  refine sK fun K hK => ?_
  go_region
  go_wp2
  refine hK.out _ _ ?_; clear hK K
  show Code.wp _ _ _ _ _
  clear r0 lx25 fx25 lx26 fx26 lx31 fx31 lx32 fx32
  refine forgetW (fun w2 => Bx w2 (w.heap.size + 1 + 1) 38 #[.bool (decide ((q) < 0)), (.slice ao3 nn3 cc3)] ∧ Bx w2 (w.heap.size + 1 + 1 + 1) 38 #[.bool (decide ((r) < 0)), (.slice ao4 nn4 cc4)] ∧ Rn w2 (.slice ao3 nn3 cc3) (Int.natAbs (q)) ∧ Rn w2 (.slice ao4 nn4 cc4) (Int.natAbs (r)) ∧ Below w.heap.size w w2) ⟨((so2 (((BX25.out).set 0 _).set 1 _) (by show w.heap.size + 1 + 1 ≠ w.heap.size + 1 + 1 + 1; omega)).eq (by simp only [rA, rB, rC])).gr ((Below.refl _ _).drew), ((((so2 (BX26.out) (by show w.heap.size + 1 + 1 + 1 ≠ w.heap.size + 1 + 1; omega)).set 0 _).set 1 _).eq (by simp only [rA, rB, rC])).gr ((Below.refl _ _).drew), (ro2 (ro2 (BX29.out) (Rn.ne BX29.out BX25.out (by decide))) (Rn.ne BX29.out BX26.out (by decide))).gr ((Below.refl _ _).drew), (ro2 (ro2 (BX30.out) (Rn.ne BX30.out BX25.out (by decide))) (Rn.ne BX30.out BX26.out (by decide))).gr ((Below.refl _ _).drew), (sc2 (sc2 (HB.out) (by show w.heap.size ≤ w.heap.size + 1 + 1; omega)) (by show w.heap.size ≤ w.heap.size + 1 + 1 + 1; omega)).drew⟩ ?_
  clear HB BX22 BX24 BX25 BX26 BX29 BX30 BX31 BX32
  rintro Wx7 ⟨bx25, bx26, bx29, bx30, HB⟩
  replace HB := Lib.hid HB
  refine wp_ret ?_
  try simp only [Exit.then, Exit.inBlock]
  have lx25 := bx25.cells
  have lx26 := bx26.cells
  have r0 := Gr.refl Wx7
  exact bodyPost_ret (v := .tuple #[(.agg #[.bool (decide ((q) < 0)), (.slice ao3 nn3 cc3)]), (.agg #[.bool (decide ((r) < 0)), (.slice ao4 nn4 cc4)])]) (by simp [results, Tryz.results16, go_sem, lx25 _ r0, lx26 _ r0]) rfl ⟨⟨(.slice ao3 nn3 cc3), (.slice ao4 nn4 cc4), rfl, bx29, bx30⟩, HB.out⟩

set_option maxRecDepth 20000 in
set_option maxHeartbeats 4000000 in
theorem zdiv_zn (a b q r t : Int) (va vb : Value) (w : World) (HQ : Hid (a / b = q)) (HR : Hid (a % b = r)) (HBS : Hid (b < 0)) (H0 : Hid (a < 0)) (HM : Hid (a.natAbs % b.natAbs = 0)) (HT_ : Hid (sgI r = t)) (ht : ¬ t < 0) (HRS : Hid (0 ≤ r)) (hs_a : tw (Int.natAbs a) ≤ 100000000) (hs_b : tw (Int.natAbs b) ≤ 100000000) (bx21 : Rn w va (Int.natAbs (a))) (bx22 : Rn w vb (Int.natAbs (b))) :
    Calls Tryz.prog 16 #[(Value.agg #[.bool (decide ((a) < 0)), va]), (Value.agg #[.bool (decide ((b) < 0)), vb])] w fun e w' => (∃ r1 r2 : Value, e = .returned (.tuple #[(.agg #[.bool (decide ((q) < 0)), r1]), (.agg #[.bool (decide ((r) < 0)), r2])]) ∧ Rn w' r1 (Int.natAbs (q)) ∧ Rn w' r2 (Int.natAbs (r))) ∧ Below w.heap.size w w' := by
  obtain ⟨ao_va, n_va, c_va, rfl⟩ := Rn.sl bx21
  obtain ⟨ao_vb, n_vb, c_vb, rfl⟩ := Rn.sl bx22
  go_enter Tryz.func16, Tryz.ntmps16
  refine sK fun K hK => ?_
  refine wp_region_lit ?_
  go_wp2
  refine hK.out _ _ ?_; clear hK K
  show Code.wp _ _ _ _ _
  refine forgetW (fun w2 => Rn w2 (.slice ao_va n_va c_va) (Int.natAbs (a)) ∧ Rn w2 (.slice ao_vb n_vb c_vb) (Int.natAbs (b)) ∧ Bx w2 (w.heap.size) 38 #[.bool (decide ((a) < 0)), (.slice ao_va n_va c_va)] ∧ Bx w2 (w.heap.size + 1) 38 #[.bool (decide ((b) < 0)), (.slice ao_vb n_vb c_vb)] ∧ Bx w2 (w.heap.size + 1 + 1) 38 #[.bool false, .slice none 0 0] ∧ Bx w2 (w.heap.size + 1 + 1 + 1) 38 #[.bool false, .slice none 0 0] ∧ Below w.heap.size w w2) ⟨((((bx21).alloc _).alloc _).alloc _).alloc _, ((((bx22).alloc _).alloc _).alloc _).alloc _, (((Bx.at rfl).alloc _).alloc _).alloc _, ((Bx.at (by simp)).alloc _).alloc _, (Bx.at (by simp)).alloc _, Bx.at (by simp), ((((Below.refl _ _).alloc (Nat.le_refl _) _).alloc (by simp) _).alloc (by simp; omega) _).alloc (by simp; omega) _⟩ ?_
  clear bx21 bx22
  rintro Wx ⟨bx21, bx22, bx23, bx24, bx25, bx26, HB⟩
  replace HB := Lib.hid HB
  obtain ⟨u1, HZ1⟩ : ∃ z, Hid ((Int.natAbs (a)) / (Int.natAbs (b)) = z) := ⟨_, Lib.hid rfl⟩
  have su1 : tw (u1) ≤ 100000000 := by rw [← HZ1.out]; have := tw_div (Int.natAbs (a)) (Int.natAbs (b)); omega
  have HZ2 : Hid ((Int.natAbs (a)) % (Int.natAbs (b)) = 0) := Lib.hid (HM.out)
  have su2 : tw (0) ≤ 100000000 := by have e := HZ2.out; first | omega | (rw [← e]; have := tw_mod (Int.natAbs (a)) (Int.natAbs (b)); omega) | exact tw_le.2 (by decide +kernel)
  have lx23 := bx23.cells
  have lx24 := bx24.cells
  have BX21 := Lib.hid bx21
  have BX22 := Lib.hid bx22
  have BX23 := Lib.hid bx23
  have BX24 := Lib.hid bx24
  have BX25 := Lib.hid bx25
  have BX26 := Lib.hid bx26
  clear bx21 bx22 bx23 bx24 bx25 bx26
  refine sK fun K hK => ?_
  have HS0 := Lib.hid (HB.out.size)
  have MX23 : w.heap.size < Wx.heap.size := BX23.out.lt
  have MX24 : w.heap.size + 1 < Wx.heap.size := BX24.out.lt
  have MX25 : w.heap.size + 1 + 1 < Wx.heap.size := BX25.out.lt
  have MX26 : w.heap.size + 1 + 1 + 1 < Wx.heap.size := BX26.out.lt
  refine wp_region_seqplan 10 [(true, 0), (true, 1), (true, 2), (true, 3), (false, 4), (true, 5), (true, 6), (true, 7), (true, 8), (true, 9)] (by rfl) (by simp) (fun T hT => ?_)
  iterate 4 (refine wpPlan_takeL (v := ?_) rfl (by rfl) (fun w' hw => ?_) ?_; rotate_left; go_simp; with_reducible rfl; simp only [Act.put, rA, rB, rC])
  refine wpPlan_callE rfl (by rfl) Tryz.call48 (by rfl) (fun w' hw => (zrdiv _ _ (Int.natAbs (a)) (Int.natAbs (b)) (u1) (0) _ HZ1.out HZ2.out (BX21.out.gr hw) (BX22.out.gr hw) (by have h0 := H0.out; have hb := HBS.out; have hr := HRS.out; first | omega | (try simp only [← HZ1.out]) <;> first | rfl | omega | (simp; done) | grind) (by omega) (by omega)).mono ?_)
  rintro e vv1 ⟨⟨rv1, rv2, rfl, bx27, bx28⟩, hg0⟩
  obtain ⟨ao1, nn1, cc1, rfl⟩ := Rn.sl bx27
  obtain ⟨ao2, nn2, cc2, rfl⟩ := Rn.sl bx28
  refine ⟨_, rfl, hg0, ?_⟩
  replace hg0 := Gr.trans hw hg0; clear hw
  have HG0 := Lib.hid hg0; clear hg0
  replace BX21 := rG BX21 HG0
  replace BX22 := rG BX22 HG0
  replace BX23 := bG BX23 HG0
  replace BX24 := bG BX24 HG0
  replace BX25 := bG BX25 HG0
  replace BX26 := bG BX26 HG0
  replace HB := Lib.hid (HB.out.trans (HG0.out.mono HB.out.size))
  have BX27 := Lib.hid bx27; clear bx27
  have BX28 := Lib.hid bx28; clear bx28
  clear HG0
  clear lx23; have lx23 := BX23.out.cells
  clear lx24; have lx24 := BX24.out.cells
  simp only [Act.put, rA, rB, rC]
  iterate 5 (refine wpPlan_takeL (v := ?_) rfl (by rfl) (fun w' hw => ?_) ?_; rotate_left; go_simp; with_reducible rfl; simp only [Act.put, rA, rB, rC])
  refine wpPlan_nil (hT.out _ _ ?_); clear hT T
  intro vw1 hg
  simp only [puts, Act.put, rA, rB, rC, rD, rE, ↓reduceIte, Nat.reduceEqDiff]
  clear lx23 lx24
  have HG := Lib.hid (hg)
  clear hg
  replace BX21 := rG BX21 HG
  replace BX22 := rG BX22 HG
  replace BX23 := bG BX23 HG
  replace BX24 := bG BX24 HG
  replace BX25 := bG BX25 HG
  replace BX26 := bG BX26 HG
  replace BX27 := rG BX27 HG
  replace BX28 := rG BX28 HG
  have r0 := Gr.refl vw1
  go_wp2
  refine hK.out _ _ ?_; clear hK K
  show Code.wp _ _ _ _ _
  clear r0
  refine forgetW (fun w2 => Rn w2 (.slice ao_va n_va c_va) (Int.natAbs (a)) ∧ Rn w2 (.slice ao_vb n_vb c_vb) (Int.natAbs (b)) ∧ Bx w2 (w.heap.size) 38 #[.bool (decide ((a) < 0)), (.slice ao_va n_va c_va)] ∧ Bx w2 (w.heap.size + 1) 38 #[.bool (decide ((b) < 0)), (.slice ao_vb n_vb c_vb)] ∧ Bx w2 (w.heap.size + 1 + 1) 38 #[.bool false, .slice none 0 0] ∧ Bx w2 (w.heap.size + 1 + 1 + 1) 38 #[.bool false, .slice none 0 0] ∧ Rn w2 (.slice ao1 nn1 cc1) (u1) ∧ Rn w2 (.slice ao2 nn2 cc2) (0) ∧ Below w.heap.size w w2) ⟨BX21.out, BX22.out, BX23.out, BX24.out, BX25.out, BX26.out, BX27.out, BX28.out, HB.out.trans (HG.out.mono HB.out.size)⟩ ?_
  clear HB HG BX21 BX22 BX23 BX24 BX25 BX26 BX27 BX28
  rintro Wx1 ⟨bx21, bx22, bx23, bx24, bx25, bx26, bx27, bx28, HB⟩
  replace HB := Lib.hid HB
  have hd1 : decide ((a) < 0) = true := decide_eq_true (by have h0 := H0.out; have hb := HBS.out; have hr := HRS.out; first | omega | (try simp only [← HZ1.out]) <;> first | rfl | omega | (simp; done) | grind)
  have hd2 : decide ((b) < 0) = true := decide_eq_true (by have h0 := H0.out; have hb := HBS.out; have hr := HRS.out; first | omega | (try simp only [← HZ1.out]) <;> first | rfl | omega | (simp; done) | grind)
  have hd3 : decide ((a) < 0) = true := decide_eq_true (by have h0 := H0.out; have hb := HBS.out; have hr := HRS.out; first | omega | (try simp only [← HZ1.out]) <;> first | rfl | omega | (simp; done) | grind)
  have HZ3 : Hid ((if false then -((u1 : Nat) : Int) else ((u1 : Nat) : Int)) = q) := Lib.hid (by have h0 := H0.out; have hb := HBS.out; have hr := HRS.out; rw [← HQ.out, ← HZ1.out]; exact dq true true (decide_eq_true (by omega)) (decide_eq_true (by omega)) (by omega) (.inr HM.out))
  have su3 : tw (Int.natAbs (q)) ≤ 100000000 := by have e := HZ3.out; first | omega | (rw [← e]; split <;> simp <;> omega)
  have HZ4 : Hid ((if true then -((0 : Nat) : Int) else ((0 : Nat) : Int)) = r) := Lib.hid (by have h0 := H0.out; have hb := HBS.out; have hr := HRS.out; rw [← HR.out]; have e9 := dr (a := a) (b := b) true (decide_eq_true (by omega)) (by omega) (.inr HM.out); rw [HM.out] at e9; exact e9)
  have su4 : tw (Int.natAbs (r)) ≤ 100000000 := by have e := HZ4.out; first | omega | (rw [← e]; split <;> simp <;> omega)
  have lx23 := bx23.cells
  have lx24 := bx24.cells
  have BX21 := Lib.hid bx21
  have BX22 := Lib.hid bx22
  have BX23 := Lib.hid bx23
  have BX24 := Lib.hid bx24
  have BX25 := Lib.hid bx25
  have BX26 := Lib.hid bx26
  have BX27 := Lib.hid bx27
  have BX28 := Lib.hid bx28
  clear bx21 bx22 bx23 bx24 bx25 bx26 bx27 bx28
  refine sK fun K hK => ?_
  have HS0 := Lib.hid (HB.out.size)
  have MX23 : w.heap.size < Wx1.heap.size := BX23.out.lt
  have MX24 : w.heap.size + 1 < Wx1.heap.size := BX24.out.lt
  have MX25 : w.heap.size + 1 + 1 < Wx1.heap.size := BX25.out.lt
  have MX26 : w.heap.size + 1 + 1 + 1 < Wx1.heap.size := BX26.out.lt
  refine wp_region_plan 13 [11, 12] [] (fun i => if i = 11 then 8 else 9) (fun i => if i = 11 then .cells #[.bool false, .slice none 0 0] 38 else .cells #[.bool false, .slice none 0 0] 38) [(true, 0), (true, 1), (true, 2), (true, 3), (true, 4), (true, 5), (true, 7), (true, 8), (true, 9), (false, 6), (false, 10)] (by kernel_rfl) (by kernel_rfl) (by intro i hi; simp only [List.mem_cons, List.not_mem_nil, or_false] at hi; rcases hi with rfl | rfl <;> exact ⟨_, rfl, rfl, rfl, by simp, fun ρ w => by kernel_rfl⟩) (fun i hi => by cases hi) (fun _ _ _ _ _ h => h) (fun T hT => ?_)
  iterate 9 (refine wpPlan_takeL (v := ?_) rfl (by rfl) (fun w' hw => ?_) ?_; rotate_left; go_simp; with_reducible rfl; simp only [Act.put, rA, rB, rC])
  refine wpPlan_callE rfl (by rfl) Tryz.call42 (by rfl) (fun w' hw => (zfrom_any false (u1) (q) _ _ HZ3.out (BX27.out.gr hw)).mono ?_)
  rintro e vv1 ⟨⟨rv3, rfl, bx29⟩, hg0⟩
  obtain ⟨ao3, nn3, cc3, rfl⟩ := Rn.sl bx29
  refine ⟨_, rfl, hg0, ?_⟩
  replace hg0 := Gr.trans hw hg0; clear hw
  have HG0 := Lib.hid hg0; clear hg0
  replace BX21 := rG BX21 HG0
  replace BX22 := rG BX22 HG0
  replace BX23 := bG BX23 HG0
  replace BX24 := bG BX24 HG0
  replace BX25 := bG BX25 HG0
  replace BX26 := bG BX26 HG0
  replace BX27 := rG BX27 HG0
  replace BX28 := rG BX28 HG0
  replace HB := Lib.hid (HB.out.trans (HG0.out.mono HB.out.size))
  have BX29 := Lib.hid bx29; clear bx29
  clear HG0
  clear lx23; have lx23 := BX23.out.cells
  clear lx24; have lx24 := BX24.out.cells
  simp only [Act.put, rA, rB, rC]
  refine wpPlan_callE rfl (by rfl) Tryz.call42 (by rfl) (fun w' hw => (zfrom_any true (0) (r) _ _ HZ4.out (BX28.out.gr hw)).mono ?_)
  rintro e vv2 ⟨⟨rv4, rfl, bx30⟩, hg0⟩
  obtain ⟨ao4, nn4, cc4, rfl⟩ := Rn.sl bx30
  refine ⟨_, rfl, hg0, ?_⟩
  replace hg0 := Gr.trans hw hg0; clear hw
  have HG0 := Lib.hid hg0; clear hg0
  replace BX21 := rG BX21 HG0
  replace BX22 := rG BX22 HG0
  replace BX23 := bG BX23 HG0
  replace BX24 := bG BX24 HG0
  replace BX25 := bG BX25 HG0
  replace BX26 := bG BX26 HG0
  replace BX27 := rG BX27 HG0
  replace BX28 := rG BX28 HG0
  replace BX29 := rG BX29 HG0
  replace HB := Lib.hid (HB.out.trans (HG0.out.mono HB.out.size))
  have BX30 := Lib.hid bx30; clear bx30
  clear HG0
  clear lx23; have lx23 := BX23.out.cells
  clear lx24; have lx24 := BX24.out.cells
  simp only [Act.put, rA, rB, rC]
  refine wpPlan_nil (hT.out _ _ ?_); clear hT T
  intro G vw2 hg hf
  simp only [puts, Act.put, rA, rB, rC, rD, rE, ↓reduceIte, Nat.reduceEqDiff]
  clear lx23 lx24
  have HG := Lib.hid (hg)
  clear hg
  have bx31 := Bx.of_fresh hf (i := 11) (by decide) rfl
  have yx31 := (hf.1 11 (by decide)).1
  have bx32 := Bx.of_fresh hf (i := 12) (by decide) rfl
  have yx32 := (hf.1 12 (by decide)).1
  have dx31_32 : G 11 ≠ G 12 := fun e => absurd (hf.2 11 (by decide) 12 (by decide) e) (by decide)
  clear hf
  generalize G 11 = gx31 at *
  generalize G 12 = gx32 at *
  have qx23_31 : w.heap.size < gx31 := Nat.lt_of_lt_of_le MX23 yx31
  have qx23_32 : w.heap.size < gx32 := Nat.lt_of_lt_of_le MX23 yx32
  have qx24_31 : w.heap.size + 1 < gx31 := Nat.lt_of_lt_of_le MX24 yx31
  have qx24_32 : w.heap.size + 1 < gx32 := Nat.lt_of_lt_of_le MX24 yx32
  have qx25_31 : w.heap.size + 1 + 1 < gx31 := Nat.lt_of_lt_of_le MX25 yx31
  have qx25_32 : w.heap.size + 1 + 1 < gx32 := Nat.lt_of_lt_of_le MX25 yx32
  have qx26_31 : w.heap.size + 1 + 1 + 1 < gx31 := Nat.lt_of_lt_of_le MX26 yx31
  have qx26_32 : w.heap.size + 1 + 1 + 1 < gx32 := Nat.lt_of_lt_of_le MX26 yx32
  replace yx31 : w.heap.size ≤ gx31 := Nat.le_trans HS0.out yx31
  replace yx32 : w.heap.size ≤ gx32 := Nat.le_trans HS0.out yx32
  replace BX21 := rG BX21 HG
  replace BX22 := rG BX22 HG
  replace BX23 := bG BX23 HG
  replace BX24 := bG BX24 HG
  replace BX25 := bG BX25 HG
  replace BX26 := bG BX26 HG
  replace BX27 := rG BX27 HG
  replace BX28 := rG BX28 HG
  replace BX29 := rG BX29 HG
  replace BX30 := rG BX30 HG
  have lx31 := bx31.cells; have fx31 := bx31.free
  have lx32 := bx32.cells; have fx32 := bx32.free
  have r0 := Gr.refl vw2
  have BX31 := Lib.hid bx31; clear bx31
  have BX32 := Lib.hid bx32; clear bx32
  go_wp2
  refine hK.out _ _ ?_; clear hK K
  show Code.wp _ _ _ _ _
  clear lx31 fx31
  clear lx32 fx32
  clear r0
  refine forgetW (fun w2 => Rn w2 (.slice ao_vb n_vb c_vb) (Int.natAbs (b)) ∧ Bx w2 (w.heap.size + 1) 38 #[.bool (decide ((b) < 0)), (.slice ao_vb n_vb c_vb)] ∧ Bx w2 (w.heap.size + 1 + 1) 38 #[.bool false, .slice none 0 0] ∧ Bx w2 (w.heap.size + 1 + 1 + 1) 38 #[.bool false, .slice none 0 0] ∧ Rn w2 (.slice ao3 nn3 cc3) (Int.natAbs (q)) ∧ Rn w2 (.slice ao4 nn4 cc4) (Int.natAbs (r)) ∧ Bx w2 gx31 38 #[.bool (decide ((q) < 0)), (.slice ao3 nn3 cc3)] ∧ Bx w2 gx32 38 #[.bool (decide ((r) < 0)), (.slice ao4 nn4 cc4)] ∧ Below w.heap.size w w2) ⟨ro2 (ro2 (BX22.out) (Rn.ne BX22.out BX31.out (by decide))) (Rn.ne BX22.out BX32.out (by decide)), so2 (so2 (BX24.out) (by show w.heap.size + 1 ≠ gx31; omega)) (by show w.heap.size + 1 ≠ gx32; omega), so2 (so2 (BX25.out) (by show w.heap.size + 1 + 1 ≠ gx31; omega)) (by show w.heap.size + 1 + 1 ≠ gx32; omega), so2 (so2 (BX26.out) (by show w.heap.size + 1 + 1 + 1 ≠ gx31; omega)) (by show w.heap.size + 1 + 1 + 1 ≠ gx32; omega), ro2 (ro2 (BX29.out) (Rn.ne BX29.out BX31.out (by decide))) (Rn.ne BX29.out BX32.out (by decide)), ro2 (ro2 (BX30.out) (Rn.ne BX30.out BX31.out (by decide))) (Rn.ne BX30.out BX32.out (by decide)), (so2 (((BX31.out).set 0 _).set 1 _) (by show gx31 ≠ gx32; omega)).eq (by simp only [rA, rB, rC]), (((so2 (BX32.out) (by show gx32 ≠ gx31; omega)).set 0 _).set 1 _).eq (by simp only [rA, rB, rC]), sc2 (sc2 (HB.out.trans (HG.out.mono HB.out.size)) (by show w.heap.size ≤ gx31; omega)) (by show w.heap.size ≤ gx32; omega)⟩ ?_
  clear HB HG BX21 BX22 BX23 BX24 BX25 BX26 BX27 BX28 BX29 BX30 BX31 BX32
  rintro Wx2 ⟨bx22, bx24, bx25, bx26, bx29, bx30, bx31, bx32, HB⟩
  replace HB := Lib.hid HB
  clear hd1 hd2 hd3
  refine wp_seq ?_
  have hd4 : ¬ (t < 0) := by have h0 := H0.out; have hb := HBS.out; have hr := HRS.out; omega
  have lx24 := bx24.cells
  have lx32 := bx32.cells
  have BX22 := Lib.hid bx22
  have BX24 := Lib.hid bx24
  have BX25 := Lib.hid bx25
  have BX26 := Lib.hid bx26
  have BX29 := Lib.hid bx29
  have BX30 := Lib.hid bx30
  have BX31 := Lib.hid bx31
  have BX32 := Lib.hid bx32
  clear bx22 bx24 bx25 bx26 bx29 bx30 bx31 bx32
  refine sK fun K hK => ?_
  refine wp_region_seqplan 8 [(true, 0), (true, 1), (true, 2), (true, 3), (true, 4), (true, 5), (true, 6), (true, 7)] (by rfl) (by simp) (fun T hT => ?_)
  refine wpPlan_takeL (v := ?_) rfl (by rfl) (fun w' hw => ?_) ?_; rotate_left; go_simp; with_reducible rfl; simp only [Act.put, rA, rB, rC]
  refine wpPlan_callL rfl (by rfl) Tryz.call14 (fun w' hw => zrsign (r) (t) _ _ (HT_.out) (BX30.out.gr hw)) (by rfl) ?_
  simp only [Act.put, rA, rB, rC]
  iterate 2 (refine wpPlan_takeL (v := ?_) rfl (by rfl) (fun w' hw => ?_) ?_; rotate_left; go_simp; with_reducible rfl; simp only [Act.put, rA, rB, rC])
  iterate 3 (refine wpPlan_skipL rfl (by rfl) ?_; simp only [Act.put, rA, rB, rC])
  refine wpPlan_takeL (v := ?_) rfl (by rfl) (fun w' hw => ?_) ?_; rotate_left; go_simp; with_reducible rfl; simp only [Act.put, rA, rB, rC]
  refine wpPlan_nil (hT.out _ _ ?_); clear hT T
  intro vw3 hg
  simp only [puts, Act.put, rA, rB, rC, rD, rE, ↓reduceIte, Nat.reduceEqDiff]
  clear lx24 lx32
  have HG := Lib.hid (hg)
  clear hg
  replace BX22 := rG BX22 HG
  replace BX24 := bG BX24 HG
  replace BX25 := bG BX25 HG
  replace BX26 := bG BX26 HG
  replace BX29 := rG BX29 HG
  replace BX30 := rG BX30 HG
  replace BX31 := bG BX31 HG
  replace BX32 := bG BX32 HG
  have r0 := Gr.refl vw3
  go_wp2
  refine hK.out _ _ ?_; clear hK K
  show Code.wp _ _ _ _ _
  clear r0
  refine forgetW (fun w2 => Rn w2 (.slice ao_vb n_vb c_vb) (Int.natAbs (b)) ∧ Bx w2 (w.heap.size + 1) 38 #[.bool (decide ((b) < 0)), (.slice ao_vb n_vb c_vb)] ∧ Bx w2 (w.heap.size + 1 + 1) 38 #[.bool false, .slice none 0 0] ∧ Bx w2 (w.heap.size + 1 + 1 + 1) 38 #[.bool false, .slice none 0 0] ∧ Rn w2 (.slice ao3 nn3 cc3) (Int.natAbs (q)) ∧ Rn w2 (.slice ao4 nn4 cc4) (Int.natAbs (r)) ∧ Bx w2 gx31 38 #[.bool (decide ((q) < 0)), (.slice ao3 nn3 cc3)] ∧ Bx w2 gx32 38 #[.bool (decide ((r) < 0)), (.slice ao4 nn4 cc4)] ∧ Below w.heap.size w w2) ⟨BX22.out, BX24.out, BX25.out, BX26.out, BX29.out, BX30.out, BX31.out, BX32.out, HB.out.trans (HG.out.mono HB.out.size)⟩ ?_
  clear HB HG BX22 BX24 BX25 BX26 BX29 BX30 BX31 BX32
  rintro Wx3 ⟨bx22, bx24, bx25, bx26, bx29, bx30, bx31, bx32, HB⟩
  replace HB := Lib.hid HB
  clear hd4
  refine wp_cond_false (by rfl) ?_
  refine wp_skip ?_
  show Code.wp _ _ _ _ _
  refine wp_seq ?_
  have hd5 : ¬ (t < 0) := by have h0 := H0.out; have hb := HBS.out; have hr := HRS.out; omega
  have lx32 := bx32.cells
  have BX22 := Lib.hid bx22
  have BX24 := Lib.hid bx24
  have BX25 := Lib.hid bx25
  have BX26 := Lib.hid bx26
  have BX29 := Lib.hid bx29
  have BX30 := Lib.hid bx30
  have BX31 := Lib.hid bx31
  have BX32 := Lib.hid bx32
  clear bx22 bx24 bx25 bx26 bx29 bx30 bx31 bx32
  refine sK fun K hK => ?_
  refine wp_region_seqplan 3 [(true, 0), (true, 1), (true, 2)] (by rfl) (by simp) (fun T hT => ?_)
  refine wpPlan_takeL (v := ?_) rfl (by rfl) (fun w' hw => ?_) ?_; rotate_left; go_simp; with_reducible rfl; simp only [Act.put, rA, rB, rC]
  refine wpPlan_callL rfl (by rfl) Tryz.call14 (fun w' hw => zrsign (r) (t) _ _ (HT_.out) (BX30.out.gr hw)) (by rfl) ?_
  simp only [Act.put, rA, rB, rC]
  refine wpPlan_takeL (v := ?_) rfl (by rfl) (fun w' hw => ?_) ?_; rotate_left; go_simp; with_reducible rfl; simp only [Act.put, rA, rB, rC]
  refine wpPlan_nil (hT.out _ _ ?_); clear hT T
  intro vw4 hg
  simp only [puts, Act.put, rA, rB, rC, rD, rE, ↓reduceIte, Nat.reduceEqDiff]
  clear lx32
  have HG := Lib.hid (hg)
  clear hg
  replace BX22 := rG BX22 HG
  replace BX24 := bG BX24 HG
  replace BX25 := bG BX25 HG
  replace BX26 := bG BX26 HG
  replace BX29 := rG BX29 HG
  replace BX30 := rG BX30 HG
  replace BX31 := bG BX31 HG
  replace BX32 := bG BX32 HG
  have r0 := Gr.refl vw4
  go_wp2
  refine hK.out _ _ ?_; clear hK K
  show Code.wp _ _ _ _ _
  clear r0
  refine forgetW (fun w2 => Rn w2 (.slice ao_vb n_vb c_vb) (Int.natAbs (b)) ∧ Bx w2 (w.heap.size + 1) 38 #[.bool (decide ((b) < 0)), (.slice ao_vb n_vb c_vb)] ∧ Bx w2 (w.heap.size + 1 + 1) 38 #[.bool false, .slice none 0 0] ∧ Bx w2 (w.heap.size + 1 + 1 + 1) 38 #[.bool false, .slice none 0 0] ∧ Rn w2 (.slice ao3 nn3 cc3) (Int.natAbs (q)) ∧ Rn w2 (.slice ao4 nn4 cc4) (Int.natAbs (r)) ∧ Bx w2 gx31 38 #[.bool (decide ((q) < 0)), (.slice ao3 nn3 cc3)] ∧ Bx w2 gx32 38 #[.bool (decide ((r) < 0)), (.slice ao4 nn4 cc4)] ∧ Below w.heap.size w w2) ⟨BX22.out, BX24.out, BX25.out, BX26.out, BX29.out, BX30.out, BX31.out, BX32.out, HB.out.trans (HG.out.mono HB.out.size)⟩ ?_
  clear HB HG BX22 BX24 BX25 BX26 BX29 BX30 BX31 BX32
  rintro Wx5 ⟨bx22, bx24, bx25, bx26, bx29, bx30, bx31, bx32, HB⟩
  replace HB := Lib.hid HB
  clear hd5
  refine wp_cond_false (by rfl) ?_
  refine wp_skip ?_
  show Code.wp _ _ _ _ _
  have lx25 := bx25.cells; have fx25 := bx25.free
  have lx26 := bx26.cells; have fx26 := bx26.free
  have lx31 := bx31.cells; have fx31 := bx31.free
  have lx32 := bx32.cells; have fx32 := bx32.free
  have r0 := Gr.refl Wx5
  have BX22 := Lib.hid bx22; clear bx22
  have BX24 := Lib.hid bx24; clear bx24
  have BX25 := Lib.hid bx25; clear bx25
  have BX26 := Lib.hid bx26; clear bx26
  have BX29 := Lib.hid bx29; clear bx29
  have BX30 := Lib.hid bx30; clear bx30
  have BX31 := Lib.hid bx31; clear bx31
  have BX32 := Lib.hid bx32; clear bx32
  refine sK fun K hK => ?_
  go_region
  go_wp2
  refine hK.out _ _ ?_; clear hK K
  show Code.wp _ _ _ _ _
  clear r0 lx25 fx25 lx26 fx26 lx31 fx31 lx32 fx32
  refine forgetW (fun w2 => Bx w2 (w.heap.size + 1 + 1) 38 #[.bool (decide ((q) < 0)), (.slice ao3 nn3 cc3)] ∧ Bx w2 (w.heap.size + 1 + 1 + 1) 38 #[.bool (decide ((r) < 0)), (.slice ao4 nn4 cc4)] ∧ Rn w2 (.slice ao3 nn3 cc3) (Int.natAbs (q)) ∧ Rn w2 (.slice ao4 nn4 cc4) (Int.natAbs (r)) ∧ Below w.heap.size w w2) ⟨((so2 (((BX25.out).set 0 _).set 1 _) (by show w.heap.size + 1 + 1 ≠ w.heap.size + 1 + 1 + 1; omega)).eq (by simp only [rA, rB, rC])).gr ((Below.refl _ _).drew), ((((so2 (BX26.out) (by show w.heap.size + 1 + 1 + 1 ≠ w.heap.size + 1 + 1; omega)).set 0 _).set 1 _).eq (by simp only [rA, rB, rC])).gr ((Below.refl _ _).drew), (ro2 (ro2 (BX29.out) (Rn.ne BX29.out BX25.out (by decide))) (Rn.ne BX29.out BX26.out (by decide))).gr ((Below.refl _ _).drew), (ro2 (ro2 (BX30.out) (Rn.ne BX30.out BX25.out (by decide))) (Rn.ne BX30.out BX26.out (by decide))).gr ((Below.refl _ _).drew), (sc2 (sc2 (HB.out) (by show w.heap.size ≤ w.heap.size + 1 + 1; omega)) (by show w.heap.size ≤ w.heap.size + 1 + 1 + 1; omega)).drew⟩ ?_
  clear HB BX22 BX24 BX25 BX26 BX29 BX30 BX31 BX32
  rintro Wx7 ⟨bx25, bx26, bx29, bx30, HB⟩
  replace HB := Lib.hid HB
  refine wp_ret ?_
  try simp only [Exit.then, Exit.inBlock]
  have lx25 := bx25.cells
  have lx26 := bx26.cells
  have r0 := Gr.refl Wx7
  exact bodyPost_ret (v := .tuple #[(.agg #[.bool (decide ((q) < 0)), (.slice ao3 nn3 cc3)]), (.agg #[.bool (decide ((r) < 0)), (.slice ao4 nn4 cc4)])]) (by simp [results, Tryz.results16, go_sem, lx25 _ r0, lx26 _ r0]) rfl ⟨⟨(.slice ao3 nn3 cc3), (.slice ao4 nn4 cc4), rfl, bx29, bx30⟩, HB.out⟩

set_option maxRecDepth 20000 in
set_option maxHeartbeats 4000000 in
theorem zdiv_np (a b q r m : Int) (va vb : Value) (w : World) (HQ : Hid (a / b = q)) (HR : Hid (a % b = r)) (HBS : Hid (0 < b)) (H0 : Hid (a < 0)) (HM : Hid (-((a.natAbs % b.natAbs : Nat) : Int) = m)) (HMS : Hid (m < 0)) (HN : Hid (a.natAbs % b.natAbs ≠ 0)) (HRS : Hid (0 ≤ r)) (hs_a : tw (Int.natAbs a) ≤ 100000000) (hs_b : tw (Int.natAbs b) ≤ 100000000) (bx21 : Rn w va (Int.natAbs (a))) (bx22 : Rn w vb (Int.natAbs (b))) :
    Calls Tryz.prog 16 #[(Value.agg #[.bool (decide ((a) < 0)), va]), (Value.agg #[.bool (decide ((b) < 0)), vb])] w fun e w' => (∃ r1 r2 : Value, e = .returned (.tuple #[(.agg #[.bool (decide ((q) < 0)), r1]), (.agg #[.bool (decide ((r) < 0)), r2])]) ∧ Rn w' r1 (Int.natAbs (q)) ∧ Rn w' r2 (Int.natAbs (r))) ∧ Below w.heap.size w w' := by
  obtain ⟨ao_va, n_va, c_va, rfl⟩ := Rn.sl bx21
  obtain ⟨ao_vb, n_vb, c_vb, rfl⟩ := Rn.sl bx22
  go_enter Tryz.func16, Tryz.ntmps16
  refine sK fun K hK => ?_
  refine wp_region_lit ?_
  go_wp2
  refine hK.out _ _ ?_; clear hK K
  show Code.wp _ _ _ _ _
  refine forgetW (fun w2 => Rn w2 (.slice ao_va n_va c_va) (Int.natAbs (a)) ∧ Rn w2 (.slice ao_vb n_vb c_vb) (Int.natAbs (b)) ∧ Bx w2 (w.heap.size) 38 #[.bool (decide ((a) < 0)), (.slice ao_va n_va c_va)] ∧ Bx w2 (w.heap.size + 1) 38 #[.bool (decide ((b) < 0)), (.slice ao_vb n_vb c_vb)] ∧ Bx w2 (w.heap.size + 1 + 1) 38 #[.bool false, .slice none 0 0] ∧ Bx w2 (w.heap.size + 1 + 1 + 1) 38 #[.bool false, .slice none 0 0] ∧ Below w.heap.size w w2) ⟨((((bx21).alloc _).alloc _).alloc _).alloc _, ((((bx22).alloc _).alloc _).alloc _).alloc _, (((Bx.at rfl).alloc _).alloc _).alloc _, ((Bx.at (by simp)).alloc _).alloc _, (Bx.at (by simp)).alloc _, Bx.at (by simp), ((((Below.refl _ _).alloc (Nat.le_refl _) _).alloc (by simp) _).alloc (by simp; omega) _).alloc (by simp; omega) _⟩ ?_
  clear bx21 bx22
  rintro Wx ⟨bx21, bx22, bx23, bx24, bx25, bx26, HB⟩
  replace HB := Lib.hid HB
  obtain ⟨u1, HZ1⟩ : ∃ z, Hid ((Int.natAbs (a)) / (Int.natAbs (b)) = z) := ⟨_, Lib.hid rfl⟩
  have su1 : tw (u1) ≤ 100000000 := by rw [← HZ1.out]; have := tw_div (Int.natAbs (a)) (Int.natAbs (b)); omega
  obtain ⟨u2, HZ2⟩ : ∃ z, Hid ((Int.natAbs (a)) % (Int.natAbs (b)) = z) := ⟨_, Lib.hid rfl⟩
  have su2 : tw (u2) ≤ 100000000 := by rw [← HZ2.out]; have := tw_mod (Int.natAbs (a)) (Int.natAbs (b)); omega
  have lx23 := bx23.cells
  have lx24 := bx24.cells
  have BX21 := Lib.hid bx21
  have BX22 := Lib.hid bx22
  have BX23 := Lib.hid bx23
  have BX24 := Lib.hid bx24
  have BX25 := Lib.hid bx25
  have BX26 := Lib.hid bx26
  clear bx21 bx22 bx23 bx24 bx25 bx26
  refine sK fun K hK => ?_
  have HS0 := Lib.hid (HB.out.size)
  have MX23 : w.heap.size < Wx.heap.size := BX23.out.lt
  have MX24 : w.heap.size + 1 < Wx.heap.size := BX24.out.lt
  have MX25 : w.heap.size + 1 + 1 < Wx.heap.size := BX25.out.lt
  have MX26 : w.heap.size + 1 + 1 + 1 < Wx.heap.size := BX26.out.lt
  refine wp_region_seqplan 10 [(true, 0), (true, 1), (true, 2), (true, 3), (false, 4), (true, 5), (true, 6), (true, 7), (true, 8), (true, 9)] (by rfl) (by simp) (fun T hT => ?_)
  iterate 4 (refine wpPlan_takeL (v := ?_) rfl (by rfl) (fun w' hw => ?_) ?_; rotate_left; go_simp; with_reducible rfl; simp only [Act.put, rA, rB, rC])
  refine wpPlan_callE rfl (by rfl) Tryz.call48 (by rfl) (fun w' hw => (zrdiv _ _ (Int.natAbs (a)) (Int.natAbs (b)) (u1) (u2) _ HZ1.out HZ2.out (BX21.out.gr hw) (BX22.out.gr hw) (by have h0 := H0.out; have hb := HBS.out; have hr := HRS.out; have hm := HMS.out; first | omega | (try simp only [← HZ2.out, ← HZ1.out]) <;> first | rfl | omega | (simp; done) | grind) (by omega) (by omega)).mono ?_)
  rintro e vv1 ⟨⟨rv1, rv2, rfl, bx27, bx28⟩, hg0⟩
  obtain ⟨ao1, nn1, cc1, rfl⟩ := Rn.sl bx27
  obtain ⟨ao2, nn2, cc2, rfl⟩ := Rn.sl bx28
  refine ⟨_, rfl, hg0, ?_⟩
  replace hg0 := Gr.trans hw hg0; clear hw
  have HG0 := Lib.hid hg0; clear hg0
  replace BX21 := rG BX21 HG0
  replace BX22 := rG BX22 HG0
  replace BX23 := bG BX23 HG0
  replace BX24 := bG BX24 HG0
  replace BX25 := bG BX25 HG0
  replace BX26 := bG BX26 HG0
  replace HB := Lib.hid (HB.out.trans (HG0.out.mono HB.out.size))
  have BX27 := Lib.hid bx27; clear bx27
  have BX28 := Lib.hid bx28; clear bx28
  clear HG0
  clear lx23; have lx23 := BX23.out.cells
  clear lx24; have lx24 := BX24.out.cells
  simp only [Act.put, rA, rB, rC]
  iterate 5 (refine wpPlan_takeL (v := ?_) rfl (by rfl) (fun w' hw => ?_) ?_; rotate_left; go_simp; with_reducible rfl; simp only [Act.put, rA, rB, rC])
  refine wpPlan_nil (hT.out _ _ ?_); clear hT T
  intro vw1 hg
  simp only [puts, Act.put, rA, rB, rC, rD, rE, ↓reduceIte, Nat.reduceEqDiff]
  clear lx23 lx24
  have HG := Lib.hid (hg)
  clear hg
  replace BX21 := rG BX21 HG
  replace BX22 := rG BX22 HG
  replace BX23 := bG BX23 HG
  replace BX24 := bG BX24 HG
  replace BX25 := bG BX25 HG
  replace BX26 := bG BX26 HG
  replace BX27 := rG BX27 HG
  replace BX28 := rG BX28 HG
  have r0 := Gr.refl vw1
  go_wp2
  refine hK.out _ _ ?_; clear hK K
  show Code.wp _ _ _ _ _
  clear r0
  refine forgetW (fun w2 => Rn w2 (.slice ao_va n_va c_va) (Int.natAbs (a)) ∧ Rn w2 (.slice ao_vb n_vb c_vb) (Int.natAbs (b)) ∧ Bx w2 (w.heap.size) 38 #[.bool (decide ((a) < 0)), (.slice ao_va n_va c_va)] ∧ Bx w2 (w.heap.size + 1) 38 #[.bool (decide ((b) < 0)), (.slice ao_vb n_vb c_vb)] ∧ Bx w2 (w.heap.size + 1 + 1) 38 #[.bool false, .slice none 0 0] ∧ Bx w2 (w.heap.size + 1 + 1 + 1) 38 #[.bool false, .slice none 0 0] ∧ Rn w2 (.slice ao1 nn1 cc1) (u1) ∧ Rn w2 (.slice ao2 nn2 cc2) (u2) ∧ Below w.heap.size w w2) ⟨BX21.out, BX22.out, BX23.out, BX24.out, BX25.out, BX26.out, BX27.out, BX28.out, HB.out.trans (HG.out.mono HB.out.size)⟩ ?_
  clear HB HG BX21 BX22 BX23 BX24 BX25 BX26 BX27 BX28
  rintro Wx1 ⟨bx21, bx22, bx23, bx24, bx25, bx26, bx27, bx28, HB⟩
  replace HB := Lib.hid HB
  have hd1 : decide ((a) < 0) = true := decide_eq_true (by have h0 := H0.out; have hb := HBS.out; have hr := HRS.out; have hm := HMS.out; first | omega | (try simp only [← HZ2.out, ← HZ1.out]) <;> first | rfl | omega | (simp; done) | grind)
  have hd2 : decide ((b) < 0) = false := decide_eq_false (by have h0 := H0.out; have hb := HBS.out; have hr := HRS.out; have hm := HMS.out; first | omega | (try simp only [← HZ2.out, ← HZ1.out]) <;> first | rfl | omega | (simp; done) | grind)
  have hd3 : decide ((a) < 0) = true := decide_eq_true (by have h0 := H0.out; have hb := HBS.out; have hr := HRS.out; have hm := HMS.out; first | omega | (try simp only [← HZ2.out, ← HZ1.out]) <;> first | rfl | omega | (simp; done) | grind)
  obtain ⟨u3, HZ3⟩ : ∃ z, Hid ((if true then -((u1 : Nat) : Int) else ((u1 : Nat) : Int)) = z) := ⟨_, Lib.hid rfl⟩
  have su3 : tw (Int.natAbs (u3)) ≤ 100000000 := by rw [← HZ3.out]; split <;> simp <;> omega
  have HZ4 : Hid ((if true then -((u2 : Nat) : Int) else ((u2 : Nat) : Int)) = m) := Lib.hid (by rw [← HM.out, ← HZ2.out]; rfl)
  have su4 : tw (Int.natAbs (m)) ≤ 100000000 := by have e := HZ4.out; first | omega | (rw [← e]; split <;> simp <;> omega)
  have lx23 := bx23.cells
  have lx24 := bx24.cells
  have BX21 := Lib.hid bx21
  have BX22 := Lib.hid bx22
  have BX23 := Lib.hid bx23
  have BX24 := Lib.hid bx24
  have BX25 := Lib.hid bx25
  have BX26 := Lib.hid bx26
  have BX27 := Lib.hid bx27
  have BX28 := Lib.hid bx28
  clear bx21 bx22 bx23 bx24 bx25 bx26 bx27 bx28
  refine sK fun K hK => ?_
  have HS0 := Lib.hid (HB.out.size)
  have MX23 : w.heap.size < Wx1.heap.size := BX23.out.lt
  have MX24 : w.heap.size + 1 < Wx1.heap.size := BX24.out.lt
  have MX25 : w.heap.size + 1 + 1 < Wx1.heap.size := BX25.out.lt
  have MX26 : w.heap.size + 1 + 1 + 1 < Wx1.heap.size := BX26.out.lt
  refine wp_region_plan 13 [11, 12] [] (fun i => if i = 11 then 8 else 9) (fun i => if i = 11 then .cells #[.bool false, .slice none 0 0] 38 else .cells #[.bool false, .slice none 0 0] 38) [(true, 0), (true, 1), (true, 2), (true, 3), (true, 4), (true, 5), (true, 7), (true, 8), (true, 9), (false, 6), (false, 10)] (by kernel_rfl) (by kernel_rfl) (by intro i hi; simp only [List.mem_cons, List.not_mem_nil, or_false] at hi; rcases hi with rfl | rfl <;> exact ⟨_, rfl, rfl, rfl, by simp, fun ρ w => by kernel_rfl⟩) (fun i hi => by cases hi) (fun _ _ _ _ _ h => h) (fun T hT => ?_)
  iterate 9 (refine wpPlan_takeL (v := ?_) rfl (by rfl) (fun w' hw => ?_) ?_; rotate_left; go_simp; with_reducible rfl; simp only [Act.put, rA, rB, rC])
  refine wpPlan_callE rfl (by rfl) Tryz.call42 (by rfl) (fun w' hw => (zfrom_any true (u1) (u3) _ _ HZ3.out (BX27.out.gr hw)).mono ?_)
  rintro e vv1 ⟨⟨rv3, rfl, bx29⟩, hg0⟩
  obtain ⟨ao3, nn3, cc3, rfl⟩ := Rn.sl bx29
  refine ⟨_, rfl, hg0, ?_⟩
  replace hg0 := Gr.trans hw hg0; clear hw
  have HG0 := Lib.hid hg0; clear hg0
  replace BX21 := rG BX21 HG0
  replace BX22 := rG BX22 HG0
  replace BX23 := bG BX23 HG0
  replace BX24 := bG BX24 HG0
  replace BX25 := bG BX25 HG0
  replace BX26 := bG BX26 HG0
  replace BX27 := rG BX27 HG0
  replace BX28 := rG BX28 HG0
  replace HB := Lib.hid (HB.out.trans (HG0.out.mono HB.out.size))
  have BX29 := Lib.hid bx29; clear bx29
  clear HG0
  clear lx23; have lx23 := BX23.out.cells
  clear lx24; have lx24 := BX24.out.cells
  simp only [Act.put, rA, rB, rC]
  refine wpPlan_callE rfl (by rfl) Tryz.call42 (by rfl) (fun w' hw => (zfrom_any true (u2) (m) _ _ HZ4.out (BX28.out.gr hw)).mono ?_)
  rintro e vv2 ⟨⟨rv4, rfl, bx30⟩, hg0⟩
  obtain ⟨ao4, nn4, cc4, rfl⟩ := Rn.sl bx30
  refine ⟨_, rfl, hg0, ?_⟩
  replace hg0 := Gr.trans hw hg0; clear hw
  have HG0 := Lib.hid hg0; clear hg0
  replace BX21 := rG BX21 HG0
  replace BX22 := rG BX22 HG0
  replace BX23 := bG BX23 HG0
  replace BX24 := bG BX24 HG0
  replace BX25 := bG BX25 HG0
  replace BX26 := bG BX26 HG0
  replace BX27 := rG BX27 HG0
  replace BX28 := rG BX28 HG0
  replace BX29 := rG BX29 HG0
  replace HB := Lib.hid (HB.out.trans (HG0.out.mono HB.out.size))
  have BX30 := Lib.hid bx30; clear bx30
  clear HG0
  clear lx23; have lx23 := BX23.out.cells
  clear lx24; have lx24 := BX24.out.cells
  simp only [Act.put, rA, rB, rC]
  refine wpPlan_nil (hT.out _ _ ?_); clear hT T
  intro G vw2 hg hf
  simp only [puts, Act.put, rA, rB, rC, rD, rE, ↓reduceIte, Nat.reduceEqDiff]
  clear lx23 lx24
  have HG := Lib.hid (hg)
  clear hg
  have bx31 := Bx.of_fresh hf (i := 11) (by decide) rfl
  have yx31 := (hf.1 11 (by decide)).1
  have bx32 := Bx.of_fresh hf (i := 12) (by decide) rfl
  have yx32 := (hf.1 12 (by decide)).1
  have dx31_32 : G 11 ≠ G 12 := fun e => absurd (hf.2 11 (by decide) 12 (by decide) e) (by decide)
  clear hf
  generalize G 11 = gx31 at *
  generalize G 12 = gx32 at *
  have qx23_31 : w.heap.size < gx31 := Nat.lt_of_lt_of_le MX23 yx31
  have qx23_32 : w.heap.size < gx32 := Nat.lt_of_lt_of_le MX23 yx32
  have qx24_31 : w.heap.size + 1 < gx31 := Nat.lt_of_lt_of_le MX24 yx31
  have qx24_32 : w.heap.size + 1 < gx32 := Nat.lt_of_lt_of_le MX24 yx32
  have qx25_31 : w.heap.size + 1 + 1 < gx31 := Nat.lt_of_lt_of_le MX25 yx31
  have qx25_32 : w.heap.size + 1 + 1 < gx32 := Nat.lt_of_lt_of_le MX25 yx32
  have qx26_31 : w.heap.size + 1 + 1 + 1 < gx31 := Nat.lt_of_lt_of_le MX26 yx31
  have qx26_32 : w.heap.size + 1 + 1 + 1 < gx32 := Nat.lt_of_lt_of_le MX26 yx32
  replace yx31 : w.heap.size ≤ gx31 := Nat.le_trans HS0.out yx31
  replace yx32 : w.heap.size ≤ gx32 := Nat.le_trans HS0.out yx32
  replace BX21 := rG BX21 HG
  replace BX22 := rG BX22 HG
  replace BX23 := bG BX23 HG
  replace BX24 := bG BX24 HG
  replace BX25 := bG BX25 HG
  replace BX26 := bG BX26 HG
  replace BX27 := rG BX27 HG
  replace BX28 := rG BX28 HG
  replace BX29 := rG BX29 HG
  replace BX30 := rG BX30 HG
  have lx31 := bx31.cells; have fx31 := bx31.free
  have lx32 := bx32.cells; have fx32 := bx32.free
  have r0 := Gr.refl vw2
  have BX31 := Lib.hid bx31; clear bx31
  have BX32 := Lib.hid bx32; clear bx32
  go_wp2
  refine hK.out _ _ ?_; clear hK K
  show Code.wp _ _ _ _ _
  clear lx31 fx31
  clear lx32 fx32
  clear r0
  refine forgetW (fun w2 => Rn w2 (.slice ao_vb n_vb c_vb) (Int.natAbs (b)) ∧ Bx w2 (w.heap.size + 1) 38 #[.bool (decide ((b) < 0)), (.slice ao_vb n_vb c_vb)] ∧ Bx w2 (w.heap.size + 1 + 1) 38 #[.bool false, .slice none 0 0] ∧ Bx w2 (w.heap.size + 1 + 1 + 1) 38 #[.bool false, .slice none 0 0] ∧ Rn w2 (.slice ao3 nn3 cc3) (Int.natAbs (u3)) ∧ Rn w2 (.slice ao4 nn4 cc4) (Int.natAbs (m)) ∧ Bx w2 gx31 38 #[.bool (decide ((u3) < 0)), (.slice ao3 nn3 cc3)] ∧ Bx w2 gx32 38 #[.bool (decide ((m) < 0)), (.slice ao4 nn4 cc4)] ∧ Below w.heap.size w w2) ⟨ro2 (ro2 (BX22.out) (Rn.ne BX22.out BX31.out (by decide))) (Rn.ne BX22.out BX32.out (by decide)), so2 (so2 (BX24.out) (by show w.heap.size + 1 ≠ gx31; omega)) (by show w.heap.size + 1 ≠ gx32; omega), so2 (so2 (BX25.out) (by show w.heap.size + 1 + 1 ≠ gx31; omega)) (by show w.heap.size + 1 + 1 ≠ gx32; omega), so2 (so2 (BX26.out) (by show w.heap.size + 1 + 1 + 1 ≠ gx31; omega)) (by show w.heap.size + 1 + 1 + 1 ≠ gx32; omega), ro2 (ro2 (BX29.out) (Rn.ne BX29.out BX31.out (by decide))) (Rn.ne BX29.out BX32.out (by decide)), ro2 (ro2 (BX30.out) (Rn.ne BX30.out BX31.out (by decide))) (Rn.ne BX30.out BX32.out (by decide)), (so2 (((BX31.out).set 0 _).set 1 _) (by show gx31 ≠ gx32; omega)).eq (by simp only [rA, rB, rC]), (((so2 (BX32.out) (by show gx32 ≠ gx31; omega)).set 0 _).set 1 _).eq (by simp only [rA, rB, rC]), sc2 (sc2 (HB.out.trans (HG.out.mono HB.out.size)) (by show w.heap.size ≤ gx31; omega)) (by show w.heap.size ≤ gx32; omega)⟩ ?_
  clear HB HG BX21 BX22 BX23 BX24 BX25 BX26 BX27 BX28 BX29 BX30 BX31 BX32
  rintro Wx2 ⟨bx22, bx24, bx25, bx26, bx29, bx30, bx31, bx32, HB⟩
  replace HB := Lib.hid HB
  clear hd1 hd2 hd3
  refine wp_seq ?_
  have lx24 := bx24.cells
  have lx32 := bx32.cells
  have BX22 := Lib.hid bx22
  have BX24 := Lib.hid bx24
  have BX25 := Lib.hid bx25
  have BX26 := Lib.hid bx26
  have BX29 := Lib.hid bx29
  have BX30 := Lib.hid bx30
  have BX31 := Lib.hid bx31
  have BX32 := Lib.hid bx32
  clear bx22 bx24 bx25 bx26 bx29 bx30 bx31 bx32
  refine sK fun K hK => ?_
  refine wp_region_seqplan 8 [(true, 0), (true, 1), (true, 2), (true, 3), (true, 4), (true, 5), (true, 6), (true, 7)] (by rfl) (by simp) (fun T hT => ?_)
  refine wpPlan_takeL (v := ?_) rfl (by rfl) (fun w' hw => ?_) ?_; rotate_left; go_simp; with_reducible rfl; simp only [Act.put, rA, rB, rC]
  refine wpPlan_callL rfl (by rfl) Tryz.call14 (fun w' hw => zrsign (m) (-1) _ _ (by have e9 : (m) < (0 : Int) := (by have h0 := H0.out; have hb := HBS.out; have hr := HRS.out; have hm := HMS.out; first | omega | (try simp only [← HZ3.out, ← HZ2.out, ← HZ1.out]) <;> first | rfl | omega | (simp; done) | grind); exact sgI_lt e9) (BX30.out.gr hw)) (by rfl) ?_
  simp only [Act.put, rA, rB, rC]
  iterate 3 (refine wpPlan_takeL (v := ?_) rfl (by rfl) (fun w' hw => ?_) ?_; rotate_left; go_simp; with_reducible rfl; simp only [Act.put, rA, rB, rC])
  refine wpPlan_callL rfl (by rfl) Tryz.call14 (fun w' hw => zrsign (b) (1) _ _ (by have e9 : (0 : Int) < (b) := (by have h0 := H0.out; have hb := HBS.out; have hr := HRS.out; have hm := HMS.out; first | omega | (try simp only [← HZ3.out, ← HZ2.out, ← HZ1.out]) <;> first | rfl | omega | (simp; done) | grind); exact sgI_gt e9) (BX22.out.gr hw)) (by rfl) ?_
  simp only [Act.put, rA, rB, rC]
  iterate 2 (refine wpPlan_takeL (v := ?_) rfl (by rfl) (fun w' hw => ?_) ?_; rotate_left; go_simp; with_reducible rfl; simp only [Act.put, rA, rB, rC])
  refine wpPlan_nil (hT.out _ _ ?_); clear hT T
  intro vw3 hg
  simp only [puts, Act.put, rA, rB, rC, rD, rE, ↓reduceIte, Nat.reduceEqDiff]
  clear lx24 lx32
  have HG := Lib.hid (hg)
  clear hg
  replace BX22 := rG BX22 HG
  replace BX24 := bG BX24 HG
  replace BX25 := bG BX25 HG
  replace BX26 := bG BX26 HG
  replace BX29 := rG BX29 HG
  replace BX30 := rG BX30 HG
  replace BX31 := bG BX31 HG
  replace BX32 := bG BX32 HG
  have r0 := Gr.refl vw3
  go_wp2
  refine hK.out _ _ ?_; clear hK K
  show Code.wp _ _ _ _ _
  clear r0
  refine forgetW (fun w2 => Rn w2 (.slice ao_vb n_vb c_vb) (Int.natAbs (b)) ∧ Bx w2 (w.heap.size + 1) 38 #[.bool (decide ((b) < 0)), (.slice ao_vb n_vb c_vb)] ∧ Bx w2 (w.heap.size + 1 + 1) 38 #[.bool false, .slice none 0 0] ∧ Bx w2 (w.heap.size + 1 + 1 + 1) 38 #[.bool false, .slice none 0 0] ∧ Rn w2 (.slice ao3 nn3 cc3) (Int.natAbs (u3)) ∧ Rn w2 (.slice ao4 nn4 cc4) (Int.natAbs (m)) ∧ Bx w2 gx31 38 #[.bool (decide ((u3) < 0)), (.slice ao3 nn3 cc3)] ∧ Bx w2 gx32 38 #[.bool (decide ((m) < 0)), (.slice ao4 nn4 cc4)] ∧ Below w.heap.size w w2) ⟨BX22.out, BX24.out, BX25.out, BX26.out, BX29.out, BX30.out, BX31.out, BX32.out, HB.out.trans (HG.out.mono HB.out.size)⟩ ?_
  clear HB HG BX22 BX24 BX25 BX26 BX29 BX30 BX31 BX32
  rintro Wx3 ⟨bx22, bx24, bx25, bx26, bx29, bx30, bx31, bx32, HB⟩
  replace HB := Lib.hid HB
  refine wp_cond_true (by rfl) ?_
  have HZ5 : Hid ((1 : Int) = 1) := Lib.hid (by decide +kernel)
  have su5 : tw (Int.natAbs (1)) ≤ 1 := tw_le.2 (by decide +kernel)
  have HZ6 : Hid ((u3) - (1) = q) := Lib.hid (by have h0 := H0.out; have hb := HBS.out; have hr := HRS.out; have hm := HMS.out; rw [← HQ.out, ← dc (a := a) (b := b) false (by omega) (decide_eq_false (by omega)) (by omega) HN.out, HZ1.out]; have e9 := HZ3.out; simp at e9 ⊢; omega)
  have su6 : tw (Int.natAbs (q)) ≤ 100000001 := by have e := HZ6.out; first | omega | (rw [← e]; have := tw_isub (u3) (1); omega)
  have HZ7 : Hid ((m) + (b) = r) := Lib.hid (by have h0 := H0.out; have hb := HBS.out; have hr := HRS.out; have hm := HMS.out; rw [← HR.out, ← (div_carry (a := a) (b := b) (by omega) (by omega) HN.out).1, HM.out]; omega)
  have su7 : tw (Int.natAbs (r)) ≤ 100000001 := by have e := HZ7.out; first | omega | (rw [← e]; have := tw_iadd (m) (b); omega)
  have lx24 := bx24.cells
  have lx31 := bx31.cells
  have lx32 := bx32.cells
  have BX22 := Lib.hid bx22
  have BX24 := Lib.hid bx24
  have BX25 := Lib.hid bx25
  have BX26 := Lib.hid bx26
  have BX29 := Lib.hid bx29
  have BX30 := Lib.hid bx30
  have BX31 := Lib.hid bx31
  have BX32 := Lib.hid bx32
  clear bx22 bx24 bx25 bx26 bx29 bx30 bx31 bx32
  refine sK fun K hK => ?_
  have HS0 := Lib.hid (HB.out.size)
  have MX24 : w.heap.size + 1 < Wx3.heap.size := BX24.out.lt
  have MX25 : w.heap.size + 1 + 1 < Wx3.heap.size := BX25.out.lt
  have MX26 : w.heap.size + 1 + 1 + 1 < Wx3.heap.size := BX26.out.lt
  have MX31 : gx31 < Wx3.heap.size := BX31.out.lt
  have MX32 : gx32 < Wx3.heap.size := BX32.out.lt
  refine wp_region_plan 6 [] [] (fun _ => 0) (fun _ => .cells #[] 0) [(true, 0), (true, 3), (true, 4), (false, 1), (false, 2), (false, 5)] (by kernel_rfl) (by kernel_rfl) (fun i hi => by cases hi) (fun i hi => by cases hi) (fun _ _ _ _ _ h => h) (fun T hT => ?_)
  iterate 3 (refine wpPlan_takeL (v := ?_) rfl (by rfl) (fun w' hw => ?_) ?_; rotate_left; go_simp; with_reducible rfl; simp only [Act.put, rA, rB, rC])
  refine wpPlan_callE rfl (by rfl) Tryz.call45 (by rfl) (fun w' hw => (zof_any (1) (1) _ HZ5.out (by decide) (by decide)).mono ?_)
  rintro e vv1 ⟨⟨rv5, rfl, bx33⟩, hg0⟩
  obtain ⟨ao5, nn5, cc5, rfl⟩ := Rn.sl bx33
  refine ⟨_, rfl, hg0, ?_⟩
  replace hg0 := Gr.trans hw hg0; clear hw
  have HG0 := Lib.hid hg0; clear hg0
  replace BX22 := rG BX22 HG0
  replace BX24 := bG BX24 HG0
  replace BX25 := bG BX25 HG0
  replace BX26 := bG BX26 HG0
  replace BX29 := rG BX29 HG0
  replace BX30 := rG BX30 HG0
  replace BX31 := bG BX31 HG0
  replace BX32 := bG BX32 HG0
  replace HB := Lib.hid (HB.out.trans (HG0.out.mono HB.out.size))
  have BX33 := Lib.hid bx33; clear bx33
  clear HG0
  clear lx24; have lx24 := BX24.out.cells
  clear lx31; have lx31 := BX31.out.cells
  clear lx32; have lx32 := BX32.out.cells
  simp only [Act.put, rA, rB, rC]
  refine wpPlan_callE rfl (by rfl) Tryz.call21 (by rfl) (fun w' hw => (zsub_any (u3) (1) (q) _ _ _ HZ6.out (by omega) (by omega) (BX29.out.gr hw) (BX33.out.gr hw)).mono ?_)
  rintro e vv2 ⟨⟨rv6, rfl, bx34⟩, hg0⟩
  obtain ⟨ao6, nn6, cc6, rfl⟩ := Rn.sl bx34
  refine ⟨_, rfl, hg0, ?_⟩
  replace hg0 := Gr.trans hw hg0; clear hw
  have HG0 := Lib.hid hg0; clear hg0
  replace BX22 := rG BX22 HG0
  replace BX24 := bG BX24 HG0
  replace BX25 := bG BX25 HG0
  replace BX26 := bG BX26 HG0
  replace BX29 := rG BX29 HG0
  replace BX30 := rG BX30 HG0
  replace BX31 := bG BX31 HG0
  replace BX32 := bG BX32 HG0
  replace BX33 := rG BX33 HG0
  replace HB := Lib.hid (HB.out.trans (HG0.out.mono HB.out.size))
  have BX34 := Lib.hid bx34; clear bx34
  clear HG0
  clear lx24; have lx24 := BX24.out.cells
  clear lx31; have lx31 := BX31.out.cells
  clear lx32; have lx32 := BX32.out.cells
  simp only [Act.put, rA, rB, rC]
  refine wpPlan_callE rfl (by rfl) Tryz.call19 (by rfl) (fun w' hw => (zadd_any (m) (b) (r) _ _ _ HZ7.out (by omega) (by omega) (BX30.out.gr hw) (BX22.out.gr hw)).mono ?_)
  rintro e vv3 ⟨⟨rv7, rfl, bx35⟩, hg0⟩
  obtain ⟨ao7, nn7, cc7, rfl⟩ := Rn.sl bx35
  refine ⟨_, rfl, hg0, ?_⟩
  replace hg0 := Gr.trans hw hg0; clear hw
  have HG0 := Lib.hid hg0; clear hg0
  replace BX22 := rG BX22 HG0
  replace BX24 := bG BX24 HG0
  replace BX25 := bG BX25 HG0
  replace BX26 := bG BX26 HG0
  replace BX29 := rG BX29 HG0
  replace BX30 := rG BX30 HG0
  replace BX31 := bG BX31 HG0
  replace BX32 := bG BX32 HG0
  replace BX33 := rG BX33 HG0
  replace BX34 := rG BX34 HG0
  replace HB := Lib.hid (HB.out.trans (HG0.out.mono HB.out.size))
  have BX35 := Lib.hid bx35; clear bx35
  clear HG0
  clear lx24; have lx24 := BX24.out.cells
  clear lx31; have lx31 := BX31.out.cells
  clear lx32; have lx32 := BX32.out.cells
  simp only [Act.put, rA, rB, rC]
  refine wpPlan_nil (hT.out _ _ ?_); clear hT T
  intro G vw4 hg hf
  simp only [puts, Act.put, rA, rB, rC, rD, rE, ↓reduceIte, Nat.reduceEqDiff]
  clear lx24 lx31 lx32
  have HG := Lib.hid (hg)
  clear hg
  replace BX22 := rG BX22 HG
  replace BX24 := bG BX24 HG
  replace BX25 := bG BX25 HG
  replace BX26 := bG BX26 HG
  replace BX29 := rG BX29 HG
  replace BX30 := rG BX30 HG
  replace BX31 := bG BX31 HG
  replace BX32 := bG BX32 HG
  replace BX33 := rG BX33 HG
  replace BX34 := rG BX34 HG
  replace BX35 := rG BX35 HG
  have lx25 := BX25.out.cells; have fx25 := BX25.out.free
  have lx26 := BX26.out.cells; have fx26 := BX26.out.free
  have r0 := Gr.refl vw4
  go_wp2
  refine hK.out _ _ ?_; clear hK K
  show Code.wp _ _ _ _ _
  clear lx25 fx25
  clear lx26 fx26
  clear r0
  refine forgetW (fun w2 => Rn w2 (.slice ao_vb n_vb c_vb) (Int.natAbs (b)) ∧ Bx w2 (w.heap.size + 1) 38 #[.bool (decide ((b) < 0)), (.slice ao_vb n_vb c_vb)] ∧ Bx w2 (w.heap.size + 1 + 1) 38 #[.bool (decide ((q) < 0)), (.slice ao6 nn6 cc6)] ∧ Bx w2 (w.heap.size + 1 + 1 + 1) 38 #[.bool (decide ((r) < 0)), (.slice ao7 nn7 cc7)] ∧ Rn w2 (.slice ao3 nn3 cc3) (Int.natAbs (u3)) ∧ Rn w2 (.slice ao4 nn4 cc4) (Int.natAbs (m)) ∧ Bx w2 gx31 38 #[.bool (decide ((u3) < 0)), (.slice ao3 nn3 cc3)] ∧ Bx w2 gx32 38 #[.bool (decide ((m) < 0)), (.slice ao4 nn4 cc4)] ∧ Rn w2 (.slice ao6 nn6 cc6) (Int.natAbs (q)) ∧ Rn w2 (.slice ao7 nn7 cc7) (Int.natAbs (r)) ∧ Below w.heap.size w w2) ⟨ro2 (ro2 (BX22.out) (Rn.ne BX22.out BX25.out (by decide))) (Rn.ne BX22.out BX26.out (by decide)), so2 (so2 (BX24.out) (by show w.heap.size + 1 ≠ w.heap.size + 1 + 1; omega)) (by show w.heap.size + 1 ≠ w.heap.size + 1 + 1 + 1; omega), (so2 (((BX25.out).set 0 _).set 1 _) (by show w.heap.size + 1 + 1 ≠ w.heap.size + 1 + 1 + 1; omega)).eq (by simp only [rA, rB, rC]), (((so2 (BX26.out) (by show w.heap.size + 1 + 1 + 1 ≠ w.heap.size + 1 + 1; omega)).set 0 _).set 1 _).eq (by simp only [rA, rB, rC]), ro2 (ro2 (BX29.out) (Rn.ne BX29.out BX25.out (by decide))) (Rn.ne BX29.out BX26.out (by decide)), ro2 (ro2 (BX30.out) (Rn.ne BX30.out BX25.out (by decide))) (Rn.ne BX30.out BX26.out (by decide)), so2 (so2 (BX31.out) (by show gx31 ≠ w.heap.size + 1 + 1; omega)) (by show gx31 ≠ w.heap.size + 1 + 1 + 1; omega), so2 (so2 (BX32.out) (by show gx32 ≠ w.heap.size + 1 + 1; omega)) (by show gx32 ≠ w.heap.size + 1 + 1 + 1; omega), ro2 (ro2 (BX34.out) (Rn.ne BX34.out BX25.out (by decide))) (Rn.ne BX34.out BX26.out (by decide)), ro2 (ro2 (BX35.out) (Rn.ne BX35.out BX25.out (by decide))) (Rn.ne BX35.out BX26.out (by decide)), sc2 (sc2 (HB.out.trans (HG.out.mono HB.out.size)) (by show w.heap.size ≤ w.heap.size + 1 + 1; omega)) (by show w.heap.size ≤ w.heap.size + 1 + 1 + 1; omega)⟩ ?_
  clear HB HG BX22 BX24 BX25 BX26 BX29 BX30 BX31 BX32 BX33 BX34 BX35
  rintro Wx4 ⟨bx22, bx24, bx25, bx26, bx29, bx30, bx31, bx32, bx34, bx35, HB⟩
  replace HB := Lib.hid HB
  refine wp_ret ?_
  try simp only [Exit.then, Exit.inBlock]
  have lx25 := bx25.cells
  have lx26 := bx26.cells
  have r0 := Gr.refl Wx4
  exact bodyPost_ret (v := .tuple #[(.agg #[.bool (decide ((q) < 0)), (.slice ao6 nn6 cc6)]), (.agg #[.bool (decide ((r) < 0)), (.slice ao7 nn7 cc7)])]) (by simp [results, Tryz.results16, go_sem, lx25 _ r0, lx26 _ r0]) rfl ⟨⟨(.slice ao6 nn6 cc6), (.slice ao7 nn7 cc7), rfl, bx34, bx35⟩, HB.out⟩

set_option maxRecDepth 20000 in
set_option maxHeartbeats 4000000 in
theorem zdiv_nn (a b q r m : Int) (va vb : Value) (w : World) (HQ : Hid (a / b = q)) (HR : Hid (a % b = r)) (HBS : Hid (b < 0)) (H0 : Hid (a < 0)) (HM : Hid (-((a.natAbs % b.natAbs : Nat) : Int) = m)) (HMS : Hid (m < 0)) (HN : Hid (a.natAbs % b.natAbs ≠ 0)) (HRS : Hid (0 ≤ r)) (hs_a : tw (Int.natAbs a) ≤ 100000000) (hs_b : tw (Int.natAbs b) ≤ 100000000) (bx21 : Rn w va (Int.natAbs (a))) (bx22 : Rn w vb (Int.natAbs (b))) :
    Calls Tryz.prog 16 #[(Value.agg #[.bool (decide ((a) < 0)), va]), (Value.agg #[.bool (decide ((b) < 0)), vb])] w fun e w' => (∃ r1 r2 : Value, e = .returned (.tuple #[(.agg #[.bool (decide ((q) < 0)), r1]), (.agg #[.bool (decide ((r) < 0)), r2])]) ∧ Rn w' r1 (Int.natAbs (q)) ∧ Rn w' r2 (Int.natAbs (r))) ∧ Below w.heap.size w w' := by
  obtain ⟨ao_va, n_va, c_va, rfl⟩ := Rn.sl bx21
  obtain ⟨ao_vb, n_vb, c_vb, rfl⟩ := Rn.sl bx22
  go_enter Tryz.func16, Tryz.ntmps16
  refine sK fun K hK => ?_
  refine wp_region_lit ?_
  go_wp2
  refine hK.out _ _ ?_; clear hK K
  show Code.wp _ _ _ _ _
  refine forgetW (fun w2 => Rn w2 (.slice ao_va n_va c_va) (Int.natAbs (a)) ∧ Rn w2 (.slice ao_vb n_vb c_vb) (Int.natAbs (b)) ∧ Bx w2 (w.heap.size) 38 #[.bool (decide ((a) < 0)), (.slice ao_va n_va c_va)] ∧ Bx w2 (w.heap.size + 1) 38 #[.bool (decide ((b) < 0)), (.slice ao_vb n_vb c_vb)] ∧ Bx w2 (w.heap.size + 1 + 1) 38 #[.bool false, .slice none 0 0] ∧ Bx w2 (w.heap.size + 1 + 1 + 1) 38 #[.bool false, .slice none 0 0] ∧ Below w.heap.size w w2) ⟨((((bx21).alloc _).alloc _).alloc _).alloc _, ((((bx22).alloc _).alloc _).alloc _).alloc _, (((Bx.at rfl).alloc _).alloc _).alloc _, ((Bx.at (by simp)).alloc _).alloc _, (Bx.at (by simp)).alloc _, Bx.at (by simp), ((((Below.refl _ _).alloc (Nat.le_refl _) _).alloc (by simp) _).alloc (by simp; omega) _).alloc (by simp; omega) _⟩ ?_
  clear bx21 bx22
  rintro Wx ⟨bx21, bx22, bx23, bx24, bx25, bx26, HB⟩
  replace HB := Lib.hid HB
  obtain ⟨u1, HZ1⟩ : ∃ z, Hid ((Int.natAbs (a)) / (Int.natAbs (b)) = z) := ⟨_, Lib.hid rfl⟩
  have su1 : tw (u1) ≤ 100000000 := by rw [← HZ1.out]; have := tw_div (Int.natAbs (a)) (Int.natAbs (b)); omega
  obtain ⟨u2, HZ2⟩ : ∃ z, Hid ((Int.natAbs (a)) % (Int.natAbs (b)) = z) := ⟨_, Lib.hid rfl⟩
  have su2 : tw (u2) ≤ 100000000 := by rw [← HZ2.out]; have := tw_mod (Int.natAbs (a)) (Int.natAbs (b)); omega
  have lx23 := bx23.cells
  have lx24 := bx24.cells
  have BX21 := Lib.hid bx21
  have BX22 := Lib.hid bx22
  have BX23 := Lib.hid bx23
  have BX24 := Lib.hid bx24
  have BX25 := Lib.hid bx25
  have BX26 := Lib.hid bx26
  clear bx21 bx22 bx23 bx24 bx25 bx26
  refine sK fun K hK => ?_
  have HS0 := Lib.hid (HB.out.size)
  have MX23 : w.heap.size < Wx.heap.size := BX23.out.lt
  have MX24 : w.heap.size + 1 < Wx.heap.size := BX24.out.lt
  have MX25 : w.heap.size + 1 + 1 < Wx.heap.size := BX25.out.lt
  have MX26 : w.heap.size + 1 + 1 + 1 < Wx.heap.size := BX26.out.lt
  refine wp_region_seqplan 10 [(true, 0), (true, 1), (true, 2), (true, 3), (false, 4), (true, 5), (true, 6), (true, 7), (true, 8), (true, 9)] (by rfl) (by simp) (fun T hT => ?_)
  iterate 4 (refine wpPlan_takeL (v := ?_) rfl (by rfl) (fun w' hw => ?_) ?_; rotate_left; go_simp; with_reducible rfl; simp only [Act.put, rA, rB, rC])
  refine wpPlan_callE rfl (by rfl) Tryz.call48 (by rfl) (fun w' hw => (zrdiv _ _ (Int.natAbs (a)) (Int.natAbs (b)) (u1) (u2) _ HZ1.out HZ2.out (BX21.out.gr hw) (BX22.out.gr hw) (by have h0 := H0.out; have hb := HBS.out; have hr := HRS.out; have hm := HMS.out; first | omega | (try simp only [← HZ2.out, ← HZ1.out]) <;> first | rfl | omega | (simp; done) | grind) (by omega) (by omega)).mono ?_)
  rintro e vv1 ⟨⟨rv1, rv2, rfl, bx27, bx28⟩, hg0⟩
  obtain ⟨ao1, nn1, cc1, rfl⟩ := Rn.sl bx27
  obtain ⟨ao2, nn2, cc2, rfl⟩ := Rn.sl bx28
  refine ⟨_, rfl, hg0, ?_⟩
  replace hg0 := Gr.trans hw hg0; clear hw
  have HG0 := Lib.hid hg0; clear hg0
  replace BX21 := rG BX21 HG0
  replace BX22 := rG BX22 HG0
  replace BX23 := bG BX23 HG0
  replace BX24 := bG BX24 HG0
  replace BX25 := bG BX25 HG0
  replace BX26 := bG BX26 HG0
  replace HB := Lib.hid (HB.out.trans (HG0.out.mono HB.out.size))
  have BX27 := Lib.hid bx27; clear bx27
  have BX28 := Lib.hid bx28; clear bx28
  clear HG0
  clear lx23; have lx23 := BX23.out.cells
  clear lx24; have lx24 := BX24.out.cells
  simp only [Act.put, rA, rB, rC]
  iterate 5 (refine wpPlan_takeL (v := ?_) rfl (by rfl) (fun w' hw => ?_) ?_; rotate_left; go_simp; with_reducible rfl; simp only [Act.put, rA, rB, rC])
  refine wpPlan_nil (hT.out _ _ ?_); clear hT T
  intro vw1 hg
  simp only [puts, Act.put, rA, rB, rC, rD, rE, ↓reduceIte, Nat.reduceEqDiff]
  clear lx23 lx24
  have HG := Lib.hid (hg)
  clear hg
  replace BX21 := rG BX21 HG
  replace BX22 := rG BX22 HG
  replace BX23 := bG BX23 HG
  replace BX24 := bG BX24 HG
  replace BX25 := bG BX25 HG
  replace BX26 := bG BX26 HG
  replace BX27 := rG BX27 HG
  replace BX28 := rG BX28 HG
  have r0 := Gr.refl vw1
  go_wp2
  refine hK.out _ _ ?_; clear hK K
  show Code.wp _ _ _ _ _
  clear r0
  refine forgetW (fun w2 => Rn w2 (.slice ao_va n_va c_va) (Int.natAbs (a)) ∧ Rn w2 (.slice ao_vb n_vb c_vb) (Int.natAbs (b)) ∧ Bx w2 (w.heap.size) 38 #[.bool (decide ((a) < 0)), (.slice ao_va n_va c_va)] ∧ Bx w2 (w.heap.size + 1) 38 #[.bool (decide ((b) < 0)), (.slice ao_vb n_vb c_vb)] ∧ Bx w2 (w.heap.size + 1 + 1) 38 #[.bool false, .slice none 0 0] ∧ Bx w2 (w.heap.size + 1 + 1 + 1) 38 #[.bool false, .slice none 0 0] ∧ Rn w2 (.slice ao1 nn1 cc1) (u1) ∧ Rn w2 (.slice ao2 nn2 cc2) (u2) ∧ Below w.heap.size w w2) ⟨BX21.out, BX22.out, BX23.out, BX24.out, BX25.out, BX26.out, BX27.out, BX28.out, HB.out.trans (HG.out.mono HB.out.size)⟩ ?_
  clear HB HG BX21 BX22 BX23 BX24 BX25 BX26 BX27 BX28
  rintro Wx1 ⟨bx21, bx22, bx23, bx24, bx25, bx26, bx27, bx28, HB⟩
  replace HB := Lib.hid HB
  have hd1 : decide ((a) < 0) = true := decide_eq_true (by have h0 := H0.out; have hb := HBS.out; have hr := HRS.out; have hm := HMS.out; first | omega | (try simp only [← HZ2.out, ← HZ1.out]) <;> first | rfl | omega | (simp; done) | grind)
  have hd2 : decide ((b) < 0) = true := decide_eq_true (by have h0 := H0.out; have hb := HBS.out; have hr := HRS.out; have hm := HMS.out; first | omega | (try simp only [← HZ2.out, ← HZ1.out]) <;> first | rfl | omega | (simp; done) | grind)
  have hd3 : decide ((a) < 0) = true := decide_eq_true (by have h0 := H0.out; have hb := HBS.out; have hr := HRS.out; have hm := HMS.out; first | omega | (try simp only [← HZ2.out, ← HZ1.out]) <;> first | rfl | omega | (simp; done) | grind)
  obtain ⟨u3, HZ3⟩ : ∃ z, Hid ((if false then -((u1 : Nat) : Int) else ((u1 : Nat) : Int)) = z) := ⟨_, Lib.hid rfl⟩
  have su3 : tw (Int.natAbs (u3)) ≤ 100000000 := by rw [← HZ3.out]; split <;> simp <;> omega
  have HZ4 : Hid ((if true then -((u2 : Nat) : Int) else ((u2 : Nat) : Int)) = m) := Lib.hid (by rw [← HM.out, ← HZ2.out]; rfl)
  have su4 : tw (Int.natAbs (m)) ≤ 100000000 := by have e := HZ4.out; first | omega | (rw [← e]; split <;> simp <;> omega)
  have lx23 := bx23.cells
  have lx24 := bx24.cells
  have BX21 := Lib.hid bx21
  have BX22 := Lib.hid bx22
  have BX23 := Lib.hid bx23
  have BX24 := Lib.hid bx24
  have BX25 := Lib.hid bx25
  have BX26 := Lib.hid bx26
  have BX27 := Lib.hid bx27
  have BX28 := Lib.hid bx28
  clear bx21 bx22 bx23 bx24 bx25 bx26 bx27 bx28
  refine sK fun K hK => ?_
  have HS0 := Lib.hid (HB.out.size)
  have MX23 : w.heap.size < Wx1.heap.size := BX23.out.lt
  have MX24 : w.heap.size + 1 < Wx1.heap.size := BX24.out.lt
  have MX25 : w.heap.size + 1 + 1 < Wx1.heap.size := BX25.out.lt
  have MX26 : w.heap.size + 1 + 1 + 1 < Wx1.heap.size := BX26.out.lt
  refine wp_region_plan 13 [11, 12] [] (fun i => if i = 11 then 8 else 9) (fun i => if i = 11 then .cells #[.bool false, .slice none 0 0] 38 else .cells #[.bool false, .slice none 0 0] 38) [(true, 0), (true, 1), (true, 2), (true, 3), (true, 4), (true, 5), (true, 7), (true, 8), (true, 9), (false, 6), (false, 10)] (by kernel_rfl) (by kernel_rfl) (by intro i hi; simp only [List.mem_cons, List.not_mem_nil, or_false] at hi; rcases hi with rfl | rfl <;> exact ⟨_, rfl, rfl, rfl, by simp, fun ρ w => by kernel_rfl⟩) (fun i hi => by cases hi) (fun _ _ _ _ _ h => h) (fun T hT => ?_)
  iterate 9 (refine wpPlan_takeL (v := ?_) rfl (by rfl) (fun w' hw => ?_) ?_; rotate_left; go_simp; with_reducible rfl; simp only [Act.put, rA, rB, rC])
  refine wpPlan_callE rfl (by rfl) Tryz.call42 (by rfl) (fun w' hw => (zfrom_any false (u1) (u3) _ _ HZ3.out (BX27.out.gr hw)).mono ?_)
  rintro e vv1 ⟨⟨rv3, rfl, bx29⟩, hg0⟩
  obtain ⟨ao3, nn3, cc3, rfl⟩ := Rn.sl bx29
  refine ⟨_, rfl, hg0, ?_⟩
  replace hg0 := Gr.trans hw hg0; clear hw
  have HG0 := Lib.hid hg0; clear hg0
  replace BX21 := rG BX21 HG0
  replace BX22 := rG BX22 HG0
  replace BX23 := bG BX23 HG0
  replace BX24 := bG BX24 HG0
  replace BX25 := bG BX25 HG0
  replace BX26 := bG BX26 HG0
  replace BX27 := rG BX27 HG0
  replace BX28 := rG BX28 HG0
  replace HB := Lib.hid (HB.out.trans (HG0.out.mono HB.out.size))
  have BX29 := Lib.hid bx29; clear bx29
  clear HG0
  clear lx23; have lx23 := BX23.out.cells
  clear lx24; have lx24 := BX24.out.cells
  simp only [Act.put, rA, rB, rC]
  refine wpPlan_callE rfl (by rfl) Tryz.call42 (by rfl) (fun w' hw => (zfrom_any true (u2) (m) _ _ HZ4.out (BX28.out.gr hw)).mono ?_)
  rintro e vv2 ⟨⟨rv4, rfl, bx30⟩, hg0⟩
  obtain ⟨ao4, nn4, cc4, rfl⟩ := Rn.sl bx30
  refine ⟨_, rfl, hg0, ?_⟩
  replace hg0 := Gr.trans hw hg0; clear hw
  have HG0 := Lib.hid hg0; clear hg0
  replace BX21 := rG BX21 HG0
  replace BX22 := rG BX22 HG0
  replace BX23 := bG BX23 HG0
  replace BX24 := bG BX24 HG0
  replace BX25 := bG BX25 HG0
  replace BX26 := bG BX26 HG0
  replace BX27 := rG BX27 HG0
  replace BX28 := rG BX28 HG0
  replace BX29 := rG BX29 HG0
  replace HB := Lib.hid (HB.out.trans (HG0.out.mono HB.out.size))
  have BX30 := Lib.hid bx30; clear bx30
  clear HG0
  clear lx23; have lx23 := BX23.out.cells
  clear lx24; have lx24 := BX24.out.cells
  simp only [Act.put, rA, rB, rC]
  refine wpPlan_nil (hT.out _ _ ?_); clear hT T
  intro G vw2 hg hf
  simp only [puts, Act.put, rA, rB, rC, rD, rE, ↓reduceIte, Nat.reduceEqDiff]
  clear lx23 lx24
  have HG := Lib.hid (hg)
  clear hg
  have bx31 := Bx.of_fresh hf (i := 11) (by decide) rfl
  have yx31 := (hf.1 11 (by decide)).1
  have bx32 := Bx.of_fresh hf (i := 12) (by decide) rfl
  have yx32 := (hf.1 12 (by decide)).1
  have dx31_32 : G 11 ≠ G 12 := fun e => absurd (hf.2 11 (by decide) 12 (by decide) e) (by decide)
  clear hf
  generalize G 11 = gx31 at *
  generalize G 12 = gx32 at *
  have qx23_31 : w.heap.size < gx31 := Nat.lt_of_lt_of_le MX23 yx31
  have qx23_32 : w.heap.size < gx32 := Nat.lt_of_lt_of_le MX23 yx32
  have qx24_31 : w.heap.size + 1 < gx31 := Nat.lt_of_lt_of_le MX24 yx31
  have qx24_32 : w.heap.size + 1 < gx32 := Nat.lt_of_lt_of_le MX24 yx32
  have qx25_31 : w.heap.size + 1 + 1 < gx31 := Nat.lt_of_lt_of_le MX25 yx31
  have qx25_32 : w.heap.size + 1 + 1 < gx32 := Nat.lt_of_lt_of_le MX25 yx32
  have qx26_31 : w.heap.size + 1 + 1 + 1 < gx31 := Nat.lt_of_lt_of_le MX26 yx31
  have qx26_32 : w.heap.size + 1 + 1 + 1 < gx32 := Nat.lt_of_lt_of_le MX26 yx32
  replace yx31 : w.heap.size ≤ gx31 := Nat.le_trans HS0.out yx31
  replace yx32 : w.heap.size ≤ gx32 := Nat.le_trans HS0.out yx32
  replace BX21 := rG BX21 HG
  replace BX22 := rG BX22 HG
  replace BX23 := bG BX23 HG
  replace BX24 := bG BX24 HG
  replace BX25 := bG BX25 HG
  replace BX26 := bG BX26 HG
  replace BX27 := rG BX27 HG
  replace BX28 := rG BX28 HG
  replace BX29 := rG BX29 HG
  replace BX30 := rG BX30 HG
  have lx31 := bx31.cells; have fx31 := bx31.free
  have lx32 := bx32.cells; have fx32 := bx32.free
  have r0 := Gr.refl vw2
  have BX31 := Lib.hid bx31; clear bx31
  have BX32 := Lib.hid bx32; clear bx32
  go_wp2
  refine hK.out _ _ ?_; clear hK K
  show Code.wp _ _ _ _ _
  clear lx31 fx31
  clear lx32 fx32
  clear r0
  refine forgetW (fun w2 => Rn w2 (.slice ao_vb n_vb c_vb) (Int.natAbs (b)) ∧ Bx w2 (w.heap.size + 1) 38 #[.bool (decide ((b) < 0)), (.slice ao_vb n_vb c_vb)] ∧ Bx w2 (w.heap.size + 1 + 1) 38 #[.bool false, .slice none 0 0] ∧ Bx w2 (w.heap.size + 1 + 1 + 1) 38 #[.bool false, .slice none 0 0] ∧ Rn w2 (.slice ao3 nn3 cc3) (Int.natAbs (u3)) ∧ Rn w2 (.slice ao4 nn4 cc4) (Int.natAbs (m)) ∧ Bx w2 gx31 38 #[.bool (decide ((u3) < 0)), (.slice ao3 nn3 cc3)] ∧ Bx w2 gx32 38 #[.bool (decide ((m) < 0)), (.slice ao4 nn4 cc4)] ∧ Below w.heap.size w w2) ⟨ro2 (ro2 (BX22.out) (Rn.ne BX22.out BX31.out (by decide))) (Rn.ne BX22.out BX32.out (by decide)), so2 (so2 (BX24.out) (by show w.heap.size + 1 ≠ gx31; omega)) (by show w.heap.size + 1 ≠ gx32; omega), so2 (so2 (BX25.out) (by show w.heap.size + 1 + 1 ≠ gx31; omega)) (by show w.heap.size + 1 + 1 ≠ gx32; omega), so2 (so2 (BX26.out) (by show w.heap.size + 1 + 1 + 1 ≠ gx31; omega)) (by show w.heap.size + 1 + 1 + 1 ≠ gx32; omega), ro2 (ro2 (BX29.out) (Rn.ne BX29.out BX31.out (by decide))) (Rn.ne BX29.out BX32.out (by decide)), ro2 (ro2 (BX30.out) (Rn.ne BX30.out BX31.out (by decide))) (Rn.ne BX30.out BX32.out (by decide)), (so2 (((BX31.out).set 0 _).set 1 _) (by show gx31 ≠ gx32; omega)).eq (by simp only [rA, rB, rC]), (((so2 (BX32.out) (by show gx32 ≠ gx31; omega)).set 0 _).set 1 _).eq (by simp only [rA, rB, rC]), sc2 (sc2 (HB.out.trans (HG.out.mono HB.out.size)) (by show w.heap.size ≤ gx31; omega)) (by show w.heap.size ≤ gx32; omega)⟩ ?_
  clear HB HG BX21 BX22 BX23 BX24 BX25 BX26 BX27 BX28 BX29 BX30 BX31 BX32
  rintro Wx2 ⟨bx22, bx24, bx25, bx26, bx29, bx30, bx31, bx32, HB⟩
  replace HB := Lib.hid HB
  clear hd1 hd2 hd3
  refine wp_seq ?_
  have lx24 := bx24.cells
  have lx32 := bx32.cells
  have BX22 := Lib.hid bx22
  have BX24 := Lib.hid bx24
  have BX25 := Lib.hid bx25
  have BX26 := Lib.hid bx26
  have BX29 := Lib.hid bx29
  have BX30 := Lib.hid bx30
  have BX31 := Lib.hid bx31
  have BX32 := Lib.hid bx32
  clear bx22 bx24 bx25 bx26 bx29 bx30 bx31 bx32
  refine sK fun K hK => ?_
  refine wp_region_seqplan 8 [(true, 0), (true, 1), (true, 2), (true, 3), (true, 4), (true, 5), (true, 6), (true, 7)] (by rfl) (by simp) (fun T hT => ?_)
  refine wpPlan_takeL (v := ?_) rfl (by rfl) (fun w' hw => ?_) ?_; rotate_left; go_simp; with_reducible rfl; simp only [Act.put, rA, rB, rC]
  refine wpPlan_callL rfl (by rfl) Tryz.call14 (fun w' hw => zrsign (m) (-1) _ _ (by have e9 : (m) < (0 : Int) := (by have h0 := H0.out; have hb := HBS.out; have hr := HRS.out; have hm := HMS.out; first | omega | (try simp only [← HZ3.out, ← HZ2.out, ← HZ1.out]) <;> first | rfl | omega | (simp; done) | grind); exact sgI_lt e9) (BX30.out.gr hw)) (by rfl) ?_
  simp only [Act.put, rA, rB, rC]
  iterate 3 (refine wpPlan_takeL (v := ?_) rfl (by rfl) (fun w' hw => ?_) ?_; rotate_left; go_simp; with_reducible rfl; simp only [Act.put, rA, rB, rC])
  refine wpPlan_callL rfl (by rfl) Tryz.call14 (fun w' hw => zrsign (b) (-1) _ _ (by have e9 : (b) < (0 : Int) := (by have h0 := H0.out; have hb := HBS.out; have hr := HRS.out; have hm := HMS.out; first | omega | (try simp only [← HZ3.out, ← HZ2.out, ← HZ1.out]) <;> first | rfl | omega | (simp; done) | grind); exact sgI_lt e9) (BX22.out.gr hw)) (by rfl) ?_
  simp only [Act.put, rA, rB, rC]
  iterate 2 (refine wpPlan_takeL (v := ?_) rfl (by rfl) (fun w' hw => ?_) ?_; rotate_left; go_simp; with_reducible rfl; simp only [Act.put, rA, rB, rC])
  refine wpPlan_nil (hT.out _ _ ?_); clear hT T
  intro vw3 hg
  simp only [puts, Act.put, rA, rB, rC, rD, rE, ↓reduceIte, Nat.reduceEqDiff]
  clear lx24 lx32
  have HG := Lib.hid (hg)
  clear hg
  replace BX22 := rG BX22 HG
  replace BX24 := bG BX24 HG
  replace BX25 := bG BX25 HG
  replace BX26 := bG BX26 HG
  replace BX29 := rG BX29 HG
  replace BX30 := rG BX30 HG
  replace BX31 := bG BX31 HG
  replace BX32 := bG BX32 HG
  have r0 := Gr.refl vw3
  go_wp2
  refine hK.out _ _ ?_; clear hK K
  show Code.wp _ _ _ _ _
  clear r0
  refine forgetW (fun w2 => Rn w2 (.slice ao_vb n_vb c_vb) (Int.natAbs (b)) ∧ Bx w2 (w.heap.size + 1) 38 #[.bool (decide ((b) < 0)), (.slice ao_vb n_vb c_vb)] ∧ Bx w2 (w.heap.size + 1 + 1) 38 #[.bool false, .slice none 0 0] ∧ Bx w2 (w.heap.size + 1 + 1 + 1) 38 #[.bool false, .slice none 0 0] ∧ Rn w2 (.slice ao3 nn3 cc3) (Int.natAbs (u3)) ∧ Rn w2 (.slice ao4 nn4 cc4) (Int.natAbs (m)) ∧ Bx w2 gx31 38 #[.bool (decide ((u3) < 0)), (.slice ao3 nn3 cc3)] ∧ Bx w2 gx32 38 #[.bool (decide ((m) < 0)), (.slice ao4 nn4 cc4)] ∧ Below w.heap.size w w2) ⟨BX22.out, BX24.out, BX25.out, BX26.out, BX29.out, BX30.out, BX31.out, BX32.out, HB.out.trans (HG.out.mono HB.out.size)⟩ ?_
  clear HB HG BX22 BX24 BX25 BX26 BX29 BX30 BX31 BX32
  rintro Wx3 ⟨bx22, bx24, bx25, bx26, bx29, bx30, bx31, bx32, HB⟩
  replace HB := Lib.hid HB
  refine wp_cond_false (by rfl) ?_
  refine wp_skip ?_
  show Code.wp _ _ _ _ _
  refine wp_seq ?_
  have lx32 := bx32.cells
  have BX22 := Lib.hid bx22
  have BX24 := Lib.hid bx24
  have BX25 := Lib.hid bx25
  have BX26 := Lib.hid bx26
  have BX29 := Lib.hid bx29
  have BX30 := Lib.hid bx30
  have BX31 := Lib.hid bx31
  have BX32 := Lib.hid bx32
  clear bx22 bx24 bx25 bx26 bx29 bx30 bx31 bx32
  refine sK fun K hK => ?_
  refine wp_region_seqplan 3 [(true, 0), (true, 1), (true, 2)] (by rfl) (by simp) (fun T hT => ?_)
  refine wpPlan_takeL (v := ?_) rfl (by rfl) (fun w' hw => ?_) ?_; rotate_left; go_simp; with_reducible rfl; simp only [Act.put, rA, rB, rC]
  refine wpPlan_callL rfl (by rfl) Tryz.call14 (fun w' hw => zrsign (m) (-1) _ _ (by have e9 : (m) < (0 : Int) := (by have h0 := H0.out; have hb := HBS.out; have hr := HRS.out; have hm := HMS.out; first | omega | (try simp only [← HZ3.out, ← HZ2.out, ← HZ1.out]) <;> first | rfl | omega | (simp; done) | grind); exact sgI_lt e9) (BX30.out.gr hw)) (by rfl) ?_
  simp only [Act.put, rA, rB, rC]
  refine wpPlan_takeL (v := ?_) rfl (by rfl) (fun w' hw => ?_) ?_; rotate_left; go_simp; with_reducible rfl; simp only [Act.put, rA, rB, rC]
  refine wpPlan_nil (hT.out _ _ ?_); clear hT T
  intro vw4 hg
  simp only [puts, Act.put, rA, rB, rC, rD, rE, ↓reduceIte, Nat.reduceEqDiff]
  clear lx32
  have HG := Lib.hid (hg)
  clear hg
  replace BX22 := rG BX22 HG
  replace BX24 := bG BX24 HG
  replace BX25 := bG BX25 HG
  replace BX26 := bG BX26 HG
  replace BX29 := rG BX29 HG
  replace BX30 := rG BX30 HG
  replace BX31 := bG BX31 HG
  replace BX32 := bG BX32 HG
  have r0 := Gr.refl vw4
  go_wp2
  refine hK.out _ _ ?_; clear hK K
  show Code.wp _ _ _ _ _
  clear r0
  refine forgetW (fun w2 => Rn w2 (.slice ao_vb n_vb c_vb) (Int.natAbs (b)) ∧ Bx w2 (w.heap.size + 1) 38 #[.bool (decide ((b) < 0)), (.slice ao_vb n_vb c_vb)] ∧ Bx w2 (w.heap.size + 1 + 1) 38 #[.bool false, .slice none 0 0] ∧ Bx w2 (w.heap.size + 1 + 1 + 1) 38 #[.bool false, .slice none 0 0] ∧ Rn w2 (.slice ao3 nn3 cc3) (Int.natAbs (u3)) ∧ Rn w2 (.slice ao4 nn4 cc4) (Int.natAbs (m)) ∧ Bx w2 gx31 38 #[.bool (decide ((u3) < 0)), (.slice ao3 nn3 cc3)] ∧ Bx w2 gx32 38 #[.bool (decide ((m) < 0)), (.slice ao4 nn4 cc4)] ∧ Below w.heap.size w w2) ⟨BX22.out, BX24.out, BX25.out, BX26.out, BX29.out, BX30.out, BX31.out, BX32.out, HB.out.trans (HG.out.mono HB.out.size)⟩ ?_
  clear HB HG BX22 BX24 BX25 BX26 BX29 BX30 BX31 BX32
  rintro Wx5 ⟨bx22, bx24, bx25, bx26, bx29, bx30, bx31, bx32, HB⟩
  replace HB := Lib.hid HB
  refine wp_cond_true (by rfl) ?_
  have HZ5 : Hid ((1 : Int) = 1) := Lib.hid (by decide +kernel)
  have su5 : tw (Int.natAbs (1)) ≤ 1 := tw_le.2 (by decide +kernel)
  have HZ6 : Hid ((u3) + (1) = q) := Lib.hid (by have h0 := H0.out; have hb := HBS.out; have hr := HRS.out; have hm := HMS.out; rw [← HQ.out, ← dc (a := a) (b := b) true (by omega) (decide_eq_true (by omega)) (by omega) HN.out, HZ1.out]; have e9 := HZ3.out; simp at e9 ⊢; omega)
  have su6 : tw (Int.natAbs (q)) ≤ 100000001 := by have e := HZ6.out; first | omega | (rw [← e]; have := tw_iadd (u3) (1); omega)
  have HZ7 : Hid ((m) - (b) = r) := Lib.hid (by have h0 := H0.out; have hb := HBS.out; have hr := HRS.out; have hm := HMS.out; rw [← HR.out, ← (div_carry (a := a) (b := b) (by omega) (by omega) HN.out).1, HM.out]; omega)
  have su7 : tw (Int.natAbs (r)) ≤ 100000001 := by have e := HZ7.out; first | omega | (rw [← e]; have := tw_isub (m) (b); omega)
  have lx24 := bx24.cells
  have lx31 := bx31.cells
  have lx32 := bx32.cells
  have BX22 := Lib.hid bx22
  have BX24 := Lib.hid bx24
  have BX25 := Lib.hid bx25
  have BX26 := Lib.hid bx26
  have BX29 := Lib.hid bx29
  have BX30 := Lib.hid bx30
  have BX31 := Lib.hid bx31
  have BX32 := Lib.hid bx32
  clear bx22 bx24 bx25 bx26 bx29 bx30 bx31 bx32
  refine sK fun K hK => ?_
  have HS0 := Lib.hid (HB.out.size)
  have MX24 : w.heap.size + 1 < Wx5.heap.size := BX24.out.lt
  have MX25 : w.heap.size + 1 + 1 < Wx5.heap.size := BX25.out.lt
  have MX26 : w.heap.size + 1 + 1 + 1 < Wx5.heap.size := BX26.out.lt
  have MX31 : gx31 < Wx5.heap.size := BX31.out.lt
  have MX32 : gx32 < Wx5.heap.size := BX32.out.lt
  refine wp_region_plan 6 [] [] (fun _ => 0) (fun _ => .cells #[] 0) [(true, 0), (true, 3), (true, 4), (false, 1), (false, 2), (false, 5)] (by kernel_rfl) (by kernel_rfl) (fun i hi => by cases hi) (fun i hi => by cases hi) (fun _ _ _ _ _ h => h) (fun T hT => ?_)
  iterate 3 (refine wpPlan_takeL (v := ?_) rfl (by rfl) (fun w' hw => ?_) ?_; rotate_left; go_simp; with_reducible rfl; simp only [Act.put, rA, rB, rC])
  refine wpPlan_callE rfl (by rfl) Tryz.call45 (by rfl) (fun w' hw => (zof_any (1) (1) _ HZ5.out (by decide) (by decide)).mono ?_)
  rintro e vv1 ⟨⟨rv5, rfl, bx33⟩, hg0⟩
  obtain ⟨ao5, nn5, cc5, rfl⟩ := Rn.sl bx33
  refine ⟨_, rfl, hg0, ?_⟩
  replace hg0 := Gr.trans hw hg0; clear hw
  have HG0 := Lib.hid hg0; clear hg0
  replace BX22 := rG BX22 HG0
  replace BX24 := bG BX24 HG0
  replace BX25 := bG BX25 HG0
  replace BX26 := bG BX26 HG0
  replace BX29 := rG BX29 HG0
  replace BX30 := rG BX30 HG0
  replace BX31 := bG BX31 HG0
  replace BX32 := bG BX32 HG0
  replace HB := Lib.hid (HB.out.trans (HG0.out.mono HB.out.size))
  have BX33 := Lib.hid bx33; clear bx33
  clear HG0
  clear lx24; have lx24 := BX24.out.cells
  clear lx31; have lx31 := BX31.out.cells
  clear lx32; have lx32 := BX32.out.cells
  simp only [Act.put, rA, rB, rC]
  refine wpPlan_callE rfl (by rfl) Tryz.call19 (by rfl) (fun w' hw => (zadd_any (u3) (1) (q) _ _ _ HZ6.out (by omega) (by omega) (BX29.out.gr hw) (BX33.out.gr hw)).mono ?_)
  rintro e vv2 ⟨⟨rv6, rfl, bx34⟩, hg0⟩
  obtain ⟨ao6, nn6, cc6, rfl⟩ := Rn.sl bx34
  refine ⟨_, rfl, hg0, ?_⟩
  replace hg0 := Gr.trans hw hg0; clear hw
  have HG0 := Lib.hid hg0; clear hg0
  replace BX22 := rG BX22 HG0
  replace BX24 := bG BX24 HG0
  replace BX25 := bG BX25 HG0
  replace BX26 := bG BX26 HG0
  replace BX29 := rG BX29 HG0
  replace BX30 := rG BX30 HG0
  replace BX31 := bG BX31 HG0
  replace BX32 := bG BX32 HG0
  replace BX33 := rG BX33 HG0
  replace HB := Lib.hid (HB.out.trans (HG0.out.mono HB.out.size))
  have BX34 := Lib.hid bx34; clear bx34
  clear HG0
  clear lx24; have lx24 := BX24.out.cells
  clear lx31; have lx31 := BX31.out.cells
  clear lx32; have lx32 := BX32.out.cells
  simp only [Act.put, rA, rB, rC]
  refine wpPlan_callE rfl (by rfl) Tryz.call21 (by rfl) (fun w' hw => (zsub_any (m) (b) (r) _ _ _ HZ7.out (by omega) (by omega) (BX30.out.gr hw) (BX22.out.gr hw)).mono ?_)
  rintro e vv3 ⟨⟨rv7, rfl, bx35⟩, hg0⟩
  obtain ⟨ao7, nn7, cc7, rfl⟩ := Rn.sl bx35
  refine ⟨_, rfl, hg0, ?_⟩
  replace hg0 := Gr.trans hw hg0; clear hw
  have HG0 := Lib.hid hg0; clear hg0
  replace BX22 := rG BX22 HG0
  replace BX24 := bG BX24 HG0
  replace BX25 := bG BX25 HG0
  replace BX26 := bG BX26 HG0
  replace BX29 := rG BX29 HG0
  replace BX30 := rG BX30 HG0
  replace BX31 := bG BX31 HG0
  replace BX32 := bG BX32 HG0
  replace BX33 := rG BX33 HG0
  replace BX34 := rG BX34 HG0
  replace HB := Lib.hid (HB.out.trans (HG0.out.mono HB.out.size))
  have BX35 := Lib.hid bx35; clear bx35
  clear HG0
  clear lx24; have lx24 := BX24.out.cells
  clear lx31; have lx31 := BX31.out.cells
  clear lx32; have lx32 := BX32.out.cells
  simp only [Act.put, rA, rB, rC]
  refine wpPlan_nil (hT.out _ _ ?_); clear hT T
  intro G vw5 hg hf
  simp only [puts, Act.put, rA, rB, rC, rD, rE, ↓reduceIte, Nat.reduceEqDiff]
  clear lx24 lx31 lx32
  have HG := Lib.hid (hg)
  clear hg
  replace BX22 := rG BX22 HG
  replace BX24 := bG BX24 HG
  replace BX25 := bG BX25 HG
  replace BX26 := bG BX26 HG
  replace BX29 := rG BX29 HG
  replace BX30 := rG BX30 HG
  replace BX31 := bG BX31 HG
  replace BX32 := bG BX32 HG
  replace BX33 := rG BX33 HG
  replace BX34 := rG BX34 HG
  replace BX35 := rG BX35 HG
  have lx25 := BX25.out.cells; have fx25 := BX25.out.free
  have lx26 := BX26.out.cells; have fx26 := BX26.out.free
  have r0 := Gr.refl vw5
  go_wp2
  refine hK.out _ _ ?_; clear hK K
  show Code.wp _ _ _ _ _
  clear lx25 fx25
  clear lx26 fx26
  clear r0
  refine forgetW (fun w2 => Bx w2 (w.heap.size + 1 + 1) 38 #[.bool (decide ((q) < 0)), (.slice ao6 nn6 cc6)] ∧ Bx w2 (w.heap.size + 1 + 1 + 1) 38 #[.bool (decide ((r) < 0)), (.slice ao7 nn7 cc7)] ∧ Rn w2 (.slice ao3 nn3 cc3) (Int.natAbs (u3)) ∧ Rn w2 (.slice ao4 nn4 cc4) (Int.natAbs (m)) ∧ Bx w2 gx31 38 #[.bool (decide ((u3) < 0)), (.slice ao3 nn3 cc3)] ∧ Bx w2 gx32 38 #[.bool (decide ((m) < 0)), (.slice ao4 nn4 cc4)] ∧ Rn w2 (.slice ao6 nn6 cc6) (Int.natAbs (q)) ∧ Rn w2 (.slice ao7 nn7 cc7) (Int.natAbs (r)) ∧ Below w.heap.size w w2) ⟨(so2 (((BX25.out).set 0 _).set 1 _) (by show w.heap.size + 1 + 1 ≠ w.heap.size + 1 + 1 + 1; omega)).eq (by simp only [rA, rB, rC]), (((so2 (BX26.out) (by show w.heap.size + 1 + 1 + 1 ≠ w.heap.size + 1 + 1; omega)).set 0 _).set 1 _).eq (by simp only [rA, rB, rC]), ro2 (ro2 (BX29.out) (Rn.ne BX29.out BX25.out (by decide))) (Rn.ne BX29.out BX26.out (by decide)), ro2 (ro2 (BX30.out) (Rn.ne BX30.out BX25.out (by decide))) (Rn.ne BX30.out BX26.out (by decide)), so2 (so2 (BX31.out) (by show gx31 ≠ w.heap.size + 1 + 1; omega)) (by show gx31 ≠ w.heap.size + 1 + 1 + 1; omega), so2 (so2 (BX32.out) (by show gx32 ≠ w.heap.size + 1 + 1; omega)) (by show gx32 ≠ w.heap.size + 1 + 1 + 1; omega), ro2 (ro2 (BX34.out) (Rn.ne BX34.out BX25.out (by decide))) (Rn.ne BX34.out BX26.out (by decide)), ro2 (ro2 (BX35.out) (Rn.ne BX35.out BX25.out (by decide))) (Rn.ne BX35.out BX26.out (by decide)), sc2 (sc2 (HB.out.trans (HG.out.mono HB.out.size)) (by show w.heap.size ≤ w.heap.size + 1 + 1; omega)) (by show w.heap.size ≤ w.heap.size + 1 + 1 + 1; omega)⟩ ?_
  clear HB HG BX22 BX24 BX25 BX26 BX29 BX30 BX31 BX32 BX33 BX34 BX35
  rintro Wx6 ⟨bx25, bx26, bx29, bx30, bx31, bx32, bx34, bx35, HB⟩
  replace HB := Lib.hid HB
  refine wp_ret ?_
  try simp only [Exit.then, Exit.inBlock]
  have lx25 := bx25.cells
  have lx26 := bx26.cells
  have r0 := Gr.refl Wx6
  exact bodyPost_ret (v := .tuple #[(.agg #[.bool (decide ((q) < 0)), (.slice ao6 nn6 cc6)]), (.agg #[.bool (decide ((r) < 0)), (.slice ao7 nn7 cc7)])]) (by simp [results, Tryz.results16, go_sem, lx25 _ r0, lx26 _ r0]) rfl ⟨⟨(.slice ao6 nn6 cc6), (.slice ao7 nn7 cc7), rfl, bx34, bx35⟩, HB.out⟩

theorem zzdiv (a b q r : Int) (va vb : Value) (w : World) (hq : a / b = q) (hr : a % b = r) (h0 : b ≠ 0) (hs_a : tw (Int.natAbs a) ≤ 100000000) (hs_b : tw (Int.natAbs b) ≤ 100000000) (bx21 : Rn w va a.natAbs) (bx22 : Rn w vb b.natAbs) :
    Calls Tryz.prog 16 #[.agg #[.bool (decide (a < 0)), va], .agg #[.bool (decide (b < 0)), vb]] w fun e w' => (∃ r1 r2 : Value, e = .returned (.tuple #[.agg #[.bool (decide (q < 0)), r1], .agg #[.bool (decide (r < 0)), r2]]) ∧ Rn w' r1 q.natAbs ∧ Rn w' r2 r.natAbs) ∧ Below w.heap.size w w' := by
  have hr0 : 0 ≤ r := by rw [← hr]; exact (mod_abs a h0).2
  have ht : ¬ sgI r < 0 := by rw [sgI_neg]; omega
  by_cases h1 : 0 ≤ a
  · rcases Int.lt_or_gt_of_ne h0 with h2 | h2
    · exact zdiv_pn a b q r _ va vb w (Lib.hid hq) (Lib.hid hr) (Lib.hid h2) (Lib.hid h1) (Lib.hid rfl) ht (Lib.hid hr0) hs_a hs_b bx21 bx22
    · exact zdiv_pp a b q r _ va vb w (Lib.hid hq) (Lib.hid hr) (Lib.hid h2) (Lib.hid h1) (Lib.hid rfl) ht (Lib.hid hr0) hs_a hs_b bx21 bx22
  · by_cases hm : a.natAbs % b.natAbs = 0
    · rcases Int.lt_or_gt_of_ne h0 with h2 | h2
      · exact zdiv_zn a b q r _ va vb w (Lib.hid hq) (Lib.hid hr) (Lib.hid h2) (Lib.hid (by omega)) (Lib.hid hm) (Lib.hid rfl) ht (Lib.hid hr0) hs_a hs_b bx21 bx22
      · exact zdiv_zp a b q r _ va vb w (Lib.hid hq) (Lib.hid hr) (Lib.hid h2) (Lib.hid (by omega)) (Lib.hid hm) (Lib.hid rfl) ht (Lib.hid hr0) hs_a hs_b bx21 bx22
    · rcases Int.lt_or_gt_of_ne h0 with h2 | h2
      · exact zdiv_nn a b q r _ va vb w (Lib.hid hq) (Lib.hid hr) (Lib.hid h2) (Lib.hid (by omega)) (Lib.hid rfl) (Lib.hid (by omega)) (Lib.hid hm) (Lib.hid hr0) hs_a hs_b bx21 bx22
      · exact zdiv_np a b q r _ va vb w (Lib.hid hq) (Lib.hid hr) (Lib.hid h2) (Lib.hid (by omega)) (Lib.hid rfl) (Lib.hid (by omega)) (Lib.hid hm) (Lib.hid hr0) hs_a hs_b bx21 bx22

end Go.Proofs.YtflhpdlecpehkaaGreatDoor
