
/- gussetref02.Gcd. -/
import Derived.Test.YtflhpdlecpehkaaGreatDoorSh
import Derived.Test.YtflhpdlecpehkaaGreatDoorZrA
import Derived.Test.YtflhpdlecpehkaaGreatDoorIntDivP
namespace Go.Proofs.YtflhpdlecpehkaaGreatDoor
open Go.RowKit
set_option linter.unusedSimpArgs false
set_option linter.unusedVariables false
attribute [local go_sem ↓] Go.wp_at_zero Go.wp_at_succ
/-- three blocks may have turned, the others not -/
def Kp3 (B : Nat) (W w' : World) : Prop := W.heap.size ≤ w'.heap.size ∧ ∀ b, b < W.heap.size → b ≠ B → b ≠ B + 1 → b ≠ B + 1 + 1 → w'.heap[b]? = W.heap[b]?
theorem Gr.block' {W w' : World} (h : Gr W w') (b : Nat) (hb : b < W.heap.size) : w'.heap[b]? = W.heap[b]? := Below.block h b hb
theorem Kp3.of {B : Nat} {W w' : World} (h : Gr W w') : Kp3 B W w' := ⟨h.size, fun b hb _ _ _ => h.block' b hb⟩
theorem Kp3.setAny {B : Nat} {W w' : World} (h : Kp3 B W w') (a : Addr) (ha : a.block = B ∨ a.block = B + 1 ∨ a.block = B + 1 + 1) (v : Value) : Kp3 B W (w'.setCell a v) :=
  ⟨by simpa using h.1, fun b hb h0 h1 h2 => (Below.heap_setCell w' a v b (by rintro rfl; omega)).trans (h.2 b hb h0 h1 h2)⟩
theorem Kp3.set0 {B : Nat} {W w' : World} (h : Kp3 B W w') (i : Nat) (v : Value) : Kp3 B W (w'.setCell ⟨B, i, none⟩ v) := h.setAny _ (.inl rfl) v
theorem Kp3.set1 {B : Nat} {W w' : World} (h : Kp3 B W w') (i : Nat) (v : Value) : Kp3 B W (w'.setCell ⟨B + 1, i, none⟩ v) := h.setAny _ (.inr (.inl rfl)) v
theorem Kp3.set2 {B : Nat} {W w' : World} (h : Kp3 B W w') (i : Nat) (v : Value) : Kp3 B W (w'.setCell ⟨B + 1 + 1, i, none⟩ v) := h.setAny _ (.inr (.inr rfl)) v
theorem Kp3.held (B : Nat) (W : World) : ∀ w' : World, Kp3 B W w' → ∀ b o, b < W.heap.size → b ≠ B → b ≠ B + 1 → b ≠ B + 1 + 1 → w'.cell? ⟨b, o, none⟩ = W.cell? ⟨b, o, none⟩ := fun w' h b o hb h0 h1 h2 => by
  unfold World.cell?; rw [h.2 b hb h0 h1 h2]

set_option maxRecDepth 20000 in
set_option maxHeartbeats 4000000 in
theorem zg_zero (a s : Int) (va vb : Value) (w : World) (g : Int) (HG_ : Hid (((a.natAbs : Nat) : Int) = g)) (HS_ : Hid (sgI a = s)) (hs1 : -1 ≤ s) (hs2 : s ≤ 1) (hs_a : tw (Int.natAbs a) ≤ 20000000) (bx21 : Rn w va (Int.natAbs (a))) (bx22 : Rn w vb (Int.natAbs (0))) :
    Calls Tryz.prog 11 #[(Value.agg #[.bool (decide ((a) < 0)), va]), (Value.agg #[.bool (decide ((0) < 0)), vb])] w fun e w' => (∃ r1 r2 r3 : Value, e = .returned (.tuple #[(.agg #[.bool (decide ((g) < 0)), r1]), (.agg #[.bool (decide ((s) < 0)), r2]), (.agg #[.bool (decide ((0) < 0)), r3])]) ∧ Rn w' r1 (Int.natAbs (g)) ∧ Rn w' r2 (Int.natAbs (s)) ∧ Rn w' r3 (Int.natAbs (0))) ∧ Below w.heap.size w w' := by
  obtain ⟨ao_va, n_va, c_va, rfl⟩ := Rn.sl bx21
  obtain ⟨ao_vb, n_vb, c_vb, rfl⟩ := Rn.sl bx22
  go_enter Tryz.func11, Tryz.ntmps11
  refine sK fun K hK => ?_
  refine wp_region_lit ?_
  go_wp2
  refine hK.out _ _ ?_; clear hK K
  show Code.wp _ _ _ _ _
  refine forgetW (fun w2 => Rn w2 (.slice ao_va n_va c_va) (Int.natAbs (a)) ∧ Rn w2 (.slice ao_vb n_vb c_vb) (Int.natAbs (0)) ∧ Bx w2 (w.heap.size) 38 #[.bool (decide ((a) < 0)), (.slice ao_va n_va c_va)] ∧ Bx w2 (w.heap.size + 1) 38 #[.bool (decide ((0) < 0)), (.slice ao_vb n_vb c_vb)] ∧ Bx w2 (w.heap.size + 1 + 1) 38 #[.bool false, .slice none 0 0] ∧ Bx w2 (w.heap.size + 1 + 1 + 1) 38 #[.bool false, .slice none 0 0] ∧ Bx w2 (w.heap.size + 1 + 1 + 1 + 1) 38 #[.bool false, .slice none 0 0] ∧ Below w.heap.size w w2) ⟨(((((bx21).alloc _).alloc _).alloc _).alloc _).alloc _, (((((bx22).alloc _).alloc _).alloc _).alloc _).alloc _, ((((Bx.at rfl).alloc _).alloc _).alloc _).alloc _, (((Bx.at (by simp)).alloc _).alloc _).alloc _, ((Bx.at (by simp)).alloc _).alloc _, (Bx.at (by simp)).alloc _, Bx.at (by simp), (((((Below.refl _ _).alloc (Nat.le_refl _) _).alloc (by simp) _).alloc (by simp; omega) _).alloc (by simp; omega) _).alloc (by simp; omega) _⟩ ?_
  clear bx21 bx22
  rintro Wx ⟨bx21, bx22, bx23, bx24, bx25, bx26, bx27, HB⟩
  replace HB := Lib.hid HB
  refine wp_seq ?_
  have lx24 := bx24.cells
  have BX21 := Lib.hid bx21
  have BX22 := Lib.hid bx22
  have BX23 := Lib.hid bx23
  have BX24 := Lib.hid bx24
  have BX25 := Lib.hid bx25
  have BX26 := Lib.hid bx26
  have BX27 := Lib.hid bx27
  clear bx21 bx22 bx23 bx24 bx25 bx26 bx27
  refine sK fun K hK => ?_
  refine wp_region_seqplan 3 [(true, 0), (true, 1), (true, 2)] (by rfl) (by simp) (fun T hT => ?_)
  refine wpPlan_takeL (v := ?_) rfl (by rfl) (fun w' hw => ?_) ?_; rotate_left; go_simp; with_reducible rfl; simp only [Act.put, rA, rB, rC]
  refine wpPlan_callL rfl (by rfl) Tryz.call14 (fun w' hw => zrsign (0) (0) _ _ (by have e9 : (0) = (0 : Int) := (by first | rfl | omega | (simp; done) | grind); exact sgI_eq e9) (BX22.out.gr hw)) (by rfl) ?_
  simp only [Act.put, rA, rB, rC]
  refine wpPlan_takeL (v := ?_) rfl (by rfl) (fun w' hw => ?_) ?_; rotate_left; go_simp; with_reducible rfl; simp only [Act.put, rA, rB, rC]
  refine wpPlan_nil (hT.out _ _ ?_); clear hT T
  intro vw1 hg
  simp only [puts, Act.put, rA, rB, rC, rD, rE, ↓reduceIte, Nat.reduceEqDiff]
  clear lx24
  have HG := Lib.hid (hg)
  clear hg
  replace BX21 := rG BX21 HG
  replace BX22 := rG BX22 HG
  replace BX23 := bG BX23 HG
  replace BX24 := bG BX24 HG
  replace BX25 := bG BX25 HG
  replace BX26 := bG BX26 HG
  replace BX27 := bG BX27 HG
  have r0 := Gr.refl vw1
  go_wp2
  refine hK.out _ _ ?_; clear hK K
  show Code.wp _ _ _ _ _
  clear r0
  refine forgetW (fun w2 => Rn w2 (.slice ao_va n_va c_va) (Int.natAbs (a)) ∧ Rn w2 (.slice ao_vb n_vb c_vb) (Int.natAbs (0)) ∧ Bx w2 (w.heap.size) 38 #[.bool (decide ((a) < 0)), (.slice ao_va n_va c_va)] ∧ Bx w2 (w.heap.size + 1) 38 #[.bool (decide ((0) < 0)), (.slice ao_vb n_vb c_vb)] ∧ Bx w2 (w.heap.size + 1 + 1) 38 #[.bool false, .slice none 0 0] ∧ Bx w2 (w.heap.size + 1 + 1 + 1) 38 #[.bool false, .slice none 0 0] ∧ Bx w2 (w.heap.size + 1 + 1 + 1 + 1) 38 #[.bool false, .slice none 0 0] ∧ Below w.heap.size w w2) ⟨BX21.out, BX22.out, BX23.out, BX24.out, BX25.out, BX26.out, BX27.out, HB.out.trans (HG.out.mono HB.out.size)⟩ ?_
  clear HB HG BX21 BX22 BX23 BX24 BX25 BX26 BX27
  rintro Wx1 ⟨bx21, bx22, bx23, bx24, bx25, bx26, bx27, HB⟩
  replace HB := Lib.hid HB
  refine wp_cond_true (by rfl) ?_
  have HZ1 : Hid ((if false then -((Int.natAbs (a) : Nat) : Int) else ((Int.natAbs (a) : Nat) : Int)) = g) := Lib.hid (by rw [← HG_.out]; rfl)
  have su1 : tw (Int.natAbs (g)) ≤ 20000000 := by have e := HZ1.out; first | omega | (rw [← e]; split <;> simp <;> omega)
  have HZ2 : Hid (s = s) := Lib.hid (rfl)
  have su2 : tw (Int.natAbs (s)) ≤ 5 := by exact tw_i64 (by omega) (by omega)
  have HZ3 : Hid ((0 : Int) = 0) := Lib.hid (by decide +kernel)
  have su3 : tw (Int.natAbs (0)) ≤ 1 := tw_le.2 (by decide +kernel)
  have lx23 := bx23.cells
  have BX21 := Lib.hid bx21
  have BX22 := Lib.hid bx22
  have BX23 := Lib.hid bx23
  have BX24 := Lib.hid bx24
  have BX25 := Lib.hid bx25
  have BX26 := Lib.hid bx26
  have BX27 := Lib.hid bx27
  clear bx21 bx22 bx23 bx24 bx25 bx26 bx27
  refine sK fun K hK => ?_
  have HS0 := Lib.hid (HB.out.size)
  have MX23 : w.heap.size < Wx1.heap.size := BX23.out.lt
  have MX24 : w.heap.size + 1 < Wx1.heap.size := BX24.out.lt
  have MX25 : w.heap.size + 1 + 1 < Wx1.heap.size := BX25.out.lt
  have MX26 : w.heap.size + 1 + 1 + 1 < Wx1.heap.size := BX26.out.lt
  have MX27 : w.heap.size + 1 + 1 + 1 + 1 < Wx1.heap.size := BX27.out.lt
  refine wp_region_plan 7 [] [] (fun _ => 0) (fun _ => .cells #[] 0) [(true, 0), (true, 1), (true, 3), (false, 2), (true, 4), (false, 5), (false, 6)] (by kernel_rfl) (by kernel_rfl) (fun i hi => by cases hi) (fun i hi => by cases hi) (fun _ _ _ _ _ h => h) (fun T hT => ?_)
  iterate 3 (refine wpPlan_takeL (v := ?_) rfl (by rfl) (fun w' hw => ?_) ?_; rotate_left; go_simp; with_reducible rfl; simp only [Act.put, rA, rB, rC])
  refine wpPlan_callE rfl (by rfl) Tryz.call42 (by rfl) (fun w' hw => (zfrom_any false (Int.natAbs (a)) (g) _ _ HZ1.out (BX21.out.gr hw)).mono ?_)
  rintro e vv1 ⟨⟨rv1, rfl, bx28⟩, hg0⟩
  obtain ⟨ao1, nn1, cc1, rfl⟩ := Rn.sl bx28
  refine ⟨_, rfl, hg0, ?_⟩
  replace hg0 := Gr.trans hw hg0; clear hw
  have HG0 := Lib.hid hg0; clear hg0
  replace BX21 := rG BX21 HG0
  replace BX22 := rG BX22 HG0
  replace BX23 := bG BX23 HG0
  replace BX24 := bG BX24 HG0
  replace BX25 := bG BX25 HG0
  replace BX26 := bG BX26 HG0
  replace BX27 := bG BX27 HG0
  replace HB := Lib.hid (HB.out.trans (HG0.out.mono HB.out.size))
  have BX28 := Lib.hid bx28; clear bx28
  clear HG0
  clear lx23; have lx23 := BX23.out.cells
  simp only [Act.put, rA, rB, rC]
  refine wpPlan_callL rfl (by rfl) Tryz.call14 (fun w' hw => zrsign (a) (s) _ _ (HS_.out) (BX21.out.gr hw)) (by rfl) ?_
  simp only [Act.put, rA, rB, rC]
  refine wpPlan_callE rfl (by rfl) Tryz.call45 (by rfl) (fun w' hw => (zof_any (s) (s) _ HZ2.out (by omega) (by omega)).mono ?_)
  rintro e vv2 ⟨⟨rv2, rfl, bx29⟩, hg0⟩
  obtain ⟨ao2, nn2, cc2, rfl⟩ := Rn.sl bx29
  refine ⟨_, rfl, hg0, ?_⟩
  replace hg0 := Gr.trans hw hg0; clear hw
  have HG0 := Lib.hid hg0; clear hg0
  replace BX21 := rG BX21 HG0
  replace BX22 := rG BX22 HG0
  replace BX23 := bG BX23 HG0
  replace BX24 := bG BX24 HG0
  replace BX25 := bG BX25 HG0
  replace BX26 := bG BX26 HG0
  replace BX27 := bG BX27 HG0
  replace BX28 := rG BX28 HG0
  replace HB := Lib.hid (HB.out.trans (HG0.out.mono HB.out.size))
  have BX29 := Lib.hid bx29; clear bx29
  clear HG0
  clear lx23; have lx23 := BX23.out.cells
  simp only [Act.put, rA, rB, rC]
  refine wpPlan_callE rfl (by rfl) Tryz.call45 (by rfl) (fun w' hw => (zof_any (0) (0) _ HZ3.out (by decide) (by decide)).mono ?_)
  rintro e vv3 ⟨⟨rv3, rfl, bx30⟩, hg0⟩
  obtain ⟨ao3, nn3, cc3, rfl⟩ := Rn.sl bx30
  refine ⟨_, rfl, hg0, ?_⟩
  replace hg0 := Gr.trans hw hg0; clear hw
  have HG0 := Lib.hid hg0; clear hg0
  replace BX21 := rG BX21 HG0
  replace BX22 := rG BX22 HG0
  replace BX23 := bG BX23 HG0
  replace BX24 := bG BX24 HG0
  replace BX25 := bG BX25 HG0
  replace BX26 := bG BX26 HG0
  replace BX27 := bG BX27 HG0
  replace BX28 := rG BX28 HG0
  replace BX29 := rG BX29 HG0
  replace HB := Lib.hid (HB.out.trans (HG0.out.mono HB.out.size))
  have BX30 := Lib.hid bx30; clear bx30
  clear HG0
  clear lx23; have lx23 := BX23.out.cells
  simp only [Act.put, rA, rB, rC]
  refine wpPlan_nil (hT.out _ _ ?_); clear hT T
  intro G vw2 hg hf
  simp only [puts, Act.put, rA, rB, rC, rD, rE, ↓reduceIte, Nat.reduceEqDiff]
  clear lx23
  have HG := Lib.hid (hg)
  clear hg
  replace BX21 := rG BX21 HG
  replace BX22 := rG BX22 HG
  replace BX23 := bG BX23 HG
  replace BX24 := bG BX24 HG
  replace BX25 := bG BX25 HG
  replace BX26 := bG BX26 HG
  replace BX27 := bG BX27 HG
  replace BX28 := rG BX28 HG
  replace BX29 := rG BX29 HG
  replace BX30 := rG BX30 HG
  have lx25 := BX25.out.cells; have fx25 := BX25.out.free
  have lx26 := BX26.out.cells; have fx26 := BX26.out.free
  have lx27 := BX27.out.cells; have fx27 := BX27.out.free
  have r0 := Gr.refl vw2
  go_wp2
  refine hK.out _ _ ?_; clear hK K
  show Code.wp _ _ _ _ _
  clear lx25 fx25
  clear lx26 fx26
  clear lx27 fx27
  clear r0
  refine forgetW (fun w2 => Rn w2 (.slice ao_va n_va c_va) (Int.natAbs (a)) ∧ Rn w2 (.slice ao_vb n_vb c_vb) (Int.natAbs (0)) ∧ Bx w2 (w.heap.size) 38 #[.bool (decide ((a) < 0)), (.slice ao_va n_va c_va)] ∧ Bx w2 (w.heap.size + 1) 38 #[.bool (decide ((0) < 0)), (.slice ao_vb n_vb c_vb)] ∧ Bx w2 (w.heap.size + 1 + 1) 38 #[.bool (decide ((g) < 0)), (.slice ao1 nn1 cc1)] ∧ Bx w2 (w.heap.size + 1 + 1 + 1) 38 #[.bool (decide ((s) < 0)), (.slice ao2 nn2 cc2)] ∧ Bx w2 (w.heap.size + 1 + 1 + 1 + 1) 38 #[.bool (decide ((0) < 0)), (.slice ao3 nn3 cc3)] ∧ Rn w2 (.slice ao1 nn1 cc1) (Int.natAbs (g)) ∧ Rn w2 (.slice ao2 nn2 cc2) (Int.natAbs (s)) ∧ Rn w2 (.slice ao3 nn3 cc3) (Int.natAbs (0)) ∧ Below w.heap.size w w2) ⟨ro2 (ro2 (ro2 (BX21.out) (Rn.ne BX21.out BX25.out (by decide))) (Rn.ne BX21.out BX26.out (by decide))) (Rn.ne BX21.out BX27.out (by decide)), ro2 (ro2 (ro2 (BX22.out) (Rn.ne BX22.out BX25.out (by decide))) (Rn.ne BX22.out BX26.out (by decide))) (Rn.ne BX22.out BX27.out (by decide)), so2 (so2 (so2 (BX23.out) (by show w.heap.size ≠ w.heap.size + 1 + 1; omega)) (by show w.heap.size ≠ w.heap.size + 1 + 1 + 1; omega)) (by show w.heap.size ≠ w.heap.size + 1 + 1 + 1 + 1; omega), so2 (so2 (so2 (BX24.out) (by show w.heap.size + 1 ≠ w.heap.size + 1 + 1; omega)) (by show w.heap.size + 1 ≠ w.heap.size + 1 + 1 + 1; omega)) (by show w.heap.size + 1 ≠ w.heap.size + 1 + 1 + 1 + 1; omega), (so2 (so2 (((BX25.out).set 0 _).set 1 _) (by show w.heap.size + 1 + 1 ≠ w.heap.size + 1 + 1 + 1; omega)) (by show w.heap.size + 1 + 1 ≠ w.heap.size + 1 + 1 + 1 + 1; omega)).eq (by simp only [rA, rB, rC]), (so2 (((so2 (BX26.out) (by show w.heap.size + 1 + 1 + 1 ≠ w.heap.size + 1 + 1; omega)).set 0 _).set 1 _) (by show w.heap.size + 1 + 1 + 1 ≠ w.heap.size + 1 + 1 + 1 + 1; omega)).eq (by simp only [rA, rB, rC]), (((so2 (so2 (BX27.out) (by show w.heap.size + 1 + 1 + 1 + 1 ≠ w.heap.size + 1 + 1; omega)) (by show w.heap.size + 1 + 1 + 1 + 1 ≠ w.heap.size + 1 + 1 + 1; omega)).set 0 _).set 1 _).eq (by first | (simp only [List.setIfInBounds_toArray, List.set_cons_zero, List.set_cons_succ]; done) | simp), ro2 (ro2 (ro2 (BX28.out) (Rn.ne BX28.out BX25.out (by decide))) (Rn.ne BX28.out BX26.out (by decide))) (Rn.ne BX28.out BX27.out (by decide)), ro2 (ro2 (ro2 (BX29.out) (Rn.ne BX29.out BX25.out (by decide))) (Rn.ne BX29.out BX26.out (by decide))) (Rn.ne BX29.out BX27.out (by decide)), ro2 (ro2 (ro2 (BX30.out) (Rn.ne BX30.out BX25.out (by decide))) (Rn.ne BX30.out BX26.out (by decide))) (Rn.ne BX30.out BX27.out (by decide)), sc2 (sc2 (sc2 (HB.out.trans (HG.out.mono HB.out.size)) (by show w.heap.size ≤ w.heap.size + 1 + 1; omega)) (by show w.heap.size ≤ w.heap.size + 1 + 1 + 1; omega)) (by show w.heap.size ≤ w.heap.size + 1 + 1 + 1 + 1; omega)⟩ ?_
  clear HB HG BX21 BX22 BX23 BX24 BX25 BX26 BX27 BX28 BX29 BX30
  rintro Wx2 ⟨bx21, bx22, bx23, bx24, bx25, bx26, bx27, bx28, bx29, bx30, HB⟩
  replace HB := Lib.hid HB
  refine wp_ret ?_
  try simp only [Exit.then, Exit.inBlock]
  have lx25 := bx25.cells
  have lx26 := bx26.cells
  have lx27 := bx27.cells
  have r0 := Gr.refl Wx2
  exact bodyPost_ret (v := .tuple #[(.agg #[.bool (decide ((g) < 0)), (.slice ao1 nn1 cc1)]), (.agg #[.bool (decide ((s) < 0)), (.slice ao2 nn2 cc2)]), (.agg #[.bool (decide ((0) < 0)), (.slice ao3 nn3 cc3)])]) (by simp [results, Tryz.results11, go_sem, lx25 _ r0, lx26 _ r0, lx27 _ r0]) rfl ⟨⟨(.slice ao1 nn1 cc1), (.slice ao2 nn2 cc2), (.slice ao3 nn3 cc3), rfl, bx28, bx29, bx30⟩, HB.out⟩

set_option maxRecDepth 20000 in
set_option maxHeartbeats 4000000 in
theorem zg_step (a b q r g2 x2 y2 z t : Int) (va vb : Value) (w : World) (HQ : Hid (a / b = q)) (HR : Hid (a % b = r)) (HT_ : Hid (sgI b = t)) (ht : ¬ t = 0) (hb : b ≠ 0) (HZ : Hid (x2 - q * y2 = z)) (sg2 : tw (Int.natAbs g2) ≤ 20000004) (sx2 : tw (Int.natAbs x2) ≤ 20000004) (sy2 : tw (Int.natAbs y2) ≤ 20000004) (sr : tw (Int.natAbs r) ≤ 20000000) (sq : tw (Int.natAbs q) ≤ 20000001)
    (IH : Hid (∀ (vb vr : Value) (w : World), Rn w vb b.natAbs → Rn w vr r.natAbs → Calls Tryz.prog 11 #[.agg #[.bool (decide (b < 0)), vb], .agg #[.bool (decide (r < 0)), vr]] w fun e w' => (∃ r1 r2 r3 : Value, e = .returned (.tuple #[.agg #[.bool (decide (g2 < 0)), r1], .agg #[.bool (decide (x2 < 0)), r2], .agg #[.bool (decide (y2 < 0)), r3]]) ∧ Rn w' r1 g2.natAbs ∧ Rn w' r2 x2.natAbs ∧ Rn w' r3 y2.natAbs) ∧ Below w.heap.size w w')) (hs_a : tw (Int.natAbs a) ≤ 20000000) (hs_b : tw (Int.natAbs b) ≤ 20000000) (bx21 : Rn w va (Int.natAbs (a))) (bx22 : Rn w vb (Int.natAbs (b))) :
    Calls Tryz.prog 11 #[(Value.agg #[.bool (decide ((a) < 0)), va]), (Value.agg #[.bool (decide ((b) < 0)), vb])] w fun e w' => (∃ r1 r2 r3 : Value, e = .returned (.tuple #[(.agg #[.bool (decide ((g2) < 0)), r1]), (.agg #[.bool (decide ((y2) < 0)), r2]), (.agg #[.bool (decide ((z) < 0)), r3])]) ∧ Rn w' r1 (Int.natAbs (g2)) ∧ Rn w' r2 (Int.natAbs (y2)) ∧ Rn w' r3 (Int.natAbs (z))) ∧ Below w.heap.size w w' := by
  obtain ⟨ao_va, n_va, c_va, rfl⟩ := Rn.sl bx21
  obtain ⟨ao_vb, n_vb, c_vb, rfl⟩ := Rn.sl bx22
  go_enter Tryz.func11, Tryz.ntmps11
  refine sK fun K hK => ?_
  refine wp_region_lit ?_
  go_wp2
  refine hK.out _ _ ?_; clear hK K
  show Code.wp _ _ _ _ _
  refine forgetW (fun w2 => Rn w2 (.slice ao_va n_va c_va) (Int.natAbs (a)) ∧ Rn w2 (.slice ao_vb n_vb c_vb) (Int.natAbs (b)) ∧ Bx w2 (w.heap.size) 38 #[.bool (decide ((a) < 0)), (.slice ao_va n_va c_va)] ∧ Bx w2 (w.heap.size + 1) 38 #[.bool (decide ((b) < 0)), (.slice ao_vb n_vb c_vb)] ∧ Bx w2 (w.heap.size + 1 + 1) 38 #[.bool false, .slice none 0 0] ∧ Bx w2 (w.heap.size + 1 + 1 + 1) 38 #[.bool false, .slice none 0 0] ∧ Bx w2 (w.heap.size + 1 + 1 + 1 + 1) 38 #[.bool false, .slice none 0 0] ∧ Below w.heap.size w w2) ⟨(((((bx21).alloc _).alloc _).alloc _).alloc _).alloc _, (((((bx22).alloc _).alloc _).alloc _).alloc _).alloc _, ((((Bx.at rfl).alloc _).alloc _).alloc _).alloc _, (((Bx.at (by simp)).alloc _).alloc _).alloc _, ((Bx.at (by simp)).alloc _).alloc _, (Bx.at (by simp)).alloc _, Bx.at (by simp), (((((Below.refl _ _).alloc (Nat.le_refl _) _).alloc (by simp) _).alloc (by simp; omega) _).alloc (by simp; omega) _).alloc (by simp; omega) _⟩ ?_
  clear bx21 bx22
  rintro Wx ⟨bx21, bx22, bx23, bx24, bx25, bx26, bx27, HB⟩
  replace HB := Lib.hid HB
  refine wp_seq ?_
  have hd1 : ((t) == (0)) = false := by have : ¬ (t = 0) := (by first | rfl | omega | (simp; done) | grind); simpa using this
  have lx24 := bx24.cells
  have BX21 := Lib.hid bx21
  have BX22 := Lib.hid bx22
  have BX23 := Lib.hid bx23
  have BX24 := Lib.hid bx24
  have BX25 := Lib.hid bx25
  have BX26 := Lib.hid bx26
  have BX27 := Lib.hid bx27
  clear bx21 bx22 bx23 bx24 bx25 bx26 bx27
  refine sK fun K hK => ?_
  refine wp_region_seqplan 3 [(true, 0), (true, 1), (true, 2)] (by rfl) (by simp) (fun T hT => ?_)
  refine wpPlan_takeL (v := ?_) rfl (by rfl) (fun w' hw => ?_) ?_; rotate_left; go_simp; with_reducible rfl; simp only [Act.put, rA, rB, rC]
  refine wpPlan_callL rfl (by rfl) Tryz.call14 (fun w' hw => zrsign (b) (t) _ _ (HT_.out) (BX22.out.gr hw)) (by rfl) ?_
  simp only [Act.put, rA, rB, rC]
  refine wpPlan_takeL (v := ?_) rfl (by rfl) (fun w' hw => ?_) ?_; rotate_left; go_simp; with_reducible rfl; simp only [Act.put, rA, rB, rC]
  refine wpPlan_nil (hT.out _ _ ?_); clear hT T
  intro vw1 hg
  simp only [puts, Act.put, rA, rB, rC, rD, rE, ↓reduceIte, Nat.reduceEqDiff]
  clear lx24
  have HG := Lib.hid (hg)
  clear hg
  replace BX21 := rG BX21 HG
  replace BX22 := rG BX22 HG
  replace BX23 := bG BX23 HG
  replace BX24 := bG BX24 HG
  replace BX25 := bG BX25 HG
  replace BX26 := bG BX26 HG
  replace BX27 := bG BX27 HG
  have r0 := Gr.refl vw1
  go_wp2
  refine hK.out _ _ ?_; clear hK K
  show Code.wp _ _ _ _ _
  clear r0
  refine forgetW (fun w2 => Rn w2 (.slice ao_va n_va c_va) (Int.natAbs (a)) ∧ Rn w2 (.slice ao_vb n_vb c_vb) (Int.natAbs (b)) ∧ Bx w2 (w.heap.size) 38 #[.bool (decide ((a) < 0)), (.slice ao_va n_va c_va)] ∧ Bx w2 (w.heap.size + 1) 38 #[.bool (decide ((b) < 0)), (.slice ao_vb n_vb c_vb)] ∧ Bx w2 (w.heap.size + 1 + 1) 38 #[.bool false, .slice none 0 0] ∧ Bx w2 (w.heap.size + 1 + 1 + 1) 38 #[.bool false, .slice none 0 0] ∧ Bx w2 (w.heap.size + 1 + 1 + 1 + 1) 38 #[.bool false, .slice none 0 0] ∧ Below w.heap.size w w2) ⟨BX21.out, BX22.out, BX23.out, BX24.out, BX25.out, BX26.out, BX27.out, HB.out.trans (HG.out.mono HB.out.size)⟩ ?_
  clear HB HG BX21 BX22 BX23 BX24 BX25 BX26 BX27
  rintro Wx1 ⟨bx21, bx22, bx23, bx24, bx25, bx26, bx27, HB⟩
  replace HB := Lib.hid HB
  clear hd1
  refine wp_cond_false (by rfl) ?_
  refine wp_skip ?_
  show Code.wp _ _ _ _ _
  have HZ1 : Hid ((a) / (b) = q) := Lib.hid (HQ.out)
  have su1 : tw (Int.natAbs (q)) ≤ 20000001 := by have e := HZ1.out; first | omega | (rw [← e]; have := tw_idiv (a) (b); omega)
  have HZ2 : Hid ((a) % (b) = r) := Lib.hid (HR.out)
  have su2 : tw (Int.natAbs (r)) ≤ 20000000 := by have e := HZ2.out; first | omega | (rw [← e]; have := tw_imod (a) (b) (by first | rfl | omega | (simp; done) | grind); omega)
  have lx23 := bx23.cells
  have lx24 := bx24.cells
  have BX21 := Lib.hid bx21
  have BX22 := Lib.hid bx22
  have BX23 := Lib.hid bx23
  have BX24 := Lib.hid bx24
  have BX25 := Lib.hid bx25
  have BX26 := Lib.hid bx26
  have BX27 := Lib.hid bx27
  clear bx21 bx22 bx23 bx24 bx25 bx26 bx27
  refine sK fun K hK => ?_
  have HS0 := Lib.hid (HB.out.size)
  have MX23 : w.heap.size < Wx1.heap.size := BX23.out.lt
  have MX24 : w.heap.size + 1 < Wx1.heap.size := BX24.out.lt
  have MX25 : w.heap.size + 1 + 1 < Wx1.heap.size := BX25.out.lt
  have MX26 : w.heap.size + 1 + 1 + 1 < Wx1.heap.size := BX26.out.lt
  have MX27 : w.heap.size + 1 + 1 + 1 + 1 < Wx1.heap.size := BX27.out.lt
  refine wp_region_seqplan 6 [(true, 0), (true, 1), (false, 2), (true, 3), (true, 4), (true, 5)] (by rfl) (by simp) (fun T hT => ?_)
  iterate 2 (refine wpPlan_takeL (v := ?_) rfl (by rfl) (fun w' hw => ?_) ?_; rotate_left; go_simp; with_reducible rfl; simp only [Act.put, rA, rB, rC])
  refine wpPlan_callE rfl (by rfl) Tryz.call16 (by rfl) (fun w' hw => (zzdiv (a) (b) (q) (r) _ _ _ HZ1.out HZ2.out (by first | rfl | omega | (simp; done) | grind) (by omega) (by omega) (BX21.out.gr hw) (BX22.out.gr hw)).mono ?_)
  rintro e vv1 ⟨⟨rv1, rv2, rfl, bx28, bx29⟩, hg0⟩
  obtain ⟨ao1, nn1, cc1, rfl⟩ := Rn.sl bx28
  obtain ⟨ao2, nn2, cc2, rfl⟩ := Rn.sl bx29
  refine ⟨_, rfl, hg0, ?_⟩
  replace hg0 := Gr.trans hw hg0; clear hw
  have HG0 := Lib.hid hg0; clear hg0
  replace BX21 := rG BX21 HG0
  replace BX22 := rG BX22 HG0
  replace BX23 := bG BX23 HG0
  replace BX24 := bG BX24 HG0
  replace BX25 := bG BX25 HG0
  replace BX26 := bG BX26 HG0
  replace BX27 := bG BX27 HG0
  replace HB := Lib.hid (HB.out.trans (HG0.out.mono HB.out.size))
  have BX28 := Lib.hid bx28; clear bx28
  have BX29 := Lib.hid bx29; clear bx29
  clear HG0
  clear lx23; have lx23 := BX23.out.cells
  clear lx24; have lx24 := BX24.out.cells
  simp only [Act.put, rA, rB, rC]
  iterate 3 (refine wpPlan_takeL (v := ?_) rfl (by rfl) (fun w' hw => ?_) ?_; rotate_left; go_simp; with_reducible rfl; simp only [Act.put, rA, rB, rC])
  refine wpPlan_nil (hT.out _ _ ?_); clear hT T
  intro vw2 hg
  simp only [puts, Act.put, rA, rB, rC, rD, rE, ↓reduceIte, Nat.reduceEqDiff]
  clear lx23 lx24
  have HG := Lib.hid (hg)
  clear hg
  replace BX21 := rG BX21 HG
  replace BX22 := rG BX22 HG
  replace BX23 := bG BX23 HG
  replace BX24 := bG BX24 HG
  replace BX25 := bG BX25 HG
  replace BX26 := bG BX26 HG
  replace BX27 := bG BX27 HG
  replace BX28 := rG BX28 HG
  replace BX29 := rG BX29 HG
  have r0 := Gr.refl vw2
  go_wp2
  refine hK.out _ _ ?_; clear hK K
  show Code.wp _ _ _ _ _
  clear r0
  have hsz : w.heap.size ≤ vw2.heap.size := Nat.le_trans HB.out.size HG.out.size
  have mx23 : w.heap.size < vw2.heap.size := BX23.out.lt
  have mx24 : w.heap.size + 1 < vw2.heap.size := BX24.out.lt
  have mx25 : w.heap.size + 1 + 1 < vw2.heap.size := BX25.out.lt
  have mx26 : w.heap.size + 1 + 1 + 1 < vw2.heap.size := BX26.out.lt
  have mx27 : w.heap.size + 1 + 1 + 1 + 1 < vw2.heap.size := BX27.out.lt
  refine forgetW (fun w2 => Rn w2 (.slice ao_vb n_vb c_vb) (Int.natAbs (b)) ∧ Bx w2 (w.heap.size + 1) 38 #[.bool (decide ((b) < 0)), (.slice ao_vb n_vb c_vb)] ∧ Bx w2 (w.heap.size + 1 + 1) 38 #[.bool false, .slice none 0 0] ∧ Bx w2 (w.heap.size + 1 + 1 + 1) 38 #[.bool false, .slice none 0 0] ∧ Bx w2 (w.heap.size + 1 + 1 + 1 + 1) 38 #[.bool false, .slice none 0 0] ∧ Rn w2 (.slice ao1 nn1 cc1) (Int.natAbs (q)) ∧ Rn w2 (.slice ao2 nn2 cc2) (Int.natAbs (r)) ∧ Bx w2 (vw2.heap.size) 38 #[.bool (decide ((q) < 0)), (.slice ao1 nn1 cc1)] ∧ Bx w2 (vw2.heap.size + 1) 38 #[.bool (decide ((r) < 0)), (.slice ao2 nn2 cc2)] ∧ Below w.heap.size w w2) ⟨((BX22.out).alloc _).alloc _, ((BX24.out).alloc _).alloc _, ((BX25.out).alloc _).alloc _, ((BX26.out).alloc _).alloc _, ((BX27.out).alloc _).alloc _, ((BX28.out).alloc _).alloc _, ((BX29.out).alloc _).alloc _, ((Bx.at (by simp) : Bx _ (vw2.heap.size) _ _)).alloc _, (Bx.at (by simp) : Bx _ (vw2.heap.size + 1) _ _), ((HB.out.trans (HG.out.mono HB.out.size)).alloc (by first | omega | (simp; omega)) _).alloc (by first | omega | (simp; omega)) _⟩ ?_
  clear HB HG BX21 BX22 BX23 BX24 BX25 BX26 BX27 BX28 BX29
  rintro Wx3 ⟨bx22, bx24, bx25, bx26, bx27, bx28, bx29, bx30, bx31, HB⟩
  replace HB := Lib.hid HB
  have qx30_31 : vw2.heap.size < vw2.heap.size + 1 := by omega
  have yx31 : w.heap.size ≤ vw2.heap.size + 1 := by omega
  have qx23_31 : w.heap.size < vw2.heap.size + 1 := by omega
  have qx24_31 : w.heap.size + 1 < vw2.heap.size + 1 := by omega
  have qx25_31 : w.heap.size + 1 + 1 < vw2.heap.size + 1 := by omega
  have qx26_31 : w.heap.size + 1 + 1 + 1 < vw2.heap.size + 1 := by omega
  have qx27_31 : w.heap.size + 1 + 1 + 1 + 1 < vw2.heap.size + 1 := by omega
  generalize hx31 : vw2.heap.size + 1 = gx31 at *
  clear hx31
  have yx30 : w.heap.size ≤ vw2.heap.size := by omega
  have qx23_30 : w.heap.size < vw2.heap.size := by omega
  have qx24_30 : w.heap.size + 1 < vw2.heap.size := by omega
  have qx25_30 : w.heap.size + 1 + 1 < vw2.heap.size := by omega
  have qx26_30 : w.heap.size + 1 + 1 + 1 < vw2.heap.size := by omega
  have qx27_30 : w.heap.size + 1 + 1 + 1 + 1 < vw2.heap.size := by omega
  generalize hx30 : vw2.heap.size = gx30 at *
  clear hx30
  clear hsz mx23 mx24 mx25 mx26 mx27
  have lx24 := bx24.cells
  have lx31 := bx31.cells
  have BX22 := Lib.hid bx22
  have BX24 := Lib.hid bx24
  have BX25 := Lib.hid bx25
  have BX26 := Lib.hid bx26
  have BX27 := Lib.hid bx27
  have BX28 := Lib.hid bx28
  have BX29 := Lib.hid bx29
  have BX30 := Lib.hid bx30
  have BX31 := Lib.hid bx31
  clear bx22 bx24 bx25 bx26 bx27 bx28 bx29 bx30 bx31
  refine sK fun K hK => ?_
  have HS0 := Lib.hid (HB.out.size)
  have MX24 : w.heap.size + 1 < Wx3.heap.size := BX24.out.lt
  have MX25 : w.heap.size + 1 + 1 < Wx3.heap.size := BX25.out.lt
  have MX26 : w.heap.size + 1 + 1 + 1 < Wx3.heap.size := BX26.out.lt
  have MX27 : w.heap.size + 1 + 1 + 1 + 1 < Wx3.heap.size := BX27.out.lt
  have MX30 : gx30 < Wx3.heap.size := BX30.out.lt
  have MX31 : gx31 < Wx3.heap.size := BX31.out.lt
  refine wp_region_seqplan 7 [(true, 0), (true, 1), (false, 2), (true, 3), (true, 4), (true, 5), (true, 6)] (by rfl) (by simp) (fun T hT => ?_)
  iterate 2 (refine wpPlan_takeL (v := ?_) rfl (by rfl) (fun w' hw => ?_) ?_; rotate_left; go_simp; with_reducible rfl; simp only [Act.put, rA, rB, rC])
  refine wpPlan_callE rfl (by rfl) Tryz.call11 (by rfl) (fun w' hw => (IH.out _ _ w' (BX22.out.gr hw) (BX29.out.gr hw)).mono ?_)
  rintro e vv1 ⟨⟨rv3, rv4, rv5, rfl, bx32, bx33, bx34⟩, hg0⟩
  obtain ⟨ao3, nn3, cc3, rfl⟩ := Rn.sl bx32
  obtain ⟨ao4, nn4, cc4, rfl⟩ := Rn.sl bx33
  obtain ⟨ao5, nn5, cc5, rfl⟩ := Rn.sl bx34
  refine ⟨_, rfl, hg0, ?_⟩
  replace hg0 := Gr.trans hw hg0; clear hw
  have HG0 := Lib.hid hg0; clear hg0
  replace BX22 := rG BX22 HG0
  replace BX24 := bG BX24 HG0
  replace BX25 := bG BX25 HG0
  replace BX26 := bG BX26 HG0
  replace BX27 := bG BX27 HG0
  replace BX28 := rG BX28 HG0
  replace BX29 := rG BX29 HG0
  replace BX30 := bG BX30 HG0
  replace BX31 := bG BX31 HG0
  replace HB := Lib.hid (HB.out.trans (HG0.out.mono HB.out.size))
  have BX32 := Lib.hid bx32; clear bx32
  have BX33 := Lib.hid bx33; clear bx33
  have BX34 := Lib.hid bx34; clear bx34
  clear HG0
  clear lx24; have lx24 := BX24.out.cells
  clear lx31; have lx31 := BX31.out.cells
  simp only [Act.put, rA, rB, rC]
  iterate 4 (refine wpPlan_takeL (v := ?_) rfl (by rfl) (fun w' hw => ?_) ?_; rotate_left; go_simp; with_reducible rfl; simp only [Act.put, rA, rB, rC])
  refine wpPlan_nil (hT.out _ _ ?_); clear hT T
  intro vw3 hg
  simp only [puts, Act.put, rA, rB, rC, rD, rE, ↓reduceIte, Nat.reduceEqDiff]
  clear lx24 lx31
  have HG := Lib.hid (hg)
  clear hg
  replace BX22 := rG BX22 HG
  replace BX24 := bG BX24 HG
  replace BX25 := bG BX25 HG
  replace BX26 := bG BX26 HG
  replace BX27 := bG BX27 HG
  replace BX28 := rG BX28 HG
  replace BX29 := rG BX29 HG
  replace BX30 := bG BX30 HG
  replace BX31 := bG BX31 HG
  replace BX32 := rG BX32 HG
  replace BX33 := rG BX33 HG
  replace BX34 := rG BX34 HG
  have r0 := Gr.refl vw3
  go_wp2
  refine hK.out _ _ ?_; clear hK K
  show Code.wp _ _ _ _ _
  clear r0
  have hsz : w.heap.size ≤ vw3.heap.size := Nat.le_trans HB.out.size HG.out.size
  have mx24 : w.heap.size + 1 < vw3.heap.size := BX24.out.lt
  have mx25 : w.heap.size + 1 + 1 < vw3.heap.size := BX25.out.lt
  have mx26 : w.heap.size + 1 + 1 + 1 < vw3.heap.size := BX26.out.lt
  have mx27 : w.heap.size + 1 + 1 + 1 + 1 < vw3.heap.size := BX27.out.lt
  have mx30 : gx30 < vw3.heap.size := BX30.out.lt
  have mx31 : gx31 < vw3.heap.size := BX31.out.lt
  refine forgetW (fun w2 => Bx w2 (w.heap.size + 1 + 1) 38 #[.bool false, .slice none 0 0] ∧ Bx w2 (w.heap.size + 1 + 1 + 1) 38 #[.bool false, .slice none 0 0] ∧ Bx w2 (w.heap.size + 1 + 1 + 1 + 1) 38 #[.bool false, .slice none 0 0] ∧ Rn w2 (.slice ao1 nn1 cc1) (Int.natAbs (q)) ∧ Bx w2 gx30 38 #[.bool (decide ((q) < 0)), (.slice ao1 nn1 cc1)] ∧ Rn w2 (.slice ao3 nn3 cc3) (Int.natAbs (g2)) ∧ Rn w2 (.slice ao4 nn4 cc4) (Int.natAbs (x2)) ∧ Rn w2 (.slice ao5 nn5 cc5) (Int.natAbs (y2)) ∧ Bx w2 (vw3.heap.size) 38 #[.bool (decide ((g2) < 0)), (.slice ao3 nn3 cc3)] ∧ Bx w2 (vw3.heap.size + 1) 38 #[.bool (decide ((x2) < 0)), (.slice ao4 nn4 cc4)] ∧ Bx w2 (vw3.heap.size + 1 + 1) 38 #[.bool (decide ((y2) < 0)), (.slice ao5 nn5 cc5)] ∧ Below w.heap.size w w2) ⟨(((BX25.out).alloc _).alloc _).alloc _, (((BX26.out).alloc _).alloc _).alloc _, (((BX27.out).alloc _).alloc _).alloc _, (((BX28.out).alloc _).alloc _).alloc _, (((BX30.out).alloc _).alloc _).alloc _, (((BX32.out).alloc _).alloc _).alloc _, (((BX33.out).alloc _).alloc _).alloc _, (((BX34.out).alloc _).alloc _).alloc _, (((Bx.at (by simp) : Bx _ (vw3.heap.size) _ _)).alloc _).alloc _, ((Bx.at (by simp) : Bx _ (vw3.heap.size + 1) _ _)).alloc _, (Bx.at (by simp) : Bx _ (vw3.heap.size + 1 + 1) _ _), (((HB.out.trans (HG.out.mono HB.out.size)).alloc (by first | omega | (simp; omega)) _).alloc (by first | omega | (simp; omega)) _).alloc (by first | omega | (simp; omega)) _⟩ ?_
  clear HB HG BX22 BX24 BX25 BX26 BX27 BX28 BX29 BX30 BX31 BX32 BX33 BX34
  rintro Wx4 ⟨bx25, bx26, bx27, bx28, bx30, bx32, bx33, bx34, bx35, bx36, bx37, HB⟩
  replace HB := Lib.hid HB
  have qx35_36 : vw3.heap.size < vw3.heap.size + 1 := by omega
  have qx35_37 : vw3.heap.size < vw3.heap.size + 1 + 1 := by omega
  have qx36_37 : vw3.heap.size + 1 < vw3.heap.size + 1 + 1 := by omega
  have yx37 : w.heap.size ≤ vw3.heap.size + 1 + 1 := by omega
  have qx24_37 : w.heap.size + 1 < vw3.heap.size + 1 + 1 := by omega
  have qx25_37 : w.heap.size + 1 + 1 < vw3.heap.size + 1 + 1 := by omega
  have qx26_37 : w.heap.size + 1 + 1 + 1 < vw3.heap.size + 1 + 1 := by omega
  have qx27_37 : w.heap.size + 1 + 1 + 1 + 1 < vw3.heap.size + 1 + 1 := by omega
  have qx30_37 : gx30 < vw3.heap.size + 1 + 1 := by omega
  have qx31_37 : gx31 < vw3.heap.size + 1 + 1 := by omega
  generalize hx37 : vw3.heap.size + 1 + 1 = gx37 at *
  clear hx37
  have yx36 : w.heap.size ≤ vw3.heap.size + 1 := by omega
  have qx24_36 : w.heap.size + 1 < vw3.heap.size + 1 := by omega
  have qx25_36 : w.heap.size + 1 + 1 < vw3.heap.size + 1 := by omega
  have qx26_36 : w.heap.size + 1 + 1 + 1 < vw3.heap.size + 1 := by omega
  have qx27_36 : w.heap.size + 1 + 1 + 1 + 1 < vw3.heap.size + 1 := by omega
  have qx30_36 : gx30 < vw3.heap.size + 1 := by omega
  have qx31_36 : gx31 < vw3.heap.size + 1 := by omega
  generalize hx36 : vw3.heap.size + 1 = gx36 at *
  clear hx36
  have yx35 : w.heap.size ≤ vw3.heap.size := by omega
  have qx24_35 : w.heap.size + 1 < vw3.heap.size := by omega
  have qx25_35 : w.heap.size + 1 + 1 < vw3.heap.size := by omega
  have qx26_35 : w.heap.size + 1 + 1 + 1 < vw3.heap.size := by omega
  have qx27_35 : w.heap.size + 1 + 1 + 1 + 1 < vw3.heap.size := by omega
  have qx30_35 : gx30 < vw3.heap.size := by omega
  have qx31_35 : gx31 < vw3.heap.size := by omega
  generalize hx35 : vw3.heap.size = gx35 at *
  clear hx35
  clear hsz mx24 mx25 mx26 mx27 mx30 mx31
  obtain ⟨u9, HU9⟩ : ∃ z, Hid (q * y2 = z) := ⟨_, Lib.hid rfl⟩
  have su9 : tw (Int.natAbs u9) ≤ 40000005 := by rw [← HU9.out]; have := tw_imul q y2; omega
  have HZ9 : Hid (x2 - u9 = z) := Lib.hid (by rw [← HZ.out, ← HU9.out])
  refine sK fun K hK => ?_
  have hlaw := Kp3.held (w.heap.size + 1 + 1) Wx4
  have y30_0 : gx30 < Wx4.heap.size := bx30.lt
  have y30_1 : gx30 ≠ w.heap.size + 1 + 1 := by omega
  have y30_2 : gx30 ≠ w.heap.size + 1 + 1 + 1 := by omega
  have y30_3 : gx30 ≠ w.heap.size + 1 + 1 + 1 + 1 := by omega
  have c30_0 : Wx4.cell? ⟨gx30, 0, none⟩ = some (.bool (decide (q < 0))) := bx30.cells _ (Gr.refl _) 0
  have c30_1 : Wx4.cell? ⟨gx30, 1, none⟩ = some (.slice ao1 nn1 cc1) := bx30.cells _ (Gr.refl _) 1
  have y35_0 : gx35 < Wx4.heap.size := bx35.lt
  have y35_1 : gx35 ≠ w.heap.size + 1 + 1 := by omega
  have y35_2 : gx35 ≠ w.heap.size + 1 + 1 + 1 := by omega
  have y35_3 : gx35 ≠ w.heap.size + 1 + 1 + 1 + 1 := by omega
  have c35_0 : Wx4.cell? ⟨gx35, 0, none⟩ = some (.bool (decide (g2 < 0))) := bx35.cells _ (Gr.refl _) 0
  have c35_1 : Wx4.cell? ⟨gx35, 1, none⟩ = some (.slice ao3 nn3 cc3) := bx35.cells _ (Gr.refl _) 1
  have y36_0 : gx36 < Wx4.heap.size := bx36.lt
  have y36_1 : gx36 ≠ w.heap.size + 1 + 1 := by omega
  have y36_2 : gx36 ≠ w.heap.size + 1 + 1 + 1 := by omega
  have y36_3 : gx36 ≠ w.heap.size + 1 + 1 + 1 + 1 := by omega
  have c36_0 : Wx4.cell? ⟨gx36, 0, none⟩ = some (.bool (decide (x2 < 0))) := bx36.cells _ (Gr.refl _) 0
  have c36_1 : Wx4.cell? ⟨gx36, 1, none⟩ = some (.slice ao4 nn4 cc4) := bx36.cells _ (Gr.refl _) 1
  have y37_0 : gx37 < Wx4.heap.size := bx37.lt
  have y37_1 : gx37 ≠ w.heap.size + 1 + 1 := by omega
  have y37_2 : gx37 ≠ w.heap.size + 1 + 1 + 1 := by omega
  have y37_3 : gx37 ≠ w.heap.size + 1 + 1 + 1 + 1 := by omega
  have c37_0 : Wx4.cell? ⟨gx37, 0, none⟩ = some (.bool (decide (y2 < 0))) := bx37.cells _ (Gr.refl _) 0
  have c37_1 : Wx4.cell? ⟨gx37, 1, none⟩ = some (.slice ao5 nn5 cc5) := bx37.cells _ (Gr.refl _) 1
  have BX25 := Lib.hid bx25; clear bx25
  have BX26 := Lib.hid bx26; clear bx26
  have BX27 := Lib.hid bx27; clear bx27
  have BX28 := Lib.hid bx28; clear bx28
  have BX30 := Lib.hid bx30; clear bx30
  have BX32 := Lib.hid bx32; clear bx32
  have BX33 := Lib.hid bx33; clear bx33
  have BX34 := Lib.hid bx34; clear bx34
  have BX35 := Lib.hid bx35; clear bx35
  have BX36 := Lib.hid bx36; clear bx36
  have BX37 := Lib.hid bx37; clear bx37
  go_region_held3 (fun w' => Kp3 (w.heap.size + 1 + 1) Wx4 w')
    (first | (with_reducible refine Kp3.setAny ?_ _ (by first | exact .inl rfl | exact .inr (.inl rfl) | exact .inr (.inr rfl)) _; repeat (first | with_reducible exact hC2 | with_reducible refine Kp3.setAny ?_ _ (by first | exact .inl rfl | exact .inr (.inl rfl) | exact .inr (.inr rfl)) _)) | with_reducible exact Kp3.of (Gr.drew _) | with_reducible assumption)
    (first
    | (go_at_call 23; refine (zmul_any q y2 u9 _ _ _ HU9.out (by omega) (by omega) (BX28.out.gr (Gr.drew _)) (BX34.out.gr (Gr.drew _))).mono ?_; rintro e w1 ⟨⟨rv9, rfl, hrn⟩, hb1⟩; have HG1 : Hid (Gr Wx4 w1) := Lib.hid (Gr.trans (Gr.drew _) hb1); have hC1 := Kp3.of (B := w.heap.size + 1 + 1) HG1.out; have HRN := Lib.hid hrn; obtain ⟨aoa, noa, coa, rfl⟩ := Rn.sl hrn; clear hb1 hrn)
    | (go_at_call 21; refine (zsub_any x2 u9 z _ _ _ HZ9.out (by omega) (by omega) (BX33.out.gr HG1.out) HRN.out).mono ?_; rintro e w2 ⟨⟨rv8, rfl, hrm⟩, hb2⟩; have HG2 : Hid (Gr Wx4 w2) := Lib.hid (Gr.trans HG1.out hb2); have hC2 := Kp3.of (B := w.heap.size + 1 + 1) HG2.out; have HRM := Lib.hid hrm; obtain ⟨aob, nob, cob, rfl⟩ := Rn.sl hrm; clear hb2 hrm; have f25_0 := (BX25.out.gr HG2.out).free _ (Gr.refl _) 0; have g25_0 : w2.cell? ⟨w.heap.size + 1 + 1, 0, none⟩ = some (.bool false) := (BX25.out.gr HG2.out).cells _ (Gr.refl _) 0; have f25_1 := (BX25.out.gr HG2.out).free _ (Gr.refl _) 1; have g25_1 : w2.cell? ⟨w.heap.size + 1 + 1, 1, none⟩ = some (.slice none 0 0) := (BX25.out.gr HG2.out).cells _ (Gr.refl _) 1; have f26_0 := (BX26.out.gr HG2.out).free _ (Gr.refl _) 0; have g26_0 : w2.cell? ⟨w.heap.size + 1 + 1 + 1, 0, none⟩ = some (.bool false) := (BX26.out.gr HG2.out).cells _ (Gr.refl _) 0; have f26_1 := (BX26.out.gr HG2.out).free _ (Gr.refl _) 1; have g26_1 : w2.cell? ⟨w.heap.size + 1 + 1 + 1, 1, none⟩ = some (.slice none 0 0) := (BX26.out.gr HG2.out).cells _ (Gr.refl _) 1; have f27_0 := (BX27.out.gr HG2.out).free _ (Gr.refl _) 0; have g27_0 : w2.cell? ⟨w.heap.size + 1 + 1 + 1 + 1, 0, none⟩ = some (.bool false) := (BX27.out.gr HG2.out).cells _ (Gr.refl _) 0; have f27_1 := (BX27.out.gr HG2.out).free _ (Gr.refl _) 1; have g27_1 : w2.cell? ⟨w.heap.size + 1 + 1 + 1 + 1, 1, none⟩ = some (.slice none 0 0) := (BX27.out.gr HG2.out).cells _ (Gr.refl _) 1))
  go_wp2
  refine hK.out _ _ ?_; clear hK K
  show Code.wp _ _ _ _ _
  refine forgetW (fun w2 => Rn w2 (.slice ao3 nn3 cc3) (Int.natAbs g2) ∧ Rn w2 (.slice ao5 nn5 cc5) (Int.natAbs y2) ∧ Rn w2 (.slice aob nob cob) (Int.natAbs z) ∧ Bx w2 (w.heap.size + 1 + 1) 38 #[.bool (decide (g2 < 0)), (.slice ao3 nn3 cc3)] ∧ Bx w2 (w.heap.size + 1 + 1 + 1) 38 #[.bool (decide (y2 < 0)), (.slice ao5 nn5 cc5)] ∧ Bx w2 (w.heap.size + 1 + 1 + 1 + 1) 38 #[.bool (decide (z < 0)), (.slice aob nob cob)] ∧ Below w.heap.size w w2) ⟨(((((((BX32.out.gr HG2.out)).setOther (Rn.ne (BX32.out.gr HG2.out) (BX25.out.gr HG2.out) (by decide)) _).setOther (Rn.ne (BX32.out.gr HG2.out) (BX25.out.gr HG2.out) (by decide)) _).setOther (Rn.ne (BX32.out.gr HG2.out) (BX26.out.gr HG2.out) (by decide)) _).setOther (Rn.ne (BX32.out.gr HG2.out) (BX26.out.gr HG2.out) (by decide)) _).setOther (Rn.ne (BX32.out.gr HG2.out) (BX27.out.gr HG2.out) (by decide)) _).setOther (Rn.ne (BX32.out.gr HG2.out) (BX27.out.gr HG2.out) (by decide)) _, (((((((BX34.out.gr HG2.out)).setOther (Rn.ne (BX34.out.gr HG2.out) (BX25.out.gr HG2.out) (by decide)) _).setOther (Rn.ne (BX34.out.gr HG2.out) (BX25.out.gr HG2.out) (by decide)) _).setOther (Rn.ne (BX34.out.gr HG2.out) (BX26.out.gr HG2.out) (by decide)) _).setOther (Rn.ne (BX34.out.gr HG2.out) (BX26.out.gr HG2.out) (by decide)) _).setOther (Rn.ne (BX34.out.gr HG2.out) (BX27.out.gr HG2.out) (by decide)) _).setOther (Rn.ne (BX34.out.gr HG2.out) (BX27.out.gr HG2.out) (by decide)) _, ((((((HRM.out).setOther (Rn.ne HRM.out (BX25.out.gr HG2.out) (by decide)) _).setOther (Rn.ne HRM.out (BX25.out.gr HG2.out) (by decide)) _).setOther (Rn.ne HRM.out (BX26.out.gr HG2.out) (by decide)) _).setOther (Rn.ne HRM.out (BX26.out.gr HG2.out) (by decide)) _).setOther (Rn.ne HRM.out (BX27.out.gr HG2.out) (by decide)) _).setOther (Rn.ne HRM.out (BX27.out.gr HG2.out) (by decide)) _, (so2 (so2 ((((BX25.out.gr HG2.out)).set 0 _).set 1 _) (by show w.heap.size + 1 + 1 ≠ w.heap.size + 1 + 1 + 1; omega)) (by show w.heap.size + 1 + 1 ≠ w.heap.size + 1 + 1 + 1 + 1; omega)).eq (by simp only [rA, rB, rC]), (so2 (((so2 ((BX26.out.gr HG2.out)) (by show w.heap.size + 1 + 1 + 1 ≠ w.heap.size + 1 + 1; omega)).set 0 _).set 1 _) (by show w.heap.size + 1 + 1 + 1 ≠ w.heap.size + 1 + 1 + 1 + 1; omega)).eq (by simp only [rA, rB, rC]), (((so2 (so2 ((BX27.out.gr HG2.out)) (by show w.heap.size + 1 + 1 + 1 + 1 ≠ w.heap.size + 1 + 1; omega)) (by show w.heap.size + 1 + 1 + 1 + 1 ≠ w.heap.size + 1 + 1 + 1; omega)).set 0 _).set 1 _).eq (by simp only [rA, rB, rC]), sc2 (sc2 (sc2 (HB.out.trans (HG2.out.mono HB.out.size)) (by show w.heap.size ≤ w.heap.size + 1 + 1; omega)) (by show w.heap.size ≤ w.heap.size + 1 + 1 + 1; omega)) (by show w.heap.size ≤ w.heap.size + 1 + 1 + 1 + 1; omega)⟩ ?_
  clear HB HG1 HG2 HRN HRM hC1 hC2 hlaw BX25 BX26 BX27 BX28 BX30 BX32 BX33 BX34 BX35 BX36 BX37 c30_0 c30_1 c35_0 c35_1 c36_0 c36_1 c37_0 c37_1 f25_0 f25_1 g25_0 g25_1 f26_0 f26_1 g26_0 g26_1 f27_0 f27_1 g27_0 g27_1
  rintro Wx5 ⟨bx91, bx92, bx93, bx25, bx26, bx27, HB⟩
  replace HB := Lib.hid HB
  refine wp_ret ?_
  try simp only [Exit.then, Exit.inBlock]
  have lx25 := bx25.cells
  have lx26 := bx26.cells
  have lx27 := bx27.cells
  have r0 := Gr.refl Wx5
  exact bodyPost_ret (v := .tuple #[(.agg #[.bool (decide ((g2) < 0)), (.slice ao3 nn3 cc3)]), (.agg #[.bool (decide ((y2) < 0)), (.slice ao5 nn5 cc5)]), (.agg #[.bool (decide ((z) < 0)), (.slice aob nob cob)])]) (by simp [results, Tryz.results11, go_sem, lx25 _ r0, lx26 _ r0, lx27 _ r0]) rfl ⟨⟨(.slice ao3 nn3 cc3), (.slice ao5 nn5 cc5), (.slice aob nob cob), rfl, bx91, bx92, bx93⟩, HB.out⟩

theorem tw_egcd (a b : Int) (h1 : tw a.natAbs ≤ 20000000) (h2 : tw b.natAbs ≤ 20000000) : tw (egcd a b).1.natAbs ≤ 20000004 ∧ tw (egcd a b).2.1.natAbs ≤ 20000004 ∧ tw (egcd a b).2.2.natAbs ≤ 20000004 := by
  have hs := egcd_small a b
  have hsum : tw (5 * (a.natAbs + b.natAbs) + 5) ≤ 20000004 := by
    have e1 := tw_add a.natAbs b.natAbs
    have e2 := tw_mul 5 (a.natAbs + b.natAbs)
    have e3 := tw_add (5 * (a.natAbs + b.natAbs)) 5
    have e4 : tw 5 ≤ 1 := tw_le.2 (by decide)
    omega
  refine ⟨?_, Nat.le_trans (tw_mono hs.1) hsum, Nat.le_trans (tw_mono hs.2) hsum⟩
  rw [(egcd_gcd _ a b (Nat.le_refl _)).1, Int.natAbs_natCast]
  have := tw_gcd a.natAbs b.natAbs
  omega
theorem zgcd_law : ∀ (K : Nat) (a b : Int) (va vb : Value) (w : World), b.natAbs ≤ K → tw (Int.natAbs a) ≤ 20000000 → tw (Int.natAbs b) ≤ 20000000 → Rn w va a.natAbs → Rn w vb b.natAbs →
    Calls Tryz.prog 11 #[.agg #[.bool (decide (a < 0)), va], .agg #[.bool (decide (b < 0)), vb]] w fun e w' => (∃ r1 r2 r3 : Value, e = .returned (.tuple #[.agg #[.bool (decide ((egcd a b).1 < 0)), r1], .agg #[.bool (decide ((egcd a b).2.1 < 0)), r2], .agg #[.bool (decide ((egcd a b).2.2 < 0)), r3]]) ∧ Rn w' r1 (egcd a b).1.natAbs ∧ Rn w' r2 (egcd a b).2.1.natAbs ∧ Rn w' r3 (egcd a b).2.2.natAbs) ∧ Below w.heap.size w w'
  | K, a, b, va, vb, w, hK, sa, sb, ha, hb => by
    by_cases h : b = 0
    · subst h
      rw [egcd_zero]
      have hs : -1 ≤ sgI a ∧ sgI a ≤ 1 := by unfold sgI; split; simp; split <;> simp
      exact zg_zero a _ va vb w _ (Lib.hid rfl) (Lib.hid rfl) hs.1 hs.2 sa ha hb
    · have hm := mod_abs a h
      match K, hK with
      | 0, hK => omega
      | K + 1, hK =>
        have sr := Nat.le_trans (tw_imod a b h) sb
        have sq := tw_idiv a b
        have se := tw_egcd b (a % b) sb sr
        rw [egcd_step a h]
        have ht : ¬ sgI b = 0 := by unfold sgI; rw [if_neg h]; split <;> simp
        exact zg_step a b _ _ _ _ _ _ _ va vb w (Lib.hid rfl) (Lib.hid rfl) (Lib.hid rfl) ht h (Lib.hid rfl) se.1 se.2.1 se.2.2 sr (by omega)
          (Lib.hid fun vb' vr w' h1 h2 => zgcd_law K b (a % b) vb' vr w' (by omega) sb sr h1 h2) sa sb ha hb
theorem zzgcd (a b g x y : Int) (va vb : Value) (w : World) (hg : (egcd a b).1 = g) (hx : (egcd a b).2.1 = x) (hy : (egcd a b).2.2 = y) (hs_a : tw (Int.natAbs a) ≤ 20000000) (hs_b : tw (Int.natAbs b) ≤ 20000000) (ha : Rn w va a.natAbs) (hb : Rn w vb b.natAbs) :
    Calls Tryz.prog 11 #[.agg #[.bool (decide (a < 0)), va], .agg #[.bool (decide (b < 0)), vb]] w fun e w' => (∃ r1 r2 r3 : Value, e = .returned (.tuple #[.agg #[.bool (decide (g < 0)), r1], .agg #[.bool (decide (x < 0)), r2], .agg #[.bool (decide (y < 0)), r3]]) ∧ Rn w' r1 g.natAbs ∧ Rn w' r2 x.natAbs ∧ Rn w' r3 y.natAbs) ∧ Below w.heap.size w w' :=
  hg ▸ hx ▸ hy ▸ zgcd_law _ a b va vb w (Nat.le_refl _) hs_a hs_b ha hb

end Go.Proofs.YtflhpdlecpehkaaGreatDoor
