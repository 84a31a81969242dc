
/- NatsRings: the law's walk. -/
import Derived.Test.YteenojfbnbkedaaDoorSh
import Derived.Test.YteenojfbnbkedaaDoorPlainN
namespace Go.Proofs.YteenojfbnbkedaaDoor
open Go.RowKit
set_option linter.unusedSimpArgs false
set_option linter.unusedVariables false
attribute [local go_sem ↓] Go.wp_at_zero Go.wp_at_succ
attribute [local go_sem ↓] eq_nat eq_nat_zero
theorem tri (a b : Nat) : a < b ∨ Hid (a = b) ∨ b < a := by
  rcases Nat.lt_trichotomy a b with h | h | h
  · exact .inl h
  · exact .inr (.inl (Lib.hid h))
  · exact .inr (.inr h)

set_option maxRecDepth 100000 in
set_option maxHeartbeats 16000000 in
theorem ring_main (vx : Value) (kx : Nat) (fx : Nat → Nat) (vy : Value) (ky : Nat) (fy : Nat → Nat) (vz : Value) (kz : Nat) (fz : Nat → Nat) (a b c : Nat)  (w : World) (HWx : Hid (Wa w vx kx fx)) (HFx : Hid (∀ i, i < kx → fx i < 4294967296)) (HVx : Hid (vl fx kx = a)) (HWy : Hid (Wa w vy ky fy)) (HFy : Hid (∀ i, i < ky → fy i < 4294967296)) (HVy : Hid (vl fy ky = b)) (HWz : Hid (Wa w vz kz fz)) (HFz : Hid (∀ i, i < kz → fz i < 4294967296)) (HVz : Hid (vl fz kz = c)) (hkx : kx ≤ 16) (hky : ky ≤ 16) (hkz : kz ≤ 16) (HT : Hid (Tab w)) :
    Calls Tryd.prog 10 #[vx, vy, vz] w fun e w' => e = .returned (.bool true) ∧ Below w.heap.size w w' := by
  obtain ⟨ao_x, c_x, rfl⟩ := HWx.out.slice
  obtain ⟨ao_y, c_y, rfl⟩ := HWy.out.slice
  obtain ⟨ao_z, c_z, rfl⟩ := HWz.out.slice
  have hb_a : wl a ≤ 16 := by rw [← HVx.out]; have := wl_le.2 (vl_lt HFx.out); omega
  have hb_b : wl b ≤ 16 := by rw [← HVy.out]; have := wl_le.2 (vl_lt HFy.out); omega
  have hb_c : wl c ≤ 16 := by rw [← HVz.out]; have := wl_le.2 (vl_lt HFz.out); omega
  go_enter Tryd.func10, Tryd.ntmps10
  refine sK fun K hK => ?_
  refine wp_region_lit ?_
  go_wp2
  refine hK.out _ _ ?_; clear hK K
  show Code.wp _ _ _ _ _
  refine forgetW (fun w2 => Below w.heap.size w w2) (Below.refl _ _) ?_
  rintro Wx HB
  replace HB := Lib.hid HB
  refine wp_seq ?_
  have hd1 : ¬ (16 < ((kx : Int))) := by omega
  have hd2 : ¬ (16 < ((ky : Int))) := by omega
  have hd3 : ¬ (16 < ((kz : Int))) := by omega
  refine sK fun K hK => ?_
  refine wp_region_seqplan 13 [(true, 0), (true, 1), (true, 2), (true, 3), (true, 4), (true, 5), (true, 6), (true, 7), (true, 8), (true, 9), (true, 10), (true, 11), (true, 12)] (by rfl) (by simp) (fun T hT => ?_)
  iterate 13 (refine wpPlan_takeL (v := ?_) rfl (by rfl) (fun w' hw => ?_) ?_; rotate_left; go_simp; with_reducible rfl; simp only [Act.put, rA, rB, rC])
  refine wpPlan_nil (hT.out _ _ ?_); clear hT T
  intro vw1 hg
  simp only [puts, Act.put, rA, rB, rC, rD, rE, ↓reduceIte, Nat.reduceEqDiff]
  have HG := Lib.hid (hg)
  clear hg
  have r0 := Gr.refl vw1
  go_wp2
  refine hK.out _ _ ?_; clear hK K
  show Code.wp _ _ _ _ _
  clear r0
  refine forgetW (fun w2 => Below w.heap.size w w2) (HB.out.trans (HG.out.mono HB.out.size)) ?_
  clear HB HG
  rintro Wx1 HB
  replace HB := Lib.hid HB
  clear hd1 hd2 hd3
  refine wp_cond_false (by rfl) ?_
  refine wp_skip ?_
  show Code.wp _ _ _ _ _
  refine sK fun K hK => ?_
  refine wp_region_seqplan 6 [(true, 0), (true, 1), (true, 2), (true, 3), (true, 4), (true, 5)] (by rfl) (by simp) (fun T hT => ?_)
  refine wpPlan_takeL (v := ?_) rfl (by rfl) (fun w' hw => ?_) ?_; rotate_left; go_simp; with_reducible rfl; simp only [Act.put, rA, rB, rC]
  refine wpPlan_callL rfl (by rfl) Tryd.call13 (fun w' hw => zmade _ kx fx a w _ HVx.out (by omega) HWx.out (Gr.trans HB.out hw) HFx.out) (by rfl) ?_
  simp only [Act.put, rA, rB, rC]
  refine wpPlan_takeL (v := ?_) rfl (by rfl) (fun w' hw => ?_) ?_; rotate_left; go_simp; with_reducible rfl; simp only [Act.put, rA, rB, rC]
  refine wpPlan_callL rfl (by rfl) Tryd.call13 (fun w' hw => zmade _ ky fy b w _ HVy.out (by omega) HWy.out (Gr.trans HB.out hw) HFy.out) (by rfl) ?_
  simp only [Act.put, rA, rB, rC]
  refine wpPlan_takeL (v := ?_) rfl (by rfl) (fun w' hw => ?_) ?_; rotate_left; go_simp; with_reducible rfl; simp only [Act.put, rA, rB, rC]
  refine wpPlan_callL rfl (by rfl) Tryd.call13 (fun w' hw => zmade _ kz fz c w _ HVz.out (by omega) HWz.out (Gr.trans HB.out hw) HFz.out) (by rfl) ?_
  simp only [Act.put, rA, rB, rC]
  refine wpPlan_nil (hT.out _ _ ?_); clear hT T
  intro vw2 hg
  simp only [puts, Act.put, rA, rB, rC, rD, rE, ↓reduceIte, Nat.reduceEqDiff]
  have HG := Lib.hid (hg)
  clear hg
  have r0 := Gr.refl vw2
  go_wp2
  refine hK.out _ _ ?_; clear hK K
  show Code.wp _ _ _ _ _
  clear r0
  have hsz : w.heap.size ≤ vw2.heap.size := Nat.le_trans HB.out.size HG.out.size
  refine forgetW (fun w2 => NX w2 (vw2.heap.size) (a) ∧ NX w2 (vw2.heap.size + 1) (b) ∧ NX w2 (vw2.heap.size + 1 + 1) (c) ∧ Below w.heap.size w w2) ⟨(((Bx.at (by simp) : Bx _ (vw2.heap.size) _ _)).alloc _).alloc _, ((Bx.at (by simp) : Bx _ (vw2.heap.size + 1) _ _)).alloc _, (Bx.at (by simp) : Bx _ (vw2.heap.size + 1 + 1) _ _), (((HB.out.trans (HG.out.mono HB.out.size)).alloc (by first | omega | (simp; omega)) _).alloc (by first | omega | (simp; omega)) _).alloc (by first | omega | (simp; omega)) _⟩ ?_
  clear HB HG
  rintro Wx3 ⟨bx0, bx1, bx2, HB⟩
  replace HB := Lib.hid HB
  have qx0_1 : vw2.heap.size < vw2.heap.size + 1 := by omega
  have qx0_2 : vw2.heap.size < vw2.heap.size + 1 + 1 := by omega
  have qx1_2 : vw2.heap.size + 1 < vw2.heap.size + 1 + 1 := by omega
  have yx2 : w.heap.size ≤ vw2.heap.size + 1 + 1 := by omega
  generalize hx2 : vw2.heap.size + 1 + 1 = gx2 at *
  clear hx2
  have yx1 : w.heap.size ≤ vw2.heap.size + 1 := by omega
  generalize hx1 : vw2.heap.size + 1 = gx1 at *
  clear hx1
  have yx0 : w.heap.size ≤ vw2.heap.size := by omega
  generalize hx0 : vw2.heap.size = gx0 at *
  clear hx0
  clear hsz
  obtain ⟨u1, HZ1⟩ : ∃ z, Hid ((a) + (b) = z) := ⟨_, Lib.hid rfl⟩
  have su1 : wl (u1) ≤ 17 := by rw [← HZ1.out]; have := wl_add (a) (b); omega
  have HZ2 : Hid ((u1) - (b) = a) := Lib.hid (by first | omega | (try simp only [← HZ1.out]) <;> first | rfl | omega | (simp; done) | exact Nat.mul_assoc _ _ _ | exact Nat.add_assoc _ _ _ | grind)
  have su2 : wl (a) ≤ 17 := by have e := HZ2.out; first | omega | (rw [← e]; have := wl_sub (u1) (b); omega)
  have lx0 := bx0.cells
  have lx1 := bx1.cells
  have BX0 := Lib.hid bx0
  have BX1 := Lib.hid bx1
  have BX2 := Lib.hid bx2
  clear bx0 bx1 bx2
  refine sK fun K hK => ?_
  refine wp_region_plan 9 [8] [7] (fun _ => 10) (fun _ => .cells #[.int .u64 0, .string ⟨#[]⟩] 26) [(true, 0), (true, 1), (true, 3), (true, 2), (true, 4), (true, 5), (true, 6), (true, 7)] (by kernel_rfl) (by kernel_rfl) (by intro i hi; simp only [List.mem_cons, List.not_mem_nil, or_false] at hi; rcases hi with rfl <;> exact ⟨_, rfl, rfl, rfl, by simp, fun ρ w => by kernel_rfl⟩) (by intro i hi; simp only [List.mem_cons, List.not_mem_nil, or_false] at hi; rcases hi with rfl <;> exact ⟨_, rfl, pure_extract⟩) (fun _ _ _ _ _ h => h) (fun T hT => ?_)
  iterate 3 (refine wpPlan_takeL (v := ?_) rfl (by rfl) (fun w' hw => ?_) ?_; rotate_left; go_simp; with_reducible rfl; simp only [Act.put, rA, rB, rC])
  refine wpPlan_callL rfl (by rfl) Tryd.call18 (fun w' hw => nzadd (a) (b) (u1) _ HZ1.out (by omega) (by omega)) (by rfl) ?_
  simp only [Act.put, rA, rB, rC]
  refine wpPlan_callL rfl (by rfl) Tryd.call16 (fun w' hw => nzsub (u1) (b) (a) _ HZ2.out (by first | omega | (try simp only [← HZ1.out]) <;> first | rfl | omega | (simp; done) | exact Nat.mul_assoc _ _ _ | exact Nat.add_assoc _ _ _ | grind) (by omega) (by omega)) (by rfl) ?_
  simp only [Act.put, rA, rB, rC]
  iterate 3 (refine wpPlan_takeL (v := ?_) rfl (by rfl) (fun w' hw => ?_) ?_; rotate_left; go_simp; with_reducible rfl; simp only [Act.put, rA, rB, rC])
  refine wpPlan_nil (hT.out _ _ ?_); clear hT T
  intro G vw3 hg hf
  simp only [puts, Act.put, rA, rB, rC, rD, rE, ↓reduceIte, Nat.reduceEqDiff]
  clear lx0 lx1
  have HG := Lib.hid (hg)
  clear hg
  have bx3 := Bx.of_fresh hf (i := 8) (by decide) rfl
  have yx3 := (hf.1 8 (by decide)).1
  clear hf
  generalize G 8 = gx3 at *
  have qx0_3 : gx0 < gx3 := Nat.lt_of_lt_of_le BX0.out.lt yx3
  have qx1_3 : gx1 < gx3 := Nat.lt_of_lt_of_le BX1.out.lt yx3
  have qx2_3 : gx2 < gx3 := Nat.lt_of_lt_of_le BX2.out.lt yx3
  replace yx3 : w.heap.size ≤ gx3 := Nat.le_trans HB.out.size yx3
  replace BX0 := bG BX0 HG
  replace BX1 := bG BX1 HG
  replace BX2 := bG BX2 HG
  have lx3 := bx3.cells; have fx3 := bx3.free
  have r0 := Gr.refl vw3
  have BX3 := Lib.hid bx3; clear bx3
  go_wp2
  refine hK.out _ _ ?_; clear hK K
  show Code.wp _ _ _ _ _
  clear lx3 fx3
  clear r0
  refine forgetW (fun w2 => NX w2 gx0 (a) ∧ NX w2 gx1 (b) ∧ NX w2 gx2 (c) ∧ NX w2 gx3 (a) ∧ Below w.heap.size w w2) ⟨so2 (BX0.out) (by show gx0 ≠ gx3; omega), so2 (BX1.out) (by show gx1 ≠ gx3; omega), so2 (BX2.out) (by show gx2 ≠ gx3; omega), (((BX3.out).set 0 _).set 1 _).eq (by simp only [rA, rB, rC]), sc2 (HB.out.trans (HG.out.mono HB.out.size)) (by show w.heap.size ≤ gx3; omega)⟩ ?_
  clear HB HG BX0 BX1 BX2 BX3
  rintro Wx4 ⟨bx0, bx1, bx2, bx3, HB⟩
  replace HB := Lib.hid HB
  refine wp_seq ?_
  have HZ3 : Hid ((a) + (b) = u1) := Lib.hid (by first | omega | (try simp only [← HZ1.out]) <;> first | rfl | omega | (simp; done) | exact Nat.mul_assoc _ _ _ | exact Nat.add_assoc _ _ _ | grind)
  have su3 : wl (u1) ≤ 17 := by have e := HZ3.out; first | omega | (rw [← e]; have := wl_add (a) (b); omega)
  have HZ4 : Hid ((b) + (a) = u1) := Lib.hid (by first | omega | (try simp only [← HZ1.out]) <;> first | rfl | omega | (simp; done) | exact Nat.mul_assoc _ _ _ | exact Nat.add_assoc _ _ _ | grind)
  have su4 : wl (u1) ≤ 17 := by have e := HZ4.out; first | omega | (rw [← e]; have := wl_add (b) (a); omega)
  obtain ⟨u5, HZ5⟩ : ∃ z, Hid ((a) * (b) = z) := ⟨_, Lib.hid rfl⟩
  have su5 : wl (u5) ≤ 32 := by rw [← HZ5.out]; have := wl_mul (a) (b); omega
  have HZ6 : Hid ((b) * (a) = u5) := Lib.hid (by first | omega | (try simp only [← HZ5.out, ← HZ1.out]) <;> first | rfl | omega | (simp; done) | exact Nat.mul_assoc _ _ _ | exact Nat.add_assoc _ _ _ | grind)
  have su6 : wl (u5) ≤ 32 := by have e := HZ6.out; first | omega | (rw [← e]; have := wl_mul (b) (a); omega)
  have HZ7 : Hid ((a) + (b) = u1) := Lib.hid (by first | omega | (try simp only [← HZ5.out, ← HZ1.out]) <;> first | rfl | omega | (simp; done) | exact Nat.mul_assoc _ _ _ | exact Nat.add_assoc _ _ _ | grind)
  have su7 : wl (u1) ≤ 17 := by have e := HZ7.out; first | omega | (rw [← e]; have := wl_add (a) (b); omega)
  obtain ⟨u8, HZ8⟩ : ∃ z, Hid ((u1) + (c) = z) := ⟨_, Lib.hid rfl⟩
  have su8 : wl (u8) ≤ 18 := by rw [← HZ8.out]; have := wl_add (u1) (c); omega
  obtain ⟨u9, HZ9⟩ : ∃ z, Hid ((b) + (c) = z) := ⟨_, Lib.hid rfl⟩
  have su9 : wl (u9) ≤ 17 := by rw [← HZ9.out]; have := wl_add (b) (c); omega
  have HZ10 : Hid ((a) + (u9) = u8) := Lib.hid (by first | omega | (try simp only [← HZ9.out, ← HZ8.out, ← HZ5.out, ← HZ1.out]) <;> first | rfl | omega | (simp; done) | exact Nat.mul_assoc _ _ _ | exact Nat.add_assoc _ _ _ | grind)
  have su10 : wl (u8) ≤ 18 := by have e := HZ10.out; first | omega | (rw [← e]; have := wl_add (a) (u9); omega)
  have HZ11 : Hid ((a) * (b) = u5) := Lib.hid (by first | omega | (try simp only [← HZ9.out, ← HZ8.out, ← HZ5.out, ← HZ1.out]) <;> first | rfl | omega | (simp; done) | exact Nat.mul_assoc _ _ _ | exact Nat.add_assoc _ _ _ | grind)
  have su11 : wl (u5) ≤ 32 := by have e := HZ11.out; first | omega | (rw [← e]; have := wl_mul (a) (b); omega)
  obtain ⟨u12, HZ12⟩ : ∃ z, Hid ((u5) * (c) = z) := ⟨_, Lib.hid rfl⟩
  have su12 : wl (u12) ≤ 48 := by rw [← HZ12.out]; have := wl_mul (u5) (c); omega
  obtain ⟨u13, HZ13⟩ : ∃ z, Hid ((b) * (c) = z) := ⟨_, Lib.hid rfl⟩
  have su13 : wl (u13) ≤ 32 := by rw [← HZ13.out]; have := wl_mul (b) (c); omega
  have HZ14 : Hid ((a) * (u13) = u12) := Lib.hid (by first | omega | (try simp only [← HZ13.out, ← HZ12.out, ← HZ9.out, ← HZ8.out, ← HZ5.out, ← HZ1.out]) <;> first | rfl | omega | (simp; done) | exact Nat.mul_assoc _ _ _ | exact Nat.add_assoc _ _ _ | grind)
  have su14 : wl (u12) ≤ 48 := by have e := HZ14.out; first | omega | (rw [← e]; have := wl_mul (a) (u13); omega)
  have HZ15 : Hid ((b) + (c) = u9) := Lib.hid (by first | omega | (try simp only [← HZ13.out, ← HZ12.out, ← HZ9.out, ← HZ8.out, ← HZ5.out, ← HZ1.out]) <;> first | rfl | omega | (simp; done) | exact Nat.mul_assoc _ _ _ | exact Nat.add_assoc _ _ _ | grind)
  have su15 : wl (u9) ≤ 17 := by have e := HZ15.out; first | omega | (rw [← e]; have := wl_add (b) (c); omega)
  obtain ⟨u16, HZ16⟩ : ∃ z, Hid ((a) * (u9) = z) := ⟨_, Lib.hid rfl⟩
  have su16 : wl (u16) ≤ 33 := by rw [← HZ16.out]; have := wl_mul (a) (u9); omega
  have HZ17 : Hid ((a) * (b) = u5) := Lib.hid (by first | omega | (try simp only [← HZ16.out, ← HZ13.out, ← HZ12.out, ← HZ9.out, ← HZ8.out, ← HZ5.out, ← HZ1.out]) <;> first | rfl | omega | (simp; done) | exact Nat.mul_assoc _ _ _ | exact Nat.add_assoc _ _ _ | grind)
  have su17 : wl (u5) ≤ 32 := by have e := HZ17.out; first | omega | (rw [← e]; have := wl_mul (a) (b); omega)
  obtain ⟨u18, HZ18⟩ : ∃ z, Hid ((a) * (c) = z) := ⟨_, Lib.hid rfl⟩
  have su18 : wl (u18) ≤ 32 := by rw [← HZ18.out]; have := wl_mul (a) (c); omega
  have HZ19 : Hid ((u5) + (u18) = u16) := Lib.hid (by first | omega | (try simp only [← HZ18.out, ← HZ16.out, ← HZ13.out, ← HZ12.out, ← HZ9.out, ← HZ8.out, ← HZ5.out, ← HZ1.out]) <;> first | rfl | omega | (simp; done) | exact Nat.mul_assoc _ _ _ | exact Nat.add_assoc _ _ _ | grind)
  have su19 : wl (u16) ≤ 33 := by have e := HZ19.out; first | omega | (rw [← e]; have := wl_add (u5) (u18); omega)
  have lx0 := bx0.cells
  have lx1 := bx1.cells
  have lx2 := bx2.cells
  have lx3 := bx3.cells
  have BX0 := Lib.hid bx0
  have BX1 := Lib.hid bx1
  have BX2 := Lib.hid bx2
  have BX3 := Lib.hid bx3
  clear bx0 bx1 bx2 bx3
  refine sK fun K hK => ?_
  refine wp_region_plan 65 [] [] (fun _ => 0) (fun _ => .cells #[] 0) [(true, 0), (true, 1), (true, 3), (true, 4), (true, 2), (true, 5), (true, 6), (true, 7), (true, 8), (true, 9), (true, 11), (true, 12), (true, 10), (true, 13), (true, 14), (true, 15), (true, 16), (true, 17), (true, 18), (true, 20), (true, 22), (true, 23), (true, 24), (true, 19), (true, 21), (true, 25), (true, 26), (true, 27), (true, 28), (true, 29), (true, 30), (true, 31), (true, 33), (true, 35), (true, 36), (true, 37), (true, 32), (true, 34), (true, 38), (true, 39), (true, 40), (true, 41), (true, 42), (true, 43), (true, 44), (true, 45), (true, 48), (true, 49), (true, 51), (true, 52), (true, 46), (true, 47), (true, 50), (true, 53), (true, 54), (true, 55), (true, 56), (true, 57), (true, 58), (true, 59), (true, 60), (true, 61), (true, 62), (true, 63), (true, 64)] (by kernel_rfl) (by kernel_rfl) (fun i hi => by cases hi) (fun i hi => by cases hi) (fun _ _ _ _ _ h => h) (fun T hT => ?_)
  iterate 4 (refine wpPlan_takeL (v := ?_) rfl (by rfl) (fun w' hw => ?_) ?_; rotate_left; go_simp; with_reducible rfl; simp only [Act.put, rA, rB, rC])
  refine wpPlan_callL rfl (by rfl) Tryd.call18 (fun w' hw => nzadd (a) (b) (u1) _ HZ3.out (by omega) (by omega)) (by rfl) ?_
  simp only [Act.put, rA, rB, rC]
  refine wpPlan_callL rfl (by rfl) Tryd.call18 (fun w' hw => nzadd (b) (a) (u1) _ HZ4.out (by omega) (by omega)) (by rfl) ?_
  simp only [Act.put, rA, rB, rC]
  iterate 6 (refine wpPlan_takeL (v := ?_) rfl (by rfl) (fun w' hw => ?_) ?_; rotate_left; go_simp; with_reducible rfl; simp only [Act.put, rA, rB, rC])
  refine wpPlan_callL rfl (by rfl) Tryd.call23 (fun w' hw => nzmul (a) (b) (u5) _ HZ5.out (by omega) (by omega)) (by rfl) ?_
  simp only [Act.put, rA, rB, rC]
  refine wpPlan_callL rfl (by rfl) Tryd.call23 (fun w' hw => nzmul (b) (a) (u5) _ HZ6.out (by omega) (by omega)) (by rfl) ?_
  simp only [Act.put, rA, rB, rC]
  iterate 9 (refine wpPlan_takeL (v := ?_) rfl (by rfl) (fun w' hw => ?_) ?_; rotate_left; go_simp; with_reducible rfl; simp only [Act.put, rA, rB, rC])
  refine wpPlan_callL rfl (by rfl) Tryd.call18 (fun w' hw => nzadd (a) (b) (u1) _ HZ7.out (by omega) (by omega)) (by rfl) ?_
  simp only [Act.put, rA, rB, rC]
  refine wpPlan_callL rfl (by rfl) Tryd.call18 (fun w' hw => nzadd (u1) (c) (u8) _ HZ8.out (by omega) (by omega)) (by rfl) ?_
  simp only [Act.put, rA, rB, rC]
  refine wpPlan_callL rfl (by rfl) Tryd.call18 (fun w' hw => nzadd (b) (c) (u9) _ HZ9.out (by omega) (by omega)) (by rfl) ?_
  simp only [Act.put, rA, rB, rC]
  refine wpPlan_callL rfl (by rfl) Tryd.call18 (fun w' hw => nzadd (a) (u9) (u8) _ HZ10.out (by omega) (by omega)) (by rfl) ?_
  simp only [Act.put, rA, rB, rC]
  iterate 9 (refine wpPlan_takeL (v := ?_) rfl (by rfl) (fun w' hw => ?_) ?_; rotate_left; go_simp; with_reducible rfl; simp only [Act.put, rA, rB, rC])
  refine wpPlan_callL rfl (by rfl) Tryd.call23 (fun w' hw => nzmul (a) (b) (u5) _ HZ11.out (by omega) (by omega)) (by rfl) ?_
  simp only [Act.put, rA, rB, rC]
  refine wpPlan_callL rfl (by rfl) Tryd.call23 (fun w' hw => nzmul (u5) (c) (u12) _ HZ12.out (by omega) (by omega)) (by rfl) ?_
  simp only [Act.put, rA, rB, rC]
  refine wpPlan_callL rfl (by rfl) Tryd.call23 (fun w' hw => nzmul (b) (c) (u13) _ HZ13.out (by omega) (by omega)) (by rfl) ?_
  simp only [Act.put, rA, rB, rC]
  refine wpPlan_callL rfl (by rfl) Tryd.call23 (fun w' hw => nzmul (a) (u13) (u12) _ HZ14.out (by omega) (by omega)) (by rfl) ?_
  simp only [Act.put, rA, rB, rC]
  iterate 10 (refine wpPlan_takeL (v := ?_) rfl (by rfl) (fun w' hw => ?_) ?_; rotate_left; go_simp; with_reducible rfl; simp only [Act.put, rA, rB, rC])
  refine wpPlan_callL rfl (by rfl) Tryd.call18 (fun w' hw => nzadd (b) (c) (u9) _ HZ15.out (by omega) (by omega)) (by rfl) ?_
  simp only [Act.put, rA, rB, rC]
  refine wpPlan_callL rfl (by rfl) Tryd.call23 (fun w' hw => nzmul (a) (u9) (u16) _ HZ16.out (by omega) (by omega)) (by rfl) ?_
  simp only [Act.put, rA, rB, rC]
  refine wpPlan_callL rfl (by rfl) Tryd.call23 (fun w' hw => nzmul (a) (b) (u5) _ HZ17.out (by omega) (by omega)) (by rfl) ?_
  simp only [Act.put, rA, rB, rC]
  refine wpPlan_callL rfl (by rfl) Tryd.call23 (fun w' hw => nzmul (a) (c) (u18) _ HZ18.out (by omega) (by omega)) (by rfl) ?_
  simp only [Act.put, rA, rB, rC]
  refine wpPlan_callL rfl (by rfl) Tryd.call18 (fun w' hw => nzadd (u5) (u18) (u16) _ HZ19.out (by omega) (by omega)) (by rfl) ?_
  simp only [Act.put, rA, rB, rC]
  iterate 10 (refine wpPlan_takeL (v := ?_) rfl (by rfl) (fun w' hw => ?_) ?_; rotate_left; go_simp; with_reducible rfl; simp only [Act.put, rA, rB, rC])
  refine wpPlan_nil (hT.out _ _ ?_); clear hT T
  intro G vw4 hg hf
  simp only [puts, Act.put, List.setIfInBounds_toArray, List.set_cons_zero, List.set_cons_succ, List.drop_succ_cons, List.drop_zero, ↓reduceIte, Nat.reduceEqDiff, List.append_eq, List.cons_append, List.nil_append]
  clear lx0 lx1 lx2 lx3
  have HG := Lib.hid (hg)
  clear hg
  replace BX0 := bG BX0 HG
  replace BX1 := bG BX1 HG
  replace BX2 := bG BX2 HG
  replace BX3 := bG BX3 HG
  have r0 := Gr.refl vw4
  go_wp2
  refine hK.out _ _ ?_; clear hK K
  show Code.wp _ _ _ _ _
  clear r0
  refine forgetW (fun w2 => NX w2 gx0 (a) ∧ NX w2 gx1 (b) ∧ NX w2 gx2 (c) ∧ Below w.heap.size w w2) ⟨BX0.out, BX1.out, BX2.out, HB.out.trans (HG.out.mono HB.out.size)⟩ ?_
  clear HB HG BX0 BX1 BX2 BX3
  rintro Wx5 ⟨bx0, bx1, bx2, HB⟩
  replace HB := Lib.hid HB
  refine wp_cond_false (by rfl) ?_
  refine wp_skip ?_
  show Code.wp _ _ _ _ _
  have BX0 := Lib.hid bx0
  have BX1 := Lib.hid bx1
  have BX2 := Lib.hid bx2
  clear bx0 bx1 bx2
  refine sK fun K hK => ?_
  refine wp_region_seqplan 0 [] (by rfl) (by simp) (fun T hT => ?_)
  refine wpPlan_nil (hT.out _ _ ?_); clear hT T
  intro vw5 hg
  simp only [puts, Act.put, rA, rB, rC, rD, rE, ↓reduceIte, Nat.reduceEqDiff]
  have HG := Lib.hid (hg)
  clear hg
  replace BX0 := bG BX0 HG
  replace BX1 := bG BX1 HG
  replace BX2 := bG BX2 HG
  have r0 := Gr.refl vw5
  go_wp2
  refine hK.out _ _ ?_; clear hK K
  show Code.wp _ _ _ _ _
  clear r0
  have hsz : w.heap.size ≤ vw5.heap.size := Nat.le_trans HB.out.size HG.out.size
  have mx0 : gx0 < vw5.heap.size := BX0.out.lt
  have mx1 : gx1 < vw5.heap.size := BX1.out.lt
  have mx2 : gx2 < vw5.heap.size := BX2.out.lt
  refine forgetW (fun w2 => NX w2 gx0 (a) ∧ NX w2 gx1 (b) ∧ NX w2 gx2 (c) ∧ Bx w2 (vw5.heap.size) 26 #[.int .u64 0, .string ⟨#[]⟩] ∧ Below w.heap.size w w2) ⟨(BX0.out).alloc _, (BX1.out).alloc _, (BX2.out).alloc _, (Bx.at (by simp) : Bx _ (vw5.heap.size) _ _), (HB.out.trans (HG.out.mono HB.out.size)).alloc (by first | omega | (simp; omega)) _⟩ ?_
  clear HB HG BX0 BX1 BX2
  rintro Wx7 ⟨bx0, bx1, bx2, bx4, HB⟩
  replace HB := Lib.hid HB
  have yx4 : w.heap.size ≤ vw5.heap.size := by omega
  have qx0_4 : gx0 < vw5.heap.size := by omega
  have qx1_4 : gx1 < vw5.heap.size := by omega
  have qx2_4 : gx2 < vw5.heap.size := by omega
  generalize hx4 : vw5.heap.size = gx4 at *
  clear hx4
  clear hsz mx0 mx1 mx2
  refine wp_seq ?_
  rcases tri a b with hlt | heq | hgt
  · -- region 8
    have HZ20 : Hid ((a) + (0) = a) := Lib.hid (by first | omega | (try simp only [← HZ18.out, ← HZ16.out, ← HZ13.out, ← HZ12.out, ← HZ9.out, ← HZ8.out, ← HZ5.out, ← HZ1.out]) <;> first | rfl | omega | (simp; done) | exact Nat.mul_assoc _ _ _ | exact Nat.add_assoc _ _ _ | grind)
    have su20 : wl (a) ≤ 17 := by have e := HZ20.out; first | omega | (rw [← e]; have := wl_add (a) (0); omega)
    have su_0_8 : wl 1 ≤ 1 := wl_le.2 (by decide +kernel)
    have HZ21 : Hid ((a) * (1) = a) := Lib.hid (by first | omega | (try simp only [← HZ18.out, ← HZ16.out, ← HZ13.out, ← HZ12.out, ← HZ9.out, ← HZ8.out, ← HZ5.out, ← HZ1.out]) <;> first | rfl | omega | (simp; done) | exact Nat.mul_assoc _ _ _ | exact Nat.add_assoc _ _ _ | grind)
    have su21 : wl (a) ≤ 17 := by have e := HZ21.out; first | omega | (rw [← e]; have := wl_mul (a) (1); omega)
    have HZ22 : Hid ((a) * (0) = 0) := Lib.hid (by first | omega | (try simp only [← HZ18.out, ← HZ16.out, ← HZ13.out, ← HZ12.out, ← HZ9.out, ← HZ8.out, ← HZ5.out, ← HZ1.out]) <;> first | rfl | omega | (simp; done) | exact Nat.mul_assoc _ _ _ | exact Nat.add_assoc _ _ _ | grind)
    have su22 : wl (0) ≤ 17 := by have e := HZ22.out; first | omega | (rw [← e]; have := wl_mul (a) (0); omega) | exact wl_le.2 (by decide +kernel)
    obtain ⟨u23, HZ23⟩ : ∃ z, Hid ((a) + (c) = z) := ⟨_, Lib.hid rfl⟩
    have su23 : wl (u23) ≤ 17 := by rw [← HZ23.out]; have := wl_add (a) (c); omega
    have HZ24 : Hid ((b) + (c) = u9) := Lib.hid (by first | omega | (try simp only [← HZ23.out, ← HZ18.out, ← HZ16.out, ← HZ13.out, ← HZ12.out, ← HZ9.out, ← HZ8.out, ← HZ5.out, ← HZ1.out]) <;> first | rfl | omega | (simp; done) | exact Nat.mul_assoc _ _ _ | exact Nat.add_assoc _ _ _ | grind)
    have su24 : wl (u9) ≤ 17 := by have e := HZ24.out; first | omega | (rw [← e]; have := wl_add (b) (c); omega)
    have lx0 := bx0.cells
    have lx1 := bx1.cells
    have lx2 := bx2.cells
    have lx4 := bx4.cells
    have BX0 := Lib.hid bx0
    have BX1 := Lib.hid bx1
    have BX2 := Lib.hid bx2
    have BX4 := Lib.hid bx4
    clear bx0 bx1 bx2 bx4
    refine sK fun K hK => ?_
    refine wp_region_plan 41 [] [] (fun _ => 0) (fun _ => .cells #[] 0) [(true, 0), (true, 1), (true, 3), (true, 2), (true, 4), (true, 5), (true, 6), (true, 9), (true, 7), (true, 8), (true, 10), (true, 11), (true, 12), (true, 13), (true, 14), (true, 16), (true, 15), (true, 17), (true, 18), (true, 19), (true, 20), (true, 21), (true, 23), (true, 24), (true, 22), (true, 25), (true, 26), (true, 27), (true, 28), (true, 29), (true, 30), (true, 31), (true, 33), (true, 34), (true, 37), (true, 38), (true, 32), (true, 35), (true, 36), (true, 39), (true, 40)] (by kernel_rfl) (by kernel_rfl) (fun i hi => by cases hi) (fun i hi => by cases hi) (fun _ _ _ _ _ h => h) (fun T hT => ?_)
    iterate 3 (refine wpPlan_takeL (v := ?_) rfl (by rfl) (fun w' hw => ?_) ?_; rotate_left; go_simp; with_reducible rfl; simp only [Act.put, rA, rB, rC])
    refine wpPlan_callL rfl (by rfl) Tryd.call18 (fun w' hw => nzadd (a) (0) (a) _ HZ20.out (by omega) (by omega)) (by rfl) ?_
    simp only [Act.put, rA, rB, rC]
    iterate 4 (refine wpPlan_takeL (v := ?_) rfl (by rfl) (fun w' hw => ?_) ?_; rotate_left; go_simp; with_reducible rfl; simp only [Act.put, rA, rB, rC])
    refine wpPlan_callL rfl (by rfl) Tryd.call38 (fun w' hw => nzof 1 _ (by decide)) (by rfl) ?_
    simp only [Act.put, rA, rB, rC]
    refine wpPlan_callL rfl (by rfl) Tryd.call23 (fun w' hw => nzmul (a) (1) (a) _ HZ21.out (by omega) (by omega)) (by rfl) ?_
    simp only [Act.put, rA, rB, rC]
    iterate 6 (refine wpPlan_takeL (v := ?_) rfl (by rfl) (fun w' hw => ?_) ?_; rotate_left; go_simp; with_reducible rfl; simp only [Act.put, rA, rB, rC])
    refine wpPlan_callL rfl (by rfl) Tryd.call23 (fun w' hw => nzmul (a) (0) (0) _ HZ22.out (by omega) (by omega)) (by rfl) ?_
    simp only [Act.put, rA, rB, rC]
    iterate 7 (refine wpPlan_takeL (v := ?_) rfl (by rfl) (fun w' hw => ?_) ?_; rotate_left; go_simp; with_reducible rfl; simp only [Act.put, rA, rB, rC])
    refine wpPlan_callL rfl (by rfl) Tryd.call20 (fun w' hw => nzcmp (a) (b) (-1) _ (cmpI_lt (by have e : (a) < (b) := (by omega); first | exact e | omega)) (by omega) (by omega)) (by rfl) ?_
    simp only [Act.put, rA, rB, rC]
    refine wpPlan_callL rfl (by rfl) Tryd.call20 (fun w' hw => nzcmp (b) (a) (1) _ (cmpI_gt (by have e : (b) > (a) := (by omega); first | exact e | omega)) (by omega) (by omega)) (by rfl) ?_
    simp only [Act.put, rA, rB, rC]
    refine wpPlan_takeL (v := ?_) rfl (by rfl) (fun w' hw => ?_) ?_
    rotate_left
    · go_simp
      with_reducible rfl
    simp only [Act.put, rA, rB, rC]
    iterate 9 (refine wpPlan_takeL (v := ?_) rfl (by rfl) (fun w' hw => ?_) ?_; rotate_left; go_simp; with_reducible rfl; simp only [Act.put, rA, rB, rC])
    refine wpPlan_callL rfl (by rfl) Tryd.call18 (fun w' hw => nzadd (a) (c) (u23) _ HZ23.out (by omega) (by omega)) (by rfl) ?_
    simp only [Act.put, rA, rB, rC]
    refine wpPlan_callL rfl (by rfl) Tryd.call18 (fun w' hw => nzadd (b) (c) (u9) _ HZ24.out (by omega) (by omega)) (by rfl) ?_
    simp only [Act.put, rA, rB, rC]
    refine wpPlan_callL rfl (by rfl) Tryd.call20 (fun w' hw => nzcmp (u23) (u9) (-1) _ (cmpI_lt (by have e : (u23) < (u9) := (by simp only [← HZ23.out, ← HZ18.out, ← HZ16.out, ← HZ13.out, ← HZ12.out, ← HZ9.out, ← HZ8.out, ← HZ5.out, ← HZ1.out]; omega); first | exact e | omega)) (by omega) (by omega)) (by rfl) ?_
    simp only [Act.put, rA, rB, rC]
    refine wpPlan_callL rfl (by rfl) Tryd.call20 (fun w' hw => nzcmp (a) (b) (-1) _ (cmpI_lt (by have e : (a) < (b) := (by omega); first | exact e | omega)) (by omega) (by omega)) (by rfl) ?_
    simp only [Act.put, rA, rB, rC]
    refine wpPlan_takeL (v := ?_) rfl (by rfl) (fun w' hw => ?_) ?_; rotate_left; go_simp; with_reducible rfl; simp only [Act.put, rA, rB, rC]
    refine wpPlan_nil (hT.out _ _ ?_); clear hT T
    intro G vw6 hg hf
    simp only [puts, Act.put, rA, rB, rC, rD, rE, ↓reduceIte, Nat.reduceEqDiff]
    clear lx0 lx1 lx2 lx4
    have HG := Lib.hid (hg)
    clear hg
    replace BX0 := bG BX0 HG
    replace BX1 := bG BX1 HG
    replace BX2 := bG BX2 HG
    replace BX4 := bG BX4 HG
    have r0 := Gr.refl vw6
    go_wp2
    refine hK.out _ _ ?_; clear hK K
    show Code.wp _ _ _ _ _
    clear r0
    refine forgetW (fun w2 => NX w2 gx0 (a) ∧ Below w.heap.size w w2) ⟨BX0.out, HB.out.trans (HG.out.mono HB.out.size)⟩ ?_
    clear HB HG BX0 BX1 BX2 BX4
    rintro Wx8 ⟨bx0, HB⟩
    replace HB := Lib.hid HB
    refine wp_cond_false (by rfl) ?_
    refine wp_skip ?_
    show Code.wp _ _ _ _ _
    rcases Nat.lt_or_ge a 18446744073709551616 with hsm | hsm
    · -- region 10
      have lx0 := bx0.cells
      have BX0 := Lib.hid bx0
      clear bx0
      refine sK fun K hK => ?_
      refine wp_region_seqplan 7 [(true, 0), (true, 1), (true, 2), (true, 3), (true, 4), (true, 5), (true, 6)] (by rfl) (by simp) (fun T hT => ?_)
      refine wpPlan_takeL (v := ?_) rfl (by rfl) (fun w' hw => ?_) ?_; rotate_left; go_simp; with_reducible rfl; simp only [Act.put, rA, rB, rC]
      refine wpPlan_callL rfl (by rfl) Tryd.call39 (fun w' hw => nzu64 (a) (a) _ rfl (by first | omega | (try simp only [← HZ23.out, ← HZ18.out, ← HZ16.out, ← HZ13.out, ← HZ12.out, ← HZ9.out, ← HZ8.out, ← HZ5.out, ← HZ1.out]) <;> first | rfl | omega | (simp; done) | exact Nat.mul_assoc _ _ _ | exact Nat.add_assoc _ _ _ | grind)) (by rfl) ?_
      simp only [Act.put, rA, rB, rC]
      iterate 5 (refine wpPlan_takeL (v := ?_) rfl (by rfl) (fun w' hw => ?_) ?_; rotate_left; go_simp; with_reducible rfl; simp only [Act.put, rA, rB, rC])
      refine wpPlan_nil (hT.out _ _ ?_); clear hT T
      intro vw7 hg
      simp only [puts, Act.put, rA, rB, rC, rD, rE, ↓reduceIte, Nat.reduceEqDiff]
      clear lx0
      have HG := Lib.hid (hg)
      clear hg
      replace BX0 := bG BX0 HG
      have r0 := Gr.refl vw7
      go_wp2
      refine hK.out _ _ ?_; clear hK K
      show Code.wp _ _ _ _ _
      clear r0
      refine forgetW (fun w2 => NX w2 gx0 (a) ∧ Below w.heap.size w w2) ⟨BX0.out, HB.out.trans (HG.out.mono HB.out.size)⟩ ?_
      clear HB HG BX0
      rintro Wx10 ⟨bx0, HB⟩
      replace HB := Lib.hid HB
      have su_1_11 : wl 2 ≤ 1 := wl_le.2 (by decide +kernel)
      have HZ25 : Hid ((2) ^ 64 = 18446744073709551616) := Lib.hid (by decide +kernel)
      have su25 : wl (18446744073709551616) ≤ 3 := wl_le.2 (by decide +kernel)
      have BX0 := Lib.hid bx0
      clear bx0
      refine sK fun K hK => ?_
      refine wp_region_seqplan 5 [(true, 0), (true, 1), (true, 2), (true, 3), (true, 4)] (by rfl) (by simp) (fun T hT => ?_)
      refine wpPlan_callL rfl (by rfl) Tryd.call38 (fun w' hw => nzof 2 _ (by decide)) (by rfl) ?_
      simp only [Act.put, rA, rB, rC]
      refine wpPlan_callL rfl (by rfl) Tryd.call32 (fun w' hw => nzpow (2) 64 (18446744073709551616) _ HZ25.out (by decide) (by decide +kernel) (by omega)) (by rfl) ?_
      simp only [Act.put, rA, rB, rC]
      iterate 3 (refine wpPlan_takeL (v := ?_) rfl (by rfl) (fun w' hw => ?_) ?_; rotate_left; go_simp; with_reducible rfl; simp only [Act.put, rA, rB, rC])
      refine wpPlan_nil (hT.out _ _ ?_); clear hT T
      intro vw8 hg
      simp only [puts, Act.put, rA, rB, rC, rD, rE, ↓reduceIte, Nat.reduceEqDiff]
      have HG := Lib.hid (hg)
      clear hg
      replace BX0 := bG BX0 HG
      have r0 := Gr.refl vw8
      go_wp2
      refine hK.out _ _ ?_; clear hK K
      show Code.wp _ _ _ _ _
      clear r0
      have hsz : w.heap.size ≤ vw8.heap.size := Nat.le_trans HB.out.size HG.out.size
      have mx0 : gx0 < vw8.heap.size := BX0.out.lt
      refine forgetW (fun w2 => NX w2 gx0 (a) ∧ NX w2 (vw8.heap.size) (18446744073709551616) ∧ Below w.heap.size w w2) ⟨(BX0.out).alloc _, (Bx.at (by simp) : Bx _ (vw8.heap.size) _ _), (HB.out.trans (HG.out.mono HB.out.size)).alloc (by first | omega | (simp; omega)) _⟩ ?_
      clear HB HG BX0
      rintro Wx11 ⟨bx0, bx5, HB⟩
      replace HB := Lib.hid HB
      have yx5 : w.heap.size ≤ vw8.heap.size := by omega
      have qx0_5 : gx0 < vw8.heap.size := by omega
      generalize hx5 : vw8.heap.size = gx5 at *
      clear hx5
      clear hsz mx0
      have lx0 := bx0.cells
      have lx5 := bx5.cells
      have BX0 := Lib.hid bx0
      have BX5 := Lib.hid bx5
      clear bx0 bx5
      refine sK fun K hK => ?_
      refine wp_region_plan 26 [] [] (fun _ => 0) (fun _ => .cells #[] 0) [(true, 0), (true, 1), (true, 2), (true, 3), (true, 4), (true, 5), (true, 6), (true, 7), (true, 8), (true, 9), (true, 10), (true, 11), (true, 12), (true, 13), (true, 14), (true, 15), (true, 16), (true, 18), (true, 17), (true, 19), (true, 20), (true, 21), (true, 22), (true, 23), (true, 24), (true, 25)] (by kernel_rfl) (by kernel_rfl) (fun i hi => by cases hi) (fun i hi => by cases hi) (fun _ _ _ _ _ h => h) (fun T hT => ?_)
      iterate 3 (refine wpPlan_takeL (v := ?_) rfl (by rfl) (fun w' hw => ?_) ?_; rotate_left; go_simp; with_reducible rfl; simp only [Act.put, rA, rB, rC])
      refine wpPlan_callL rfl (by rfl) Tryd.call20 (fun w' hw => nzcmp (a) (18446744073709551616) (-1) _ (cmpI_lt (by have e : (a) < (18446744073709551616) := (by omega); first | exact e | omega)) (by omega) (by omega)) (by rfl) ?_
      simp only [Act.put, rA, rB, rC]
      iterate 6 (refine wpPlan_takeL (v := ?_) rfl (by rfl) (fun w' hw => ?_) ?_; rotate_left; go_simp; with_reducible rfl; simp only [Act.put, rA, rB, rC])
      iterate 2 (refine wpPlan_skipL rfl (by rfl) ?_; simp only [Act.put, rA, rB, rC])
      iterate 6 (refine wpPlan_takeL (v := ?_) rfl (by rfl) (fun w' hw => ?_) ?_; rotate_left; go_simp; with_reducible rfl; simp only [Act.put, rA, rB, rC])
      refine wpPlan_callL rfl (by rfl) Tryd.call38 (fun w' hw => nzof (a) _ (by first | omega | (try simp only [← HZ23.out, ← HZ18.out, ← HZ16.out, ← HZ13.out, ← HZ12.out, ← HZ9.out, ← HZ8.out, ← HZ5.out, ← HZ1.out]) <;> first | rfl | omega | (simp; done) | exact Nat.mul_assoc _ _ _ | exact Nat.add_assoc _ _ _ | grind)) (by rfl) ?_
      simp only [Act.put, rA, rB, rC]
      iterate 5 (refine wpPlan_takeL (v := ?_) rfl (by rfl) (fun w' hw => ?_) ?_; rotate_left; go_simp; with_reducible rfl; simp only [Act.put, rA, rB, rC])
      refine wpPlan_callL rfl (by rfl) Tryd.call12 (fun w' hw => works_any _ (Lib.hid (HT.out.gr (Gr.trans HB.out hw)))) (by rfl) ?_
      simp only [Act.put, rA, rB, rC]
      refine wpPlan_takeL (v := ?_) rfl (by rfl) (fun w' hw => ?_) ?_; rotate_left; go_simp; with_reducible rfl; simp only [Act.put, rA, rB, rC]
      refine wpPlan_nil (hT.out _ _ ?_); clear hT T
      intro G vw9 hg hf
      simp only [puts, Act.put, rA, rB, rC, rD, rE, ↓reduceIte, Nat.reduceEqDiff]
      clear lx0 lx5
      have HG := Lib.hid (hg)
      clear hg
      replace BX0 := bG BX0 HG
      replace BX5 := bG BX5 HG
      have r0 := Gr.refl vw9
      go_wp2
      refine hK.out _ _ ?_; clear hK K
      show Code.wp _ _ _ _ _
      clear r0
      refine forgetW (fun w2 => Below w.heap.size w w2) (HB.out.trans (HG.out.mono HB.out.size)) ?_
      clear HB HG BX0 BX5
      rintro Wx12 HB
      replace HB := Lib.hid HB
      refine wp_ret ?_
      try simp only [Exit.then, Exit.inBlock]
      have r0 := Gr.refl Wx12
      exact bodyPost_ret (v := .bool true) (by simp [results, Tryd.results10, go_sem]) rfl ⟨rfl, HB.out⟩

    · -- region 10
      have lx0 := bx0.cells
      have BX0 := Lib.hid bx0
      clear bx0
      refine sK fun K hK => ?_
      refine wp_region_seqplan 7 [(true, 0), (true, 1), (true, 2), (true, 3), (true, 4), (true, 5), (true, 6)] (by rfl) (by simp) (fun T hT => ?_)
      refine wpPlan_takeL (v := ?_) rfl (by rfl) (fun w' hw => ?_) ?_; rotate_left; go_simp; with_reducible rfl; simp only [Act.put, rA, rB, rC]
      refine wpPlan_callL rfl (by rfl) Tryd.call39 (fun w' hw => nzu64no (a) _ (by first | omega | (try simp only [← HZ23.out, ← HZ18.out, ← HZ16.out, ← HZ13.out, ← HZ12.out, ← HZ9.out, ← HZ8.out, ← HZ5.out, ← HZ1.out]) <;> first | rfl | omega | (simp; done) | exact Nat.mul_assoc _ _ _ | exact Nat.add_assoc _ _ _ | grind)) (by rfl) ?_
      simp only [Act.put, rA, rB, rC]
      iterate 5 (refine wpPlan_takeL (v := ?_) rfl (by rfl) (fun w' hw => ?_) ?_; rotate_left; go_simp; with_reducible rfl; simp only [Act.put, rA, rB, rC])
      refine wpPlan_nil (hT.out _ _ ?_); clear hT T
      intro vw7 hg
      simp only [puts, Act.put, rA, rB, rC, rD, rE, ↓reduceIte, Nat.reduceEqDiff]
      clear lx0
      have HG := Lib.hid (hg)
      clear hg
      replace BX0 := bG BX0 HG
      have r0 := Gr.refl vw7
      go_wp2
      refine hK.out _ _ ?_; clear hK K
      show Code.wp _ _ _ _ _
      clear r0
      refine forgetW (fun w2 => NX w2 gx0 (a) ∧ Below w.heap.size w w2) ⟨BX0.out, HB.out.trans (HG.out.mono HB.out.size)⟩ ?_
      clear HB HG BX0
      rintro Wx10 ⟨bx0, HB⟩
      replace HB := Lib.hid HB
      have su_1_11 : wl 2 ≤ 1 := wl_le.2 (by decide +kernel)
      have HZ25 : Hid ((2) ^ 64 = 18446744073709551616) := Lib.hid (by decide +kernel)
      have su25 : wl (18446744073709551616) ≤ 3 := wl_le.2 (by decide +kernel)
      have BX0 := Lib.hid bx0
      clear bx0
      refine sK fun K hK => ?_
      refine wp_region_seqplan 5 [(true, 0), (true, 1), (true, 2), (true, 3), (true, 4)] (by rfl) (by simp) (fun T hT => ?_)
      refine wpPlan_callL rfl (by rfl) Tryd.call38 (fun w' hw => nzof 2 _ (by decide)) (by rfl) ?_
      simp only [Act.put, rA, rB, rC]
      refine wpPlan_callL rfl (by rfl) Tryd.call32 (fun w' hw => nzpow (2) 64 (18446744073709551616) _ HZ25.out (by decide) (by decide +kernel) (by omega)) (by rfl) ?_
      simp only [Act.put, rA, rB, rC]
      iterate 3 (refine wpPlan_takeL (v := ?_) rfl (by rfl) (fun w' hw => ?_) ?_; rotate_left; go_simp; with_reducible rfl; simp only [Act.put, rA, rB, rC])
      refine wpPlan_nil (hT.out _ _ ?_); clear hT T
      intro vw8 hg
      simp only [puts, Act.put, rA, rB, rC, rD, rE, ↓reduceIte, Nat.reduceEqDiff]
      have HG := Lib.hid (hg)
      clear hg
      replace BX0 := bG BX0 HG
      have r0 := Gr.refl vw8
      go_wp2
      refine hK.out _ _ ?_; clear hK K
      show Code.wp _ _ _ _ _
      clear r0
      have hsz : w.heap.size ≤ vw8.heap.size := Nat.le_trans HB.out.size HG.out.size
      have mx0 : gx0 < vw8.heap.size := BX0.out.lt
      refine forgetW (fun w2 => NX w2 gx0 (a) ∧ NX w2 (vw8.heap.size) (18446744073709551616) ∧ Below w.heap.size w w2) ⟨(BX0.out).alloc _, (Bx.at (by simp) : Bx _ (vw8.heap.size) _ _), (HB.out.trans (HG.out.mono HB.out.size)).alloc (by first | omega | (simp; omega)) _⟩ ?_
      clear HB HG BX0
      rintro Wx11 ⟨bx0, bx5, HB⟩
      replace HB := Lib.hid HB
      have yx5 : w.heap.size ≤ vw8.heap.size := by omega
      have qx0_5 : gx0 < vw8.heap.size := by omega
      generalize hx5 : vw8.heap.size = gx5 at *
      clear hx5
      clear hsz mx0
      obtain ⟨c26, HC26⟩ : ∃ c, Hid (cmpI (a : Nat) (18446744073709551616 : Nat) = c) := ⟨_, Lib.hid rfl⟩
      have hc26 : ¬ c26 < 0 := by rw [← HC26.out]; exact cmpI_nonneg (by have e : (18446744073709551616) ≤ (a) := (by omega); omega)
      have hd4 : ¬ (c26 < 0) := by omega
      have lx0 := bx0.cells
      have lx5 := bx5.cells
      have BX0 := Lib.hid bx0
      have BX5 := Lib.hid bx5
      clear bx0 bx5
      refine sK fun K hK => ?_
      refine wp_region_plan 26 [] [] (fun _ => 0) (fun _ => .cells #[] 0) [(true, 0), (true, 1), (true, 2), (true, 3), (true, 4), (true, 5), (true, 6), (true, 7), (true, 8), (true, 9), (true, 10), (true, 11), (true, 12), (true, 13), (true, 14), (true, 15), (true, 16), (true, 18), (true, 17), (true, 19), (true, 20), (true, 21), (true, 22), (true, 23), (true, 24), (true, 25)] (by kernel_rfl) (by kernel_rfl) (fun i hi => by cases hi) (fun i hi => by cases hi) (fun _ _ _ _ _ h => h) (fun T hT => ?_)
      iterate 3 (refine wpPlan_takeL (v := ?_) rfl (by rfl) (fun w' hw => ?_) ?_; rotate_left; go_simp; with_reducible rfl; simp only [Act.put, rA, rB, rC])
      refine wpPlan_callL rfl (by rfl) Tryd.call20 (fun w' hw => nzcmp (a) (18446744073709551616) (c26) _ (HC26.out) (by omega) (by omega)) (by rfl) ?_
      simp only [Act.put, rA, rB, rC]
      iterate 10 (refine wpPlan_takeL (v := ?_) rfl (by rfl) (fun w' hw => ?_) ?_; rotate_left; go_simp; with_reducible rfl; simp only [Act.put, rA, rB, rC])
      iterate 7 (refine wpPlan_skipL rfl (by rfl) ?_; simp only [Act.put, rA, rB, rC])
      iterate 3 (refine wpPlan_takeL (v := ?_) rfl (by rfl) (fun w' hw => ?_) ?_; rotate_left; go_simp; with_reducible rfl; simp only [Act.put, rA, rB, rC])
      refine wpPlan_callL rfl (by rfl) Tryd.call12 (fun w' hw => works_any _ (Lib.hid (HT.out.gr (Gr.trans HB.out hw)))) (by rfl) ?_
      simp only [Act.put, rA, rB, rC]
      refine wpPlan_takeL (v := ?_) rfl (by rfl) (fun w' hw => ?_) ?_; rotate_left; go_simp; with_reducible rfl; simp only [Act.put, rA, rB, rC]
      refine wpPlan_nil (hT.out _ _ ?_); clear hT T
      intro G vw9 hg hf
      simp only [puts, Act.put, rA, rB, rC, rD, rE, ↓reduceIte, Nat.reduceEqDiff]
      clear lx0 lx5
      have HG := Lib.hid (hg)
      clear hg
      replace BX0 := bG BX0 HG
      replace BX5 := bG BX5 HG
      have r0 := Gr.refl vw9
      go_wp2
      refine hK.out _ _ ?_; clear hK K
      show Code.wp _ _ _ _ _
      clear r0
      refine forgetW (fun w2 => Below w.heap.size w w2) (HB.out.trans (HG.out.mono HB.out.size)) ?_
      clear HB HG BX0 BX5
      rintro Wx12 HB
      replace HB := Lib.hid HB
      clear hc26 hd4
      refine wp_ret ?_
      try simp only [Exit.then, Exit.inBlock]
      have r0 := Gr.refl Wx12
      exact bodyPost_ret (v := .bool true) (by simp [results, Tryd.results10, go_sem]) rfl ⟨rfl, HB.out⟩

  · -- region 8
    have HZ20 : Hid ((a) + (0) = a) := Lib.hid (by first | omega | (try simp only [← HZ18.out, ← HZ16.out, ← HZ13.out, ← HZ12.out, ← HZ9.out, ← HZ8.out, ← HZ5.out, ← HZ1.out]) <;> first | rfl | omega | (simp; done) | exact Nat.mul_assoc _ _ _ | exact Nat.add_assoc _ _ _ | grind)
    have su20 : wl (a) ≤ 17 := by have e := HZ20.out; first | omega | (rw [← e]; have := wl_add (a) (0); omega)
    have su_0_8 : wl 1 ≤ 1 := wl_le.2 (by decide +kernel)
    have HZ21 : Hid ((a) * (1) = a) := Lib.hid (by first | omega | (try simp only [← HZ18.out, ← HZ16.out, ← HZ13.out, ← HZ12.out, ← HZ9.out, ← HZ8.out, ← HZ5.out, ← HZ1.out]) <;> first | rfl | omega | (simp; done) | exact Nat.mul_assoc _ _ _ | exact Nat.add_assoc _ _ _ | grind)
    have su21 : wl (a) ≤ 17 := by have e := HZ21.out; first | omega | (rw [← e]; have := wl_mul (a) (1); omega)
    have HZ22 : Hid ((a) * (0) = 0) := Lib.hid (by first | omega | (try simp only [← HZ18.out, ← HZ16.out, ← HZ13.out, ← HZ12.out, ← HZ9.out, ← HZ8.out, ← HZ5.out, ← HZ1.out]) <;> first | rfl | omega | (simp; done) | exact Nat.mul_assoc _ _ _ | exact Nat.add_assoc _ _ _ | grind)
    have su22 : wl (0) ≤ 17 := by have e := HZ22.out; first | omega | (rw [← e]; have := wl_mul (a) (0); omega) | exact wl_le.2 (by decide +kernel)
    obtain ⟨u23, HZ23⟩ : ∃ z, Hid ((a) + (c) = z) := ⟨_, Lib.hid rfl⟩
    have su23 : wl (u23) ≤ 17 := by rw [← HZ23.out]; have := wl_add (a) (c); omega
    have HZ24 : Hid ((b) + (c) = u9) := Lib.hid (by first | omega | (try simp only [← HZ23.out, ← HZ18.out, ← HZ16.out, ← HZ13.out, ← HZ12.out, ← HZ9.out, ← HZ8.out, ← HZ5.out, ← HZ1.out]) <;> first | rfl | omega | (simp; done) | exact Nat.mul_assoc _ _ _ | exact Nat.add_assoc _ _ _ | grind)
    have su24 : wl (u9) ≤ 17 := by have e := HZ24.out; first | omega | (rw [← e]; have := wl_add (b) (c); omega)
    have lx0 := bx0.cells
    have lx1 := bx1.cells
    have lx2 := bx2.cells
    have lx4 := bx4.cells
    have BX0 := Lib.hid bx0
    have BX1 := Lib.hid bx1
    have BX2 := Lib.hid bx2
    have BX4 := Lib.hid bx4
    clear bx0 bx1 bx2 bx4
    refine sK fun K hK => ?_
    refine wp_region_plan 41 [] [] (fun _ => 0) (fun _ => .cells #[] 0) [(true, 0), (true, 1), (true, 3), (true, 2), (true, 4), (true, 5), (true, 6), (true, 9), (true, 7), (true, 8), (true, 10), (true, 11), (true, 12), (true, 13), (true, 14), (true, 16), (true, 15), (true, 17), (true, 18), (true, 19), (true, 20), (true, 21), (true, 23), (true, 24), (true, 22), (true, 25), (true, 26), (true, 27), (true, 28), (true, 29), (true, 30), (true, 31), (true, 33), (true, 34), (true, 37), (true, 38), (true, 32), (true, 35), (true, 36), (true, 39), (true, 40)] (by kernel_rfl) (by kernel_rfl) (fun i hi => by cases hi) (fun i hi => by cases hi) (fun _ _ _ _ _ h => h) (fun T hT => ?_)
    iterate 3 (refine wpPlan_takeL (v := ?_) rfl (by rfl) (fun w' hw => ?_) ?_; rotate_left; go_simp; with_reducible rfl; simp only [Act.put, rA, rB, rC])
    refine wpPlan_callL rfl (by rfl) Tryd.call18 (fun w' hw => nzadd (a) (0) (a) _ HZ20.out (by omega) (by omega)) (by rfl) ?_
    simp only [Act.put, rA, rB, rC]
    iterate 4 (refine wpPlan_takeL (v := ?_) rfl (by rfl) (fun w' hw => ?_) ?_; rotate_left; go_simp; with_reducible rfl; simp only [Act.put, rA, rB, rC])
    refine wpPlan_callL rfl (by rfl) Tryd.call38 (fun w' hw => nzof 1 _ (by decide)) (by rfl) ?_
    simp only [Act.put, rA, rB, rC]
    refine wpPlan_callL rfl (by rfl) Tryd.call23 (fun w' hw => nzmul (a) (1) (a) _ HZ21.out (by omega) (by omega)) (by rfl) ?_
    simp only [Act.put, rA, rB, rC]
    iterate 6 (refine wpPlan_takeL (v := ?_) rfl (by rfl) (fun w' hw => ?_) ?_; rotate_left; go_simp; with_reducible rfl; simp only [Act.put, rA, rB, rC])
    refine wpPlan_callL rfl (by rfl) Tryd.call23 (fun w' hw => nzmul (a) (0) (0) _ HZ22.out (by omega) (by omega)) (by rfl) ?_
    simp only [Act.put, rA, rB, rC]
    iterate 7 (refine wpPlan_takeL (v := ?_) rfl (by rfl) (fun w' hw => ?_) ?_; rotate_left; go_simp; with_reducible rfl; simp only [Act.put, rA, rB, rC])
    refine wpPlan_callL rfl (by rfl) Tryd.call20 (fun w' hw => nzcmp (a) (b) (0) _ (cmpI_eq (by have e : (a) = (b) := (by exact heq.out); first | exact e | omega)) (by omega) (by omega)) (by rfl) ?_
    simp only [Act.put, rA, rB, rC]
    refine wpPlan_callL rfl (by rfl) Tryd.call20 (fun w' hw => nzcmp (b) (a) (0) _ (cmpI_eq (by have e : (b) = (a) := (by exact heq.out.symm); first | exact e | omega)) (by omega) (by omega)) (by rfl) ?_
    simp only [Act.put, rA, rB, rC]
    refine wpPlan_takeL (v := ?_) rfl (by rfl) (fun w' hw => ?_) ?_
    rotate_left
    · go_simp
      with_reducible rfl
    simp only [Act.put, rA, rB, rC]
    iterate 9 (refine wpPlan_takeL (v := ?_) rfl (by rfl) (fun w' hw => ?_) ?_; rotate_left; go_simp; with_reducible rfl; simp only [Act.put, rA, rB, rC])
    refine wpPlan_callL rfl (by rfl) Tryd.call18 (fun w' hw => nzadd (a) (c) (u23) _ HZ23.out (by omega) (by omega)) (by rfl) ?_
    simp only [Act.put, rA, rB, rC]
    refine wpPlan_callL rfl (by rfl) Tryd.call18 (fun w' hw => nzadd (b) (c) (u9) _ HZ24.out (by omega) (by omega)) (by rfl) ?_
    simp only [Act.put, rA, rB, rC]
    refine wpPlan_callL rfl (by rfl) Tryd.call20 (fun w' hw => nzcmp (u23) (u9) (0) _ (cmpI_eq (by have e : (u23) = (u9) := (by have e0 := heq.out; simp only [← HZ23.out, ← HZ18.out, ← HZ16.out, ← HZ13.out, ← HZ12.out, ← HZ9.out, ← HZ8.out, ← HZ5.out, ← HZ1.out]; omega); first | exact e | omega)) (by omega) (by omega)) (by rfl) ?_
    simp only [Act.put, rA, rB, rC]
    refine wpPlan_callL rfl (by rfl) Tryd.call20 (fun w' hw => nzcmp (a) (b) (0) _ (cmpI_eq (by have e : (a) = (b) := (by exact heq.out); first | exact e | omega)) (by omega) (by omega)) (by rfl) ?_
    simp only [Act.put, rA, rB, rC]
    refine wpPlan_takeL (v := ?_) rfl (by rfl) (fun w' hw => ?_) ?_; rotate_left; go_simp; with_reducible rfl; simp only [Act.put, rA, rB, rC]
    refine wpPlan_nil (hT.out _ _ ?_); clear hT T
    intro G vw6 hg hf
    simp only [puts, Act.put, rA, rB, rC, rD, rE, ↓reduceIte, Nat.reduceEqDiff]
    clear lx0 lx1 lx2 lx4
    have HG := Lib.hid (hg)
    clear hg
    replace BX0 := bG BX0 HG
    replace BX1 := bG BX1 HG
    replace BX2 := bG BX2 HG
    replace BX4 := bG BX4 HG
    have r0 := Gr.refl vw6
    go_wp2
    refine hK.out _ _ ?_; clear hK K
    show Code.wp _ _ _ _ _
    clear r0
    refine forgetW (fun w2 => NX w2 gx0 (a) ∧ Below w.heap.size w w2) ⟨BX0.out, HB.out.trans (HG.out.mono HB.out.size)⟩ ?_
    clear HB HG BX0 BX1 BX2 BX4
    rintro Wx8 ⟨bx0, HB⟩
    replace HB := Lib.hid HB
    refine wp_cond_false (by rfl) ?_
    refine wp_skip ?_
    show Code.wp _ _ _ _ _
    rcases Nat.lt_or_ge a 18446744073709551616 with hsm | hsm
    · -- region 10
      have lx0 := bx0.cells
      have BX0 := Lib.hid bx0
      clear bx0
      refine sK fun K hK => ?_
      refine wp_region_seqplan 7 [(true, 0), (true, 1), (true, 2), (true, 3), (true, 4), (true, 5), (true, 6)] (by rfl) (by simp) (fun T hT => ?_)
      refine wpPlan_takeL (v := ?_) rfl (by rfl) (fun w' hw => ?_) ?_; rotate_left; go_simp; with_reducible rfl; simp only [Act.put, rA, rB, rC]
      refine wpPlan_callL rfl (by rfl) Tryd.call39 (fun w' hw => nzu64 (a) (a) _ rfl (by first | omega | (try simp only [← HZ23.out, ← HZ18.out, ← HZ16.out, ← HZ13.out, ← HZ12.out, ← HZ9.out, ← HZ8.out, ← HZ5.out, ← HZ1.out]) <;> first | rfl | omega | (simp; done) | exact Nat.mul_assoc _ _ _ | exact Nat.add_assoc _ _ _ | grind)) (by rfl) ?_
      simp only [Act.put, rA, rB, rC]
      iterate 5 (refine wpPlan_takeL (v := ?_) rfl (by rfl) (fun w' hw => ?_) ?_; rotate_left; go_simp; with_reducible rfl; simp only [Act.put, rA, rB, rC])
      refine wpPlan_nil (hT.out _ _ ?_); clear hT T
      intro vw7 hg
      simp only [puts, Act.put, rA, rB, rC, rD, rE, ↓reduceIte, Nat.reduceEqDiff]
      clear lx0
      have HG := Lib.hid (hg)
      clear hg
      replace BX0 := bG BX0 HG
      have r0 := Gr.refl vw7
      go_wp2
      refine hK.out _ _ ?_; clear hK K
      show Code.wp _ _ _ _ _
      clear r0
      refine forgetW (fun w2 => NX w2 gx0 (a) ∧ Below w.heap.size w w2) ⟨BX0.out, HB.out.trans (HG.out.mono HB.out.size)⟩ ?_
      clear HB HG BX0
      rintro Wx10 ⟨bx0, HB⟩
      replace HB := Lib.hid HB
      have su_1_11 : wl 2 ≤ 1 := wl_le.2 (by decide +kernel)
      have HZ25 : Hid ((2) ^ 64 = 18446744073709551616) := Lib.hid (by decide +kernel)
      have su25 : wl (18446744073709551616) ≤ 3 := wl_le.2 (by decide +kernel)
      have BX0 := Lib.hid bx0
      clear bx0
      refine sK fun K hK => ?_
      refine wp_region_seqplan 5 [(true, 0), (true, 1), (true, 2), (true, 3), (true, 4)] (by rfl) (by simp) (fun T hT => ?_)
      refine wpPlan_callL rfl (by rfl) Tryd.call38 (fun w' hw => nzof 2 _ (by decide)) (by rfl) ?_
      simp only [Act.put, rA, rB, rC]
      refine wpPlan_callL rfl (by rfl) Tryd.call32 (fun w' hw => nzpow (2) 64 (18446744073709551616) _ HZ25.out (by decide) (by decide +kernel) (by omega)) (by rfl) ?_
      simp only [Act.put, rA, rB, rC]
      iterate 3 (refine wpPlan_takeL (v := ?_) rfl (by rfl) (fun w' hw => ?_) ?_; rotate_left; go_simp; with_reducible rfl; simp only [Act.put, rA, rB, rC])
      refine wpPlan_nil (hT.out _ _ ?_); clear hT T
      intro vw8 hg
      simp only [puts, Act.put, rA, rB, rC, rD, rE, ↓reduceIte, Nat.reduceEqDiff]
      have HG := Lib.hid (hg)
      clear hg
      replace BX0 := bG BX0 HG
      have r0 := Gr.refl vw8
      go_wp2
      refine hK.out _ _ ?_; clear hK K
      show Code.wp _ _ _ _ _
      clear r0
      have hsz : w.heap.size ≤ vw8.heap.size := Nat.le_trans HB.out.size HG.out.size
      have mx0 : gx0 < vw8.heap.size := BX0.out.lt
      refine forgetW (fun w2 => NX w2 gx0 (a) ∧ NX w2 (vw8.heap.size) (18446744073709551616) ∧ Below w.heap.size w w2) ⟨(BX0.out).alloc _, (Bx.at (by simp) : Bx _ (vw8.heap.size) _ _), (HB.out.trans (HG.out.mono HB.out.size)).alloc (by first | omega | (simp; omega)) _⟩ ?_
      clear HB HG BX0
      rintro Wx11 ⟨bx0, bx5, HB⟩
      replace HB := Lib.hid HB
      have yx5 : w.heap.size ≤ vw8.heap.size := by omega
      have qx0_5 : gx0 < vw8.heap.size := by omega
      generalize hx5 : vw8.heap.size = gx5 at *
      clear hx5
      clear hsz mx0
      have lx0 := bx0.cells
      have lx5 := bx5.cells
      have BX0 := Lib.hid bx0
      have BX5 := Lib.hid bx5
      clear bx0 bx5
      refine sK fun K hK => ?_
      refine wp_region_plan 26 [] [] (fun _ => 0) (fun _ => .cells #[] 0) [(true, 0), (true, 1), (true, 2), (true, 3), (true, 4), (true, 5), (true, 6), (true, 7), (true, 8), (true, 9), (true, 10), (true, 11), (true, 12), (true, 13), (true, 14), (true, 15), (true, 16), (true, 18), (true, 17), (true, 19), (true, 20), (true, 21), (true, 22), (true, 23), (true, 24), (true, 25)] (by kernel_rfl) (by kernel_rfl) (fun i hi => by cases hi) (fun i hi => by cases hi) (fun _ _ _ _ _ h => h) (fun T hT => ?_)
      iterate 3 (refine wpPlan_takeL (v := ?_) rfl (by rfl) (fun w' hw => ?_) ?_; rotate_left; go_simp; with_reducible rfl; simp only [Act.put, rA, rB, rC])
      refine wpPlan_callL rfl (by rfl) Tryd.call20 (fun w' hw => nzcmp (a) (18446744073709551616) (-1) _ (cmpI_lt (by have e : (a) < (18446744073709551616) := (by omega); first | exact e | omega)) (by omega) (by omega)) (by rfl) ?_
      simp only [Act.put, rA, rB, rC]
      iterate 6 (refine wpPlan_takeL (v := ?_) rfl (by rfl) (fun w' hw => ?_) ?_; rotate_left; go_simp; with_reducible rfl; simp only [Act.put, rA, rB, rC])
      iterate 2 (refine wpPlan_skipL rfl (by rfl) ?_; simp only [Act.put, rA, rB, rC])
      iterate 6 (refine wpPlan_takeL (v := ?_) rfl (by rfl) (fun w' hw => ?_) ?_; rotate_left; go_simp; with_reducible rfl; simp only [Act.put, rA, rB, rC])
      refine wpPlan_callL rfl (by rfl) Tryd.call38 (fun w' hw => nzof (a) _ (by first | omega | (try simp only [← HZ23.out, ← HZ18.out, ← HZ16.out, ← HZ13.out, ← HZ12.out, ← HZ9.out, ← HZ8.out, ← HZ5.out, ← HZ1.out]) <;> first | rfl | omega | (simp; done) | exact Nat.mul_assoc _ _ _ | exact Nat.add_assoc _ _ _ | grind)) (by rfl) ?_
      simp only [Act.put, rA, rB, rC]
      iterate 5 (refine wpPlan_takeL (v := ?_) rfl (by rfl) (fun w' hw => ?_) ?_; rotate_left; go_simp; with_reducible rfl; simp only [Act.put, rA, rB, rC])
      refine wpPlan_callL rfl (by rfl) Tryd.call12 (fun w' hw => works_any _ (Lib.hid (HT.out.gr (Gr.trans HB.out hw)))) (by rfl) ?_
      simp only [Act.put, rA, rB, rC]
      refine wpPlan_takeL (v := ?_) rfl (by rfl) (fun w' hw => ?_) ?_; rotate_left; go_simp; with_reducible rfl; simp only [Act.put, rA, rB, rC]
      refine wpPlan_nil (hT.out _ _ ?_); clear hT T
      intro G vw9 hg hf
      simp only [puts, Act.put, rA, rB, rC, rD, rE, ↓reduceIte, Nat.reduceEqDiff]
      clear lx0 lx5
      have HG := Lib.hid (hg)
      clear hg
      replace BX0 := bG BX0 HG
      replace BX5 := bG BX5 HG
      have r0 := Gr.refl vw9
      go_wp2
      refine hK.out _ _ ?_; clear hK K
      show Code.wp _ _ _ _ _
      clear r0
      refine forgetW (fun w2 => Below w.heap.size w w2) (HB.out.trans (HG.out.mono HB.out.size)) ?_
      clear HB HG BX0 BX5
      rintro Wx12 HB
      replace HB := Lib.hid HB
      refine wp_ret ?_
      try simp only [Exit.then, Exit.inBlock]
      have r0 := Gr.refl Wx12
      exact bodyPost_ret (v := .bool true) (by simp [results, Tryd.results10, go_sem]) rfl ⟨rfl, HB.out⟩

    · -- region 10
      have lx0 := bx0.cells
      have BX0 := Lib.hid bx0
      clear bx0
      refine sK fun K hK => ?_
      refine wp_region_seqplan 7 [(true, 0), (true, 1), (true, 2), (true, 3), (true, 4), (true, 5), (true, 6)] (by rfl) (by simp) (fun T hT => ?_)
      refine wpPlan_takeL (v := ?_) rfl (by rfl) (fun w' hw => ?_) ?_; rotate_left; go_simp; with_reducible rfl; simp only [Act.put, rA, rB, rC]
      refine wpPlan_callL rfl (by rfl) Tryd.call39 (fun w' hw => nzu64no (a) _ (by first | omega | (try simp only [← HZ23.out, ← HZ18.out, ← HZ16.out, ← HZ13.out, ← HZ12.out, ← HZ9.out, ← HZ8.out, ← HZ5.out, ← HZ1.out]) <;> first | rfl | omega | (simp; done) | exact Nat.mul_assoc _ _ _ | exact Nat.add_assoc _ _ _ | grind)) (by rfl) ?_
      simp only [Act.put, rA, rB, rC]
      iterate 5 (refine wpPlan_takeL (v := ?_) rfl (by rfl) (fun w' hw => ?_) ?_; rotate_left; go_simp; with_reducible rfl; simp only [Act.put, rA, rB, rC])
      refine wpPlan_nil (hT.out _ _ ?_); clear hT T
      intro vw7 hg
      simp only [puts, Act.put, rA, rB, rC, rD, rE, ↓reduceIte, Nat.reduceEqDiff]
      clear lx0
      have HG := Lib.hid (hg)
      clear hg
      replace BX0 := bG BX0 HG
      have r0 := Gr.refl vw7
      go_wp2
      refine hK.out _ _ ?_; clear hK K
      show Code.wp _ _ _ _ _
      clear r0
      refine forgetW (fun w2 => NX w2 gx0 (a) ∧ Below w.heap.size w w2) ⟨BX0.out, HB.out.trans (HG.out.mono HB.out.size)⟩ ?_
      clear HB HG BX0
      rintro Wx10 ⟨bx0, HB⟩
      replace HB := Lib.hid HB
      have su_1_11 : wl 2 ≤ 1 := wl_le.2 (by decide +kernel)
      have HZ25 : Hid ((2) ^ 64 = 18446744073709551616) := Lib.hid (by decide +kernel)
      have su25 : wl (18446744073709551616) ≤ 3 := wl_le.2 (by decide +kernel)
      have BX0 := Lib.hid bx0
      clear bx0
      refine sK fun K hK => ?_
      refine wp_region_seqplan 5 [(true, 0), (true, 1), (true, 2), (true, 3), (true, 4)] (by rfl) (by simp) (fun T hT => ?_)
      refine wpPlan_callL rfl (by rfl) Tryd.call38 (fun w' hw => nzof 2 _ (by decide)) (by rfl) ?_
      simp only [Act.put, rA, rB, rC]
      refine wpPlan_callL rfl (by rfl) Tryd.call32 (fun w' hw => nzpow (2) 64 (18446744073709551616) _ HZ25.out (by decide) (by decide +kernel) (by omega)) (by rfl) ?_
      simp only [Act.put, rA, rB, rC]
      iterate 3 (refine wpPlan_takeL (v := ?_) rfl (by rfl) (fun w' hw => ?_) ?_; rotate_left; go_simp; with_reducible rfl; simp only [Act.put, rA, rB, rC])
      refine wpPlan_nil (hT.out _ _ ?_); clear hT T
      intro vw8 hg
      simp only [puts, Act.put, rA, rB, rC, rD, rE, ↓reduceIte, Nat.reduceEqDiff]
      have HG := Lib.hid (hg)
      clear hg
      replace BX0 := bG BX0 HG
      have r0 := Gr.refl vw8
      go_wp2
      refine hK.out _ _ ?_; clear hK K
      show Code.wp _ _ _ _ _
      clear r0
      have hsz : w.heap.size ≤ vw8.heap.size := Nat.le_trans HB.out.size HG.out.size
      have mx0 : gx0 < vw8.heap.size := BX0.out.lt
      refine forgetW (fun w2 => NX w2 gx0 (a) ∧ NX w2 (vw8.heap.size) (18446744073709551616) ∧ Below w.heap.size w w2) ⟨(BX0.out).alloc _, (Bx.at (by simp) : Bx _ (vw8.heap.size) _ _), (HB.out.trans (HG.out.mono HB.out.size)).alloc (by first | omega | (simp; omega)) _⟩ ?_
      clear HB HG BX0
      rintro Wx11 ⟨bx0, bx5, HB⟩
      replace HB := Lib.hid HB
      have yx5 : w.heap.size ≤ vw8.heap.size := by omega
      have qx0_5 : gx0 < vw8.heap.size := by omega
      generalize hx5 : vw8.heap.size = gx5 at *
      clear hx5
      clear hsz mx0
      obtain ⟨c26, HC26⟩ : ∃ c, Hid (cmpI (a : Nat) (18446744073709551616 : Nat) = c) := ⟨_, Lib.hid rfl⟩
      have hc26 : ¬ c26 < 0 := by rw [← HC26.out]; exact cmpI_nonneg (by have e : (18446744073709551616) ≤ (a) := (by omega); omega)
      have hd4 : ¬ (c26 < 0) := by omega
      have lx0 := bx0.cells
      have lx5 := bx5.cells
      have BX0 := Lib.hid bx0
      have BX5 := Lib.hid bx5
      clear bx0 bx5
      refine sK fun K hK => ?_
      refine wp_region_plan 26 [] [] (fun _ => 0) (fun _ => .cells #[] 0) [(true, 0), (true, 1), (true, 2), (true, 3), (true, 4), (true, 5), (true, 6), (true, 7), (true, 8), (true, 9), (true, 10), (true, 11), (true, 12), (true, 13), (true, 14), (true, 15), (true, 16), (true, 18), (true, 17), (true, 19), (true, 20), (true, 21), (true, 22), (true, 23), (true, 24), (true, 25)] (by kernel_rfl) (by kernel_rfl) (fun i hi => by cases hi) (fun i hi => by cases hi) (fun _ _ _ _ _ h => h) (fun T hT => ?_)
      iterate 3 (refine wpPlan_takeL (v := ?_) rfl (by rfl) (fun w' hw => ?_) ?_; rotate_left; go_simp; with_reducible rfl; simp only [Act.put, rA, rB, rC])
      refine wpPlan_callL rfl (by rfl) Tryd.call20 (fun w' hw => nzcmp (a) (18446744073709551616) (c26) _ (HC26.out) (by omega) (by omega)) (by rfl) ?_
      simp only [Act.put, rA, rB, rC]
      iterate 10 (refine wpPlan_takeL (v := ?_) rfl (by rfl) (fun w' hw => ?_) ?_; rotate_left; go_simp; with_reducible rfl; simp only [Act.put, rA, rB, rC])
      iterate 7 (refine wpPlan_skipL rfl (by rfl) ?_; simp only [Act.put, rA, rB, rC])
      iterate 3 (refine wpPlan_takeL (v := ?_) rfl (by rfl) (fun w' hw => ?_) ?_; rotate_left; go_simp; with_reducible rfl; simp only [Act.put, rA, rB, rC])
      refine wpPlan_callL rfl (by rfl) Tryd.call12 (fun w' hw => works_any _ (Lib.hid (HT.out.gr (Gr.trans HB.out hw)))) (by rfl) ?_
      simp only [Act.put, rA, rB, rC]
      refine wpPlan_takeL (v := ?_) rfl (by rfl) (fun w' hw => ?_) ?_; rotate_left; go_simp; with_reducible rfl; simp only [Act.put, rA, rB, rC]
      refine wpPlan_nil (hT.out _ _ ?_); clear hT T
      intro G vw9 hg hf
      simp only [puts, Act.put, rA, rB, rC, rD, rE, ↓reduceIte, Nat.reduceEqDiff]
      clear lx0 lx5
      have HG := Lib.hid (hg)
      clear hg
      replace BX0 := bG BX0 HG
      replace BX5 := bG BX5 HG
      have r0 := Gr.refl vw9
      go_wp2
      refine hK.out _ _ ?_; clear hK K
      show Code.wp _ _ _ _ _
      clear r0
      refine forgetW (fun w2 => Below w.heap.size w w2) (HB.out.trans (HG.out.mono HB.out.size)) ?_
      clear HB HG BX0 BX5
      rintro Wx12 HB
      replace HB := Lib.hid HB
      clear hc26 hd4
      refine wp_ret ?_
      try simp only [Exit.then, Exit.inBlock]
      have r0 := Gr.refl Wx12
      exact bodyPost_ret (v := .bool true) (by simp [results, Tryd.results10, go_sem]) rfl ⟨rfl, HB.out⟩

  · -- region 8
    have HZ20 : Hid ((a) + (0) = a) := Lib.hid (by first | omega | (try simp only [← HZ18.out, ← HZ16.out, ← HZ13.out, ← HZ12.out, ← HZ9.out, ← HZ8.out, ← HZ5.out, ← HZ1.out]) <;> first | rfl | omega | (simp; done) | exact Nat.mul_assoc _ _ _ | exact Nat.add_assoc _ _ _ | grind)
    have su20 : wl (a) ≤ 17 := by have e := HZ20.out; first | omega | (rw [← e]; have := wl_add (a) (0); omega)
    have su_0_8 : wl 1 ≤ 1 := wl_le.2 (by decide +kernel)
    have HZ21 : Hid ((a) * (1) = a) := Lib.hid (by first | omega | (try simp only [← HZ18.out, ← HZ16.out, ← HZ13.out, ← HZ12.out, ← HZ9.out, ← HZ8.out, ← HZ5.out, ← HZ1.out]) <;> first | rfl | omega | (simp; done) | exact Nat.mul_assoc _ _ _ | exact Nat.add_assoc _ _ _ | grind)
    have su21 : wl (a) ≤ 17 := by have e := HZ21.out; first | omega | (rw [← e]; have := wl_mul (a) (1); omega)
    have HZ22 : Hid ((a) * (0) = 0) := Lib.hid (by first | omega | (try simp only [← HZ18.out, ← HZ16.out, ← HZ13.out, ← HZ12.out, ← HZ9.out, ← HZ8.out, ← HZ5.out, ← HZ1.out]) <;> first | rfl | omega | (simp; done) | exact Nat.mul_assoc _ _ _ | exact Nat.add_assoc _ _ _ | grind)
    have su22 : wl (0) ≤ 17 := by have e := HZ22.out; first | omega | (rw [← e]; have := wl_mul (a) (0); omega) | exact wl_le.2 (by decide +kernel)
    obtain ⟨u23, HZ23⟩ : ∃ z, Hid ((a) + (c) = z) := ⟨_, Lib.hid rfl⟩
    have su23 : wl (u23) ≤ 17 := by rw [← HZ23.out]; have := wl_add (a) (c); omega
    have HZ24 : Hid ((b) + (c) = u9) := Lib.hid (by first | omega | (try simp only [← HZ23.out, ← HZ18.out, ← HZ16.out, ← HZ13.out, ← HZ12.out, ← HZ9.out, ← HZ8.out, ← HZ5.out, ← HZ1.out]) <;> first | rfl | omega | (simp; done) | exact Nat.mul_assoc _ _ _ | exact Nat.add_assoc _ _ _ | grind)
    have su24 : wl (u9) ≤ 17 := by have e := HZ24.out; first | omega | (rw [← e]; have := wl_add (b) (c); omega)
    have lx0 := bx0.cells
    have lx1 := bx1.cells
    have lx2 := bx2.cells
    have lx4 := bx4.cells
    have BX0 := Lib.hid bx0
    have BX1 := Lib.hid bx1
    have BX2 := Lib.hid bx2
    have BX4 := Lib.hid bx4
    clear bx0 bx1 bx2 bx4
    refine sK fun K hK => ?_
    refine wp_region_plan 41 [] [] (fun _ => 0) (fun _ => .cells #[] 0) [(true, 0), (true, 1), (true, 3), (true, 2), (true, 4), (true, 5), (true, 6), (true, 9), (true, 7), (true, 8), (true, 10), (true, 11), (true, 12), (true, 13), (true, 14), (true, 16), (true, 15), (true, 17), (true, 18), (true, 19), (true, 20), (true, 21), (true, 23), (true, 24), (true, 22), (true, 25), (true, 26), (true, 27), (true, 28), (true, 29), (true, 30), (true, 31), (true, 33), (true, 34), (true, 37), (true, 38), (true, 32), (true, 35), (true, 36), (true, 39), (true, 40)] (by kernel_rfl) (by kernel_rfl) (fun i hi => by cases hi) (fun i hi => by cases hi) (fun _ _ _ _ _ h => h) (fun T hT => ?_)
    iterate 3 (refine wpPlan_takeL (v := ?_) rfl (by rfl) (fun w' hw => ?_) ?_; rotate_left; go_simp; with_reducible rfl; simp only [Act.put, rA, rB, rC])
    refine wpPlan_callL rfl (by rfl) Tryd.call18 (fun w' hw => nzadd (a) (0) (a) _ HZ20.out (by omega) (by omega)) (by rfl) ?_
    simp only [Act.put, rA, rB, rC]
    iterate 4 (refine wpPlan_takeL (v := ?_) rfl (by rfl) (fun w' hw => ?_) ?_; rotate_left; go_simp; with_reducible rfl; simp only [Act.put, rA, rB, rC])
    refine wpPlan_callL rfl (by rfl) Tryd.call38 (fun w' hw => nzof 1 _ (by decide)) (by rfl) ?_
    simp only [Act.put, rA, rB, rC]
    refine wpPlan_callL rfl (by rfl) Tryd.call23 (fun w' hw => nzmul (a) (1) (a) _ HZ21.out (by omega) (by omega)) (by rfl) ?_
    simp only [Act.put, rA, rB, rC]
    iterate 6 (refine wpPlan_takeL (v := ?_) rfl (by rfl) (fun w' hw => ?_) ?_; rotate_left; go_simp; with_reducible rfl; simp only [Act.put, rA, rB, rC])
    refine wpPlan_callL rfl (by rfl) Tryd.call23 (fun w' hw => nzmul (a) (0) (0) _ HZ22.out (by omega) (by omega)) (by rfl) ?_
    simp only [Act.put, rA, rB, rC]
    iterate 7 (refine wpPlan_takeL (v := ?_) rfl (by rfl) (fun w' hw => ?_) ?_; rotate_left; go_simp; with_reducible rfl; simp only [Act.put, rA, rB, rC])
    refine wpPlan_callL rfl (by rfl) Tryd.call20 (fun w' hw => nzcmp (a) (b) (1) _ (cmpI_gt (by have e : (a) > (b) := (by omega); first | exact e | omega)) (by omega) (by omega)) (by rfl) ?_
    simp only [Act.put, rA, rB, rC]
    refine wpPlan_callL rfl (by rfl) Tryd.call20 (fun w' hw => nzcmp (b) (a) (-1) _ (cmpI_lt (by have e : (b) < (a) := (by omega); first | exact e | omega)) (by omega) (by omega)) (by rfl) ?_
    simp only [Act.put, rA, rB, rC]
    refine wpPlan_takeL (v := ?_) rfl (by rfl) (fun w' hw => ?_) ?_
    rotate_left
    · go_simp
      with_reducible rfl
    simp only [Act.put, rA, rB, rC]
    iterate 9 (refine wpPlan_takeL (v := ?_) rfl (by rfl) (fun w' hw => ?_) ?_; rotate_left; go_simp; with_reducible rfl; simp only [Act.put, rA, rB, rC])
    refine wpPlan_callL rfl (by rfl) Tryd.call18 (fun w' hw => nzadd (a) (c) (u23) _ HZ23.out (by omega) (by omega)) (by rfl) ?_
    simp only [Act.put, rA, rB, rC]
    refine wpPlan_callL rfl (by rfl) Tryd.call18 (fun w' hw => nzadd (b) (c) (u9) _ HZ24.out (by omega) (by omega)) (by rfl) ?_
    simp only [Act.put, rA, rB, rC]
    refine wpPlan_callL rfl (by rfl) Tryd.call20 (fun w' hw => nzcmp (u23) (u9) (1) _ (cmpI_gt (by have e : (u23) > (u9) := (by simp only [← HZ23.out, ← HZ18.out, ← HZ16.out, ← HZ13.out, ← HZ12.out, ← HZ9.out, ← HZ8.out, ← HZ5.out, ← HZ1.out]; omega); first | exact e | omega)) (by omega) (by omega)) (by rfl) ?_
    simp only [Act.put, rA, rB, rC]
    refine wpPlan_callL rfl (by rfl) Tryd.call20 (fun w' hw => nzcmp (a) (b) (1) _ (cmpI_gt (by have e : (a) > (b) := (by omega); first | exact e | omega)) (by omega) (by omega)) (by rfl) ?_
    simp only [Act.put, rA, rB, rC]
    refine wpPlan_takeL (v := ?_) rfl (by rfl) (fun w' hw => ?_) ?_; rotate_left; go_simp; with_reducible rfl; simp only [Act.put, rA, rB, rC]
    refine wpPlan_nil (hT.out _ _ ?_); clear hT T
    intro G vw6 hg hf
    simp only [puts, Act.put, rA, rB, rC, rD, rE, ↓reduceIte, Nat.reduceEqDiff]
    clear lx0 lx1 lx2 lx4
    have HG := Lib.hid (hg)
    clear hg
    replace BX0 := bG BX0 HG
    replace BX1 := bG BX1 HG
    replace BX2 := bG BX2 HG
    replace BX4 := bG BX4 HG
    have r0 := Gr.refl vw6
    go_wp2
    refine hK.out _ _ ?_; clear hK K
    show Code.wp _ _ _ _ _
    clear r0
    refine forgetW (fun w2 => NX w2 gx0 (a) ∧ Below w.heap.size w w2) ⟨BX0.out, HB.out.trans (HG.out.mono HB.out.size)⟩ ?_
    clear HB HG BX0 BX1 BX2 BX4
    rintro Wx8 ⟨bx0, HB⟩
    replace HB := Lib.hid HB
    refine wp_cond_false (by rfl) ?_
    refine wp_skip ?_
    show Code.wp _ _ _ _ _
    rcases Nat.lt_or_ge a 18446744073709551616 with hsm | hsm
    · -- region 10
      have lx0 := bx0.cells
      have BX0 := Lib.hid bx0
      clear bx0
      refine sK fun K hK => ?_
      refine wp_region_seqplan 7 [(true, 0), (true, 1), (true, 2), (true, 3), (true, 4), (true, 5), (true, 6)] (by rfl) (by simp) (fun T hT => ?_)
      refine wpPlan_takeL (v := ?_) rfl (by rfl) (fun w' hw => ?_) ?_; rotate_left; go_simp; with_reducible rfl; simp only [Act.put, rA, rB, rC]
      refine wpPlan_callL rfl (by rfl) Tryd.call39 (fun w' hw => nzu64 (a) (a) _ rfl (by first | omega | (try simp only [← HZ23.out, ← HZ18.out, ← HZ16.out, ← HZ13.out, ← HZ12.out, ← HZ9.out, ← HZ8.out, ← HZ5.out, ← HZ1.out]) <;> first | rfl | omega | (simp; done) | exact Nat.mul_assoc _ _ _ | exact Nat.add_assoc _ _ _ | grind)) (by rfl) ?_
      simp only [Act.put, rA, rB, rC]
      iterate 5 (refine wpPlan_takeL (v := ?_) rfl (by rfl) (fun w' hw => ?_) ?_; rotate_left; go_simp; with_reducible rfl; simp only [Act.put, rA, rB, rC])
      refine wpPlan_nil (hT.out _ _ ?_); clear hT T
      intro vw7 hg
      simp only [puts, Act.put, rA, rB, rC, rD, rE, ↓reduceIte, Nat.reduceEqDiff]
      clear lx0
      have HG := Lib.hid (hg)
      clear hg
      replace BX0 := bG BX0 HG
      have r0 := Gr.refl vw7
      go_wp2
      refine hK.out _ _ ?_; clear hK K
      show Code.wp _ _ _ _ _
      clear r0
      refine forgetW (fun w2 => NX w2 gx0 (a) ∧ Below w.heap.size w w2) ⟨BX0.out, HB.out.trans (HG.out.mono HB.out.size)⟩ ?_
      clear HB HG BX0
      rintro Wx10 ⟨bx0, HB⟩
      replace HB := Lib.hid HB
      have su_1_11 : wl 2 ≤ 1 := wl_le.2 (by decide +kernel)
      have HZ25 : Hid ((2) ^ 64 = 18446744073709551616) := Lib.hid (by decide +kernel)
      have su25 : wl (18446744073709551616) ≤ 3 := wl_le.2 (by decide +kernel)
      have BX0 := Lib.hid bx0
      clear bx0
      refine sK fun K hK => ?_
      refine wp_region_seqplan 5 [(true, 0), (true, 1), (true, 2), (true, 3), (true, 4)] (by rfl) (by simp) (fun T hT => ?_)
      refine wpPlan_callL rfl (by rfl) Tryd.call38 (fun w' hw => nzof 2 _ (by decide)) (by rfl) ?_
      simp only [Act.put, rA, rB, rC]
      refine wpPlan_callL rfl (by rfl) Tryd.call32 (fun w' hw => nzpow (2) 64 (18446744073709551616) _ HZ25.out (by decide) (by decide +kernel) (by omega)) (by rfl) ?_
      simp only [Act.put, rA, rB, rC]
      iterate 3 (refine wpPlan_takeL (v := ?_) rfl (by rfl) (fun w' hw => ?_) ?_; rotate_left; go_simp; with_reducible rfl; simp only [Act.put, rA, rB, rC])
      refine wpPlan_nil (hT.out _ _ ?_); clear hT T
      intro vw8 hg
      simp only [puts, Act.put, rA, rB, rC, rD, rE, ↓reduceIte, Nat.reduceEqDiff]
      have HG := Lib.hid (hg)
      clear hg
      replace BX0 := bG BX0 HG
      have r0 := Gr.refl vw8
      go_wp2
      refine hK.out _ _ ?_; clear hK K
      show Code.wp _ _ _ _ _
      clear r0
      have hsz : w.heap.size ≤ vw8.heap.size := Nat.le_trans HB.out.size HG.out.size
      have mx0 : gx0 < vw8.heap.size := BX0.out.lt
      refine forgetW (fun w2 => NX w2 gx0 (a) ∧ NX w2 (vw8.heap.size) (18446744073709551616) ∧ Below w.heap.size w w2) ⟨(BX0.out).alloc _, (Bx.at (by simp) : Bx _ (vw8.heap.size) _ _), (HB.out.trans (HG.out.mono HB.out.size)).alloc (by first | omega | (simp; omega)) _⟩ ?_
      clear HB HG BX0
      rintro Wx11 ⟨bx0, bx5, HB⟩
      replace HB := Lib.hid HB
      have yx5 : w.heap.size ≤ vw8.heap.size := by omega
      have qx0_5 : gx0 < vw8.heap.size := by omega
      generalize hx5 : vw8.heap.size = gx5 at *
      clear hx5
      clear hsz mx0
      have lx0 := bx0.cells
      have lx5 := bx5.cells
      have BX0 := Lib.hid bx0
      have BX5 := Lib.hid bx5
      clear bx0 bx5
      refine sK fun K hK => ?_
      refine wp_region_plan 26 [] [] (fun _ => 0) (fun _ => .cells #[] 0) [(true, 0), (true, 1), (true, 2), (true, 3), (true, 4), (true, 5), (true, 6), (true, 7), (true, 8), (true, 9), (true, 10), (true, 11), (true, 12), (true, 13), (true, 14), (true, 15), (true, 16), (true, 18), (true, 17), (true, 19), (true, 20), (true, 21), (true, 22), (true, 23), (true, 24), (true, 25)] (by kernel_rfl) (by kernel_rfl) (fun i hi => by cases hi) (fun i hi => by cases hi) (fun _ _ _ _ _ h => h) (fun T hT => ?_)
      iterate 3 (refine wpPlan_takeL (v := ?_) rfl (by rfl) (fun w' hw => ?_) ?_; rotate_left; go_simp; with_reducible rfl; simp only [Act.put, rA, rB, rC])
      refine wpPlan_callL rfl (by rfl) Tryd.call20 (fun w' hw => nzcmp (a) (18446744073709551616) (-1) _ (cmpI_lt (by have e : (a) < (18446744073709551616) := (by omega); first | exact e | omega)) (by omega) (by omega)) (by rfl) ?_
      simp only [Act.put, rA, rB, rC]
      iterate 6 (refine wpPlan_takeL (v := ?_) rfl (by rfl) (fun w' hw => ?_) ?_; rotate_left; go_simp; with_reducible rfl; simp only [Act.put, rA, rB, rC])
      iterate 2 (refine wpPlan_skipL rfl (by rfl) ?_; simp only [Act.put, rA, rB, rC])
      iterate 6 (refine wpPlan_takeL (v := ?_) rfl (by rfl) (fun w' hw => ?_) ?_; rotate_left; go_simp; with_reducible rfl; simp only [Act.put, rA, rB, rC])
      refine wpPlan_callL rfl (by rfl) Tryd.call38 (fun w' hw => nzof (a) _ (by first | omega | (try simp only [← HZ23.out, ← HZ18.out, ← HZ16.out, ← HZ13.out, ← HZ12.out, ← HZ9.out, ← HZ8.out, ← HZ5.out, ← HZ1.out]) <;> first | rfl | omega | (simp; done) | exact Nat.mul_assoc _ _ _ | exact Nat.add_assoc _ _ _ | grind)) (by rfl) ?_
      simp only [Act.put, rA, rB, rC]
      iterate 5 (refine wpPlan_takeL (v := ?_) rfl (by rfl) (fun w' hw => ?_) ?_; rotate_left; go_simp; with_reducible rfl; simp only [Act.put, rA, rB, rC])
      refine wpPlan_callL rfl (by rfl) Tryd.call12 (fun w' hw => works_any _ (Lib.hid (HT.out.gr (Gr.trans HB.out hw)))) (by rfl) ?_
      simp only [Act.put, rA, rB, rC]
      refine wpPlan_takeL (v := ?_) rfl (by rfl) (fun w' hw => ?_) ?_; rotate_left; go_simp; with_reducible rfl; simp only [Act.put, rA, rB, rC]
      refine wpPlan_nil (hT.out _ _ ?_); clear hT T
      intro G vw9 hg hf
      simp only [puts, Act.put, rA, rB, rC, rD, rE, ↓reduceIte, Nat.reduceEqDiff]
      clear lx0 lx5
      have HG := Lib.hid (hg)
      clear hg
      replace BX0 := bG BX0 HG
      replace BX5 := bG BX5 HG
      have r0 := Gr.refl vw9
      go_wp2
      refine hK.out _ _ ?_; clear hK K
      show Code.wp _ _ _ _ _
      clear r0
      refine forgetW (fun w2 => Below w.heap.size w w2) (HB.out.trans (HG.out.mono HB.out.size)) ?_
      clear HB HG BX0 BX5
      rintro Wx12 HB
      replace HB := Lib.hid HB
      refine wp_ret ?_
      try simp only [Exit.then, Exit.inBlock]
      have r0 := Gr.refl Wx12
      exact bodyPost_ret (v := .bool true) (by simp [results, Tryd.results10, go_sem]) rfl ⟨rfl, HB.out⟩

    · -- region 10
      have lx0 := bx0.cells
      have BX0 := Lib.hid bx0
      clear bx0
      refine sK fun K hK => ?_
      refine wp_region_seqplan 7 [(true, 0), (true, 1), (true, 2), (true, 3), (true, 4), (true, 5), (true, 6)] (by rfl) (by simp) (fun T hT => ?_)
      refine wpPlan_takeL (v := ?_) rfl (by rfl) (fun w' hw => ?_) ?_; rotate_left; go_simp; with_reducible rfl; simp only [Act.put, rA, rB, rC]
      refine wpPlan_callL rfl (by rfl) Tryd.call39 (fun w' hw => nzu64no (a) _ (by first | omega | (try simp only [← HZ23.out, ← HZ18.out, ← HZ16.out, ← HZ13.out, ← HZ12.out, ← HZ9.out, ← HZ8.out, ← HZ5.out, ← HZ1.out]) <;> first | rfl | omega | (simp; done) | exact Nat.mul_assoc _ _ _ | exact Nat.add_assoc _ _ _ | grind)) (by rfl) ?_
      simp only [Act.put, rA, rB, rC]
      iterate 5 (refine wpPlan_takeL (v := ?_) rfl (by rfl) (fun w' hw => ?_) ?_; rotate_left; go_simp; with_reducible rfl; simp only [Act.put, rA, rB, rC])
      refine wpPlan_nil (hT.out _ _ ?_); clear hT T
      intro vw7 hg
      simp only [puts, Act.put, rA, rB, rC, rD, rE, ↓reduceIte, Nat.reduceEqDiff]
      clear lx0
      have HG := Lib.hid (hg)
      clear hg
      replace BX0 := bG BX0 HG
      have r0 := Gr.refl vw7
      go_wp2
      refine hK.out _ _ ?_; clear hK K
      show Code.wp _ _ _ _ _
      clear r0
      refine forgetW (fun w2 => NX w2 gx0 (a) ∧ Below w.heap.size w w2) ⟨BX0.out, HB.out.trans (HG.out.mono HB.out.size)⟩ ?_
      clear HB HG BX0
      rintro Wx10 ⟨bx0, HB⟩
      replace HB := Lib.hid HB
      have su_1_11 : wl 2 ≤ 1 := wl_le.2 (by decide +kernel)
      have HZ25 : Hid ((2) ^ 64 = 18446744073709551616) := Lib.hid (by decide +kernel)
      have su25 : wl (18446744073709551616) ≤ 3 := wl_le.2 (by decide +kernel)
      have BX0 := Lib.hid bx0
      clear bx0
      refine sK fun K hK => ?_
      refine wp_region_seqplan 5 [(true, 0), (true, 1), (true, 2), (true, 3), (true, 4)] (by rfl) (by simp) (fun T hT => ?_)
      refine wpPlan_callL rfl (by rfl) Tryd.call38 (fun w' hw => nzof 2 _ (by decide)) (by rfl) ?_
      simp only [Act.put, rA, rB, rC]
      refine wpPlan_callL rfl (by rfl) Tryd.call32 (fun w' hw => nzpow (2) 64 (18446744073709551616) _ HZ25.out (by decide) (by decide +kernel) (by omega)) (by rfl) ?_
      simp only [Act.put, rA, rB, rC]
      iterate 3 (refine wpPlan_takeL (v := ?_) rfl (by rfl) (fun w' hw => ?_) ?_; rotate_left; go_simp; with_reducible rfl; simp only [Act.put, rA, rB, rC])
      refine wpPlan_nil (hT.out _ _ ?_); clear hT T
      intro vw8 hg
      simp only [puts, Act.put, rA, rB, rC, rD, rE, ↓reduceIte, Nat.reduceEqDiff]
      have HG := Lib.hid (hg)
      clear hg
      replace BX0 := bG BX0 HG
      have r0 := Gr.refl vw8
      go_wp2
      refine hK.out _ _ ?_; clear hK K
      show Code.wp _ _ _ _ _
      clear r0
      have hsz : w.heap.size ≤ vw8.heap.size := Nat.le_trans HB.out.size HG.out.size
      have mx0 : gx0 < vw8.heap.size := BX0.out.lt
      refine forgetW (fun w2 => NX w2 gx0 (a) ∧ NX w2 (vw8.heap.size) (18446744073709551616) ∧ Below w.heap.size w w2) ⟨(BX0.out).alloc _, (Bx.at (by simp) : Bx _ (vw8.heap.size) _ _), (HB.out.trans (HG.out.mono HB.out.size)).alloc (by first | omega | (simp; omega)) _⟩ ?_
      clear HB HG BX0
      rintro Wx11 ⟨bx0, bx5, HB⟩
      replace HB := Lib.hid HB
      have yx5 : w.heap.size ≤ vw8.heap.size := by omega
      have qx0_5 : gx0 < vw8.heap.size := by omega
      generalize hx5 : vw8.heap.size = gx5 at *
      clear hx5
      clear hsz mx0
      obtain ⟨c26, HC26⟩ : ∃ c, Hid (cmpI (a : Nat) (18446744073709551616 : Nat) = c) := ⟨_, Lib.hid rfl⟩
      have hc26 : ¬ c26 < 0 := by rw [← HC26.out]; exact cmpI_nonneg (by have e : (18446744073709551616) ≤ (a) := (by omega); omega)
      have hd4 : ¬ (c26 < 0) := by omega
      have lx0 := bx0.cells
      have lx5 := bx5.cells
      have BX0 := Lib.hid bx0
      have BX5 := Lib.hid bx5
      clear bx0 bx5
      refine sK fun K hK => ?_
      refine wp_region_plan 26 [] [] (fun _ => 0) (fun _ => .cells #[] 0) [(true, 0), (true, 1), (true, 2), (true, 3), (true, 4), (true, 5), (true, 6), (true, 7), (true, 8), (true, 9), (true, 10), (true, 11), (true, 12), (true, 13), (true, 14), (true, 15), (true, 16), (true, 18), (true, 17), (true, 19), (true, 20), (true, 21), (true, 22), (true, 23), (true, 24), (true, 25)] (by kernel_rfl) (by kernel_rfl) (fun i hi => by cases hi) (fun i hi => by cases hi) (fun _ _ _ _ _ h => h) (fun T hT => ?_)
      iterate 3 (refine wpPlan_takeL (v := ?_) rfl (by rfl) (fun w' hw => ?_) ?_; rotate_left; go_simp; with_reducible rfl; simp only [Act.put, rA, rB, rC])
      refine wpPlan_callL rfl (by rfl) Tryd.call20 (fun w' hw => nzcmp (a) (18446744073709551616) (c26) _ (HC26.out) (by omega) (by omega)) (by rfl) ?_
      simp only [Act.put, rA, rB, rC]
      iterate 10 (refine wpPlan_takeL (v := ?_) rfl (by rfl) (fun w' hw => ?_) ?_; rotate_left; go_simp; with_reducible rfl; simp only [Act.put, rA, rB, rC])
      iterate 7 (refine wpPlan_skipL rfl (by rfl) ?_; simp only [Act.put, rA, rB, rC])
      iterate 3 (refine wpPlan_takeL (v := ?_) rfl (by rfl) (fun w' hw => ?_) ?_; rotate_left; go_simp; with_reducible rfl; simp only [Act.put, rA, rB, rC])
      refine wpPlan_callL rfl (by rfl) Tryd.call12 (fun w' hw => works_any _ (Lib.hid (HT.out.gr (Gr.trans HB.out hw)))) (by rfl) ?_
      simp only [Act.put, rA, rB, rC]
      refine wpPlan_takeL (v := ?_) rfl (by rfl) (fun w' hw => ?_) ?_; rotate_left; go_simp; with_reducible rfl; simp only [Act.put, rA, rB, rC]
      refine wpPlan_nil (hT.out _ _ ?_); clear hT T
      intro G vw9 hg hf
      simp only [puts, Act.put, rA, rB, rC, rD, rE, ↓reduceIte, Nat.reduceEqDiff]
      clear lx0 lx5
      have HG := Lib.hid (hg)
      clear hg
      replace BX0 := bG BX0 HG
      replace BX5 := bG BX5 HG
      have r0 := Gr.refl vw9
      go_wp2
      refine hK.out _ _ ?_; clear hK K
      show Code.wp _ _ _ _ _
      clear r0
      refine forgetW (fun w2 => Below w.heap.size w w2) (HB.out.trans (HG.out.mono HB.out.size)) ?_
      clear HB HG BX0 BX5
      rintro Wx12 HB
      replace HB := Lib.hid HB
      clear hc26 hd4
      refine wp_ret ?_
      try simp only [Exit.then, Exit.inBlock]
      have r0 := Gr.refl Wx12
      exact bodyPost_ret (v := .bool true) (by simp [results, Tryd.results10, go_sem]) rfl ⟨rfl, HB.out⟩

set_option maxRecDepth 100000 in
set_option maxHeartbeats 4000000 in
theorem ring_big1 (vx : Value) (kx : Nat) (fx : Nat → Nat) (vy : Value) (ky : Nat) (fy : Nat → Nat) (vz : Value) (kz : Nat) (fz : Nat → Nat) (a b c : Nat)  (w : World) (HWx : Hid (Wa w vx kx fx)) (HFx : Hid (∀ i, i < kx → fx i < 4294967296)) (HVx : Hid (vl fx kx = a)) (HWy : Hid (Wa w vy ky fy)) (HFy : Hid (∀ i, i < ky → fy i < 4294967296)) (HVy : Hid (vl fy ky = b)) (HWz : Hid (Wa w vz kz fz)) (HFz : Hid (∀ i, i < kz → fz i < 4294967296)) (HVz : Hid (vl fz kz = c))  (hkx : 16 < kx) (HT : Hid (Tab w)) :
    Calls Tryd.prog 10 #[vx, vy, vz] w fun e w' => e = .returned (.bool true) ∧ Below w.heap.size w w' := by
  obtain ⟨ao_x, c_x, rfl⟩ := HWx.out.slice
  obtain ⟨ao_y, c_y, rfl⟩ := HWy.out.slice
  obtain ⟨ao_z, c_z, rfl⟩ := HWz.out.slice
  go_enter Tryd.func10, Tryd.ntmps10
  refine sK fun K hK => ?_
  refine wp_region_lit ?_
  go_wp2
  refine hK.out _ _ ?_; clear hK K
  show Code.wp _ _ _ _ _
  refine forgetW (fun w2 => Below w.heap.size w w2) (Below.refl _ _) ?_
  rintro Wx HB
  replace HB := Lib.hid HB
  refine wp_seq ?_
  have hd1 : 16 < ((kx : Int)) := by omega
  refine sK fun K hK => ?_
  refine wp_region_seqplan 13 [(true, 0), (true, 1), (true, 2), (true, 3), (true, 4), (true, 5), (true, 6), (true, 7), (true, 8), (true, 9), (true, 10), (true, 11), (true, 12)] (by rfl) (by simp) (fun T hT => ?_)
  iterate 4 (refine wpPlan_takeL (v := ?_) rfl (by rfl) (fun w' hw => ?_) ?_; rotate_left; go_simp; with_reducible rfl; simp only [Act.put, rA, rB, rC])
  iterate 3 (refine wpPlan_skipL rfl (by rfl) ?_; simp only [Act.put, rA, rB, rC])
  iterate 2 (refine wpPlan_takeL (v := ?_) rfl (by rfl) (fun w' hw => ?_) ?_; rotate_left; go_simp; with_reducible rfl; simp only [Act.put, rA, rB, rC])
  iterate 3 (refine wpPlan_skipL rfl (by rfl) ?_; simp only [Act.put, rA, rB, rC])
  refine wpPlan_takeL (v := ?_) rfl (by rfl) (fun w' hw => ?_) ?_; rotate_left; go_simp; with_reducible rfl; simp only [Act.put, rA, rB, rC]
  refine wpPlan_nil (hT.out _ _ ?_); clear hT T
  intro vw1 hg
  simp only [puts, Act.put, rA, rB, rC, rD, rE, ↓reduceIte, Nat.reduceEqDiff]
  have HG := Lib.hid (hg)
  clear hg
  have r0 := Gr.refl vw1
  go_wp2
  refine hK.out _ _ ?_; clear hK K
  show Code.wp _ _ _ _ _
  clear r0
  refine forgetW (fun w2 => Below w.heap.size w w2) (HB.out.trans (HG.out.mono HB.out.size)) ?_
  clear HB HG
  rintro Wx1 HB
  replace HB := Lib.hid HB
  clear hd1
  refine wp_cond_true (by rfl) ?_
  refine sK fun K hK => ?_
  refine wp_region_seqplan 2 [(true, 0), (true, 1)] (by rfl) (by simp) (fun T hT => ?_)
  refine wpPlan_callL rfl (by rfl) Tryd.call12 (fun w' hw => works_any _ (Lib.hid (HT.out.gr (Gr.trans HB.out hw)))) (by rfl) ?_
  simp only [Act.put, rA, rB, rC]
  refine wpPlan_takeL (v := ?_) rfl (by rfl) (fun w' hw => ?_) ?_; rotate_left; go_simp; with_reducible rfl; simp only [Act.put, rA, rB, rC]
  refine wpPlan_nil (hT.out _ _ ?_); clear hT T
  intro vw2 hg
  simp only [puts, Act.put, rA, rB, rC, rD, rE, ↓reduceIte, Nat.reduceEqDiff]
  have HG := Lib.hid (hg)
  clear hg
  have r0 := Gr.refl vw2
  go_wp2
  refine hK.out _ _ ?_; clear hK K
  show Code.wp _ _ _ _ _
  clear r0
  refine forgetW (fun w2 => Below w.heap.size w w2) (HB.out.trans (HG.out.mono HB.out.size)) ?_
  clear HB HG
  rintro Wx2 HB
  replace HB := Lib.hid HB
  refine wp_ret ?_
  try simp only [Exit.then, Exit.inBlock]
  have r0 := Gr.refl Wx2
  exact bodyPost_ret (v := .bool true) (by simp [results, Tryd.results10, go_sem]) rfl ⟨rfl, HB.out⟩

set_option maxRecDepth 100000 in
set_option maxHeartbeats 4000000 in
theorem ring_big2 (vx : Value) (kx : Nat) (fx : Nat → Nat) (vy : Value) (ky : Nat) (fy : Nat → Nat) (vz : Value) (kz : Nat) (fz : Nat → Nat) (a b c : Nat)  (w : World) (HWx : Hid (Wa w vx kx fx)) (HFx : Hid (∀ i, i < kx → fx i < 4294967296)) (HVx : Hid (vl fx kx = a)) (HWy : Hid (Wa w vy ky fy)) (HFy : Hid (∀ i, i < ky → fy i < 4294967296)) (HVy : Hid (vl fy ky = b)) (HWz : Hid (Wa w vz kz fz)) (HFz : Hid (∀ i, i < kz → fz i < 4294967296)) (HVz : Hid (vl fz kz = c)) (hkx : kx ≤ 16) (hky : 16 < ky) (HT : Hid (Tab w)) :
    Calls Tryd.prog 10 #[vx, vy, vz] w fun e w' => e = .returned (.bool true) ∧ Below w.heap.size w w' := by
  obtain ⟨ao_x, c_x, rfl⟩ := HWx.out.slice
  obtain ⟨ao_y, c_y, rfl⟩ := HWy.out.slice
  obtain ⟨ao_z, c_z, rfl⟩ := HWz.out.slice
  go_enter Tryd.func10, Tryd.ntmps10
  refine sK fun K hK => ?_
  refine wp_region_lit ?_
  go_wp2
  refine hK.out _ _ ?_; clear hK K
  show Code.wp _ _ _ _ _
  refine forgetW (fun w2 => Below w.heap.size w w2) (Below.refl _ _) ?_
  rintro Wx HB
  replace HB := Lib.hid HB
  refine wp_seq ?_
  have hd1 : ¬ (16 < ((kx : Int))) := by omega
  have hd2 : 16 < ((ky : Int)) := by omega
  refine sK fun K hK => ?_
  refine wp_region_seqplan 13 [(true, 0), (true, 1), (true, 2), (true, 3), (true, 4), (true, 5), (true, 6), (true, 7), (true, 8), (true, 9), (true, 10), (true, 11), (true, 12)] (by rfl) (by simp) (fun T hT => ?_)
  iterate 9 (refine wpPlan_takeL (v := ?_) rfl (by rfl) (fun w' hw => ?_) ?_; rotate_left; go_simp; with_reducible rfl; simp only [Act.put, rA, rB, rC])
  iterate 3 (refine wpPlan_skipL rfl (by rfl) ?_; simp only [Act.put, rA, rB, rC])
  refine wpPlan_takeL (v := ?_) rfl (by rfl) (fun w' hw => ?_) ?_; rotate_left; go_simp; with_reducible rfl; simp only [Act.put, rA, rB, rC]
  refine wpPlan_nil (hT.out _ _ ?_); clear hT T
  intro vw1 hg
  simp only [puts, Act.put, rA, rB, rC, rD, rE, ↓reduceIte, Nat.reduceEqDiff]
  have HG := Lib.hid (hg)
  clear hg
  have r0 := Gr.refl vw1
  go_wp2
  refine hK.out _ _ ?_; clear hK K
  show Code.wp _ _ _ _ _
  clear r0
  refine forgetW (fun w2 => Below w.heap.size w w2) (HB.out.trans (HG.out.mono HB.out.size)) ?_
  clear HB HG
  rintro Wx1 HB
  replace HB := Lib.hid HB
  clear hd1 hd2
  refine wp_cond_true (by rfl) ?_
  refine sK fun K hK => ?_
  refine wp_region_seqplan 2 [(true, 0), (true, 1)] (by rfl) (by simp) (fun T hT => ?_)
  refine wpPlan_callL rfl (by rfl) Tryd.call12 (fun w' hw => works_any _ (Lib.hid (HT.out.gr (Gr.trans HB.out hw)))) (by rfl) ?_
  simp only [Act.put, rA, rB, rC]
  refine wpPlan_takeL (v := ?_) rfl (by rfl) (fun w' hw => ?_) ?_; rotate_left; go_simp; with_reducible rfl; simp only [Act.put, rA, rB, rC]
  refine wpPlan_nil (hT.out _ _ ?_); clear hT T
  intro vw2 hg
  simp only [puts, Act.put, rA, rB, rC, rD, rE, ↓reduceIte, Nat.reduceEqDiff]
  have HG := Lib.hid (hg)
  clear hg
  have r0 := Gr.refl vw2
  go_wp2
  refine hK.out _ _ ?_; clear hK K
  show Code.wp _ _ _ _ _
  clear r0
  refine forgetW (fun w2 => Below w.heap.size w w2) (HB.out.trans (HG.out.mono HB.out.size)) ?_
  clear HB HG
  rintro Wx2 HB
  replace HB := Lib.hid HB
  refine wp_ret ?_
  try simp only [Exit.then, Exit.inBlock]
  have r0 := Gr.refl Wx2
  exact bodyPost_ret (v := .bool true) (by simp [results, Tryd.results10, go_sem]) rfl ⟨rfl, HB.out⟩

set_option maxRecDepth 100000 in
set_option maxHeartbeats 4000000 in
theorem ring_big3 (vx : Value) (kx : Nat) (fx : Nat → Nat) (vy : Value) (ky : Nat) (fy : Nat → Nat) (vz : Value) (kz : Nat) (fz : Nat → Nat) (a b c : Nat)  (w : World) (HWx : Hid (Wa w vx kx fx)) (HFx : Hid (∀ i, i < kx → fx i < 4294967296)) (HVx : Hid (vl fx kx = a)) (HWy : Hid (Wa w vy ky fy)) (HFy : Hid (∀ i, i < ky → fy i < 4294967296)) (HVy : Hid (vl fy ky = b)) (HWz : Hid (Wa w vz kz fz)) (HFz : Hid (∀ i, i < kz → fz i < 4294967296)) (HVz : Hid (vl fz kz = c)) (hkx : kx ≤ 16) (hky : ky ≤ 16) (hkz : 16 < kz) (HT : Hid (Tab w)) :
    Calls Tryd.prog 10 #[vx, vy, vz] w fun e w' => e = .returned (.bool true) ∧ Below w.heap.size w w' := by
  obtain ⟨ao_x, c_x, rfl⟩ := HWx.out.slice
  obtain ⟨ao_y, c_y, rfl⟩ := HWy.out.slice
  obtain ⟨ao_z, c_z, rfl⟩ := HWz.out.slice
  go_enter Tryd.func10, Tryd.ntmps10
  refine sK fun K hK => ?_
  refine wp_region_lit ?_
  go_wp2
  refine hK.out _ _ ?_; clear hK K
  show Code.wp _ _ _ _ _
  refine forgetW (fun w2 => Below w.heap.size w w2) (Below.refl _ _) ?_
  rintro Wx HB
  replace HB := Lib.hid HB
  refine wp_seq ?_
  have hd1 : ¬ (16 < ((kx : Int))) := by omega
  have hd2 : ¬ (16 < ((ky : Int))) := by omega
  have hd3 : 16 < ((kz : Int)) := by omega
  refine sK fun K hK => ?_
  refine wp_region_seqplan 13 [(true, 0), (true, 1), (true, 2), (true, 3), (true, 4), (true, 5), (true, 6), (true, 7), (true, 8), (true, 9), (true, 10), (true, 11), (true, 12)] (by rfl) (by simp) (fun T hT => ?_)
  iterate 13 (refine wpPlan_takeL (v := ?_) rfl (by rfl) (fun w' hw => ?_) ?_; rotate_left; go_simp; with_reducible rfl; simp only [Act.put, rA, rB, rC])
  refine wpPlan_nil (hT.out _ _ ?_); clear hT T
  intro vw1 hg
  simp only [puts, Act.put, rA, rB, rC, rD, rE, ↓reduceIte, Nat.reduceEqDiff]
  have HG := Lib.hid (hg)
  clear hg
  have r0 := Gr.refl vw1
  go_wp2
  refine hK.out _ _ ?_; clear hK K
  show Code.wp _ _ _ _ _
  clear r0
  refine forgetW (fun w2 => Below w.heap.size w w2) (HB.out.trans (HG.out.mono HB.out.size)) ?_
  clear HB HG
  rintro Wx1 HB
  replace HB := Lib.hid HB
  clear hd1 hd2 hd3
  refine wp_cond_true (by rfl) ?_
  refine sK fun K hK => ?_
  refine wp_region_seqplan 2 [(true, 0), (true, 1)] (by rfl) (by simp) (fun T hT => ?_)
  refine wpPlan_callL rfl (by rfl) Tryd.call12 (fun w' hw => works_any _ (Lib.hid (HT.out.gr (Gr.trans HB.out hw)))) (by rfl) ?_
  simp only [Act.put, rA, rB, rC]
  refine wpPlan_takeL (v := ?_) rfl (by rfl) (fun w' hw => ?_) ?_; rotate_left; go_simp; with_reducible rfl; simp only [Act.put, rA, rB, rC]
  refine wpPlan_nil (hT.out _ _ ?_); clear hT T
  intro vw2 hg
  simp only [puts, Act.put, rA, rB, rC, rD, rE, ↓reduceIte, Nat.reduceEqDiff]
  have HG := Lib.hid (hg)
  clear hg
  have r0 := Gr.refl vw2
  go_wp2
  refine hK.out _ _ ?_; clear hK K
  show Code.wp _ _ _ _ _
  clear r0
  refine forgetW (fun w2 => Below w.heap.size w w2) (HB.out.trans (HG.out.mono HB.out.size)) ?_
  clear HB HG
  rintro Wx2 HB
  replace HB := Lib.hid HB
  refine wp_ret ?_
  try simp only [Exit.then, Exit.inBlock]
  have r0 := Gr.refl Wx2
  exact bodyPost_ret (v := .bool true) (by simp [results, Tryd.results10, go_sem]) rfl ⟨rfl, HB.out⟩

theorem rings_law (vx : Value) (kx : Nat) (fx : Nat → Nat) (vy : Value) (ky : Nat) (fy : Nat → Nat) (vz : Value) (kz : Nat) (fz : Nat → Nat)  (w : World) (HWx : Hid (Wa w vx kx fx)) (HFx : Hid (∀ i, i < kx → fx i < 4294967296)) (HWy : Hid (Wa w vy ky fy)) (HFy : Hid (∀ i, i < ky → fy i < 4294967296)) (HWz : Hid (Wa w vz kz fz)) (HFz : Hid (∀ i, i < kz → fz i < 4294967296))  (HT : Hid (Tab w)) :
    Calls Tryd.prog 10 #[vx, vy, vz] w fun e w' => e = .returned (.bool true) ∧ Below w.heap.size w w' := by
  by_cases hkx : kx ≤ 16
  · by_cases hky : ky ≤ 16
    · by_cases hkz : kz ≤ 16
      · skip
        obtain ⟨a, ha⟩ : ∃ z, vl fx kx = z := ⟨_, rfl⟩
        obtain ⟨b, hb⟩ : ∃ z, vl fy ky = z := ⟨_, rfl⟩
        obtain ⟨c, hc⟩ : ∃ z, vl fz kz = z := ⟨_, rfl⟩
        exact ring_main vx kx fx vy ky fy vz kz fz a b c w HWx HFx (Lib.hid ha) HWy HFy (Lib.hid hb) HWz HFz (Lib.hid hc) hkx hky hkz HT
      · exact ring_big3 vx kx fx vy ky fy vz kz fz _ _ _  w HWx HFx (Lib.hid rfl) HWy HFy (Lib.hid rfl) HWz HFz (Lib.hid rfl) hkx hky (by omega) HT
    · exact ring_big2 vx kx fx vy ky fy vz kz fz _ _ _  w HWx HFx (Lib.hid rfl) HWy HFy (Lib.hid rfl) HWz HFz (Lib.hid rfl) hkx (by omega) HT
  · exact ring_big1 vx kx fx vy ky fy vz kz fz _ _ _  w HWx HFx (Lib.hid rfl) HWy HFy (Lib.hid rfl) HWz HFz (Lib.hid rfl)  (by omega) HT

end Go.Proofs.YteenojfbnbkedaaDoor
