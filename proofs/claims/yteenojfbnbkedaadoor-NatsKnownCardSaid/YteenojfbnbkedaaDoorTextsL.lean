
/- NatsTexts: the law's walk. -/
import Derived.Test.YteenojfbnbkedaaDoorSh
import Derived.Test.YteenojfbnbkedaaDoorPlainN
import Derived.Test.YteenojfbnbkedaaDoorTextQ
namespace Go.Proofs.YteenojfbnbkedaaDoor
open Go.RowKit
set_option linter.unusedSimpArgs false
set_option linter.unusedVariables false
attribute [local go_sem ↓] Go.wp_at_zero Go.wp_at_succ
attribute [local go_sem ↓] eq_nat eq_nat_zero
theorem qz (q : Nat) : Hid (q = 0) ∨ ∃ p, Hid (q = p + 1) := by
  rcases q with _ | p
  · exact .inl (Lib.hid rfl)
  · exact .inr ⟨p, Lib.hid rfl⟩
theorem pow_le_nb {a q p : Nat} (hp : q = p + 1) (h : nb a = q) : 2 ^ p ≤ a := by
  rcases Nat.lt_or_ge a (2 ^ p) with h2 | h2
  · have := nb_le.2 h2
    omega
  · exact h2
theorem text_size (a : Nat) (h : wl a ≤ 20) : Lib.nDigits a ≤ 1000 := by
  have := nDigits_nb a
  have := nb_wl a
  omega

theorem twa (a b : Nat) (s t : ByteArray) (hs : (⟨(Lib.decDigits a).toArray⟩ : ByteArray) = s) (ht : (⟨(Lib.decDigits b).toArray⟩ : ByteArray) = t) :
    (a < b ∧ s.size < t.size ∧ (s.toList == t.toList) = false) ∨ (b < a ∧ t.size < s.size ∧ (s.toList == t.toList) = false) ∨ (a < b ∧ Hid (s.size = t.size) ∧ (s.toList == t.toList) = false ∧ Op.bytesLess s.toList t.toList = true)
      ∨ (b < a ∧ Hid (s.size = t.size) ∧ (s.toList == t.toList) = false ∧ Op.bytesLess s.toList t.toList = false) ∨ (Hid (a = b) ∧ Hid (s.size = t.size) ∧ (s.toList == t.toList) = true ∧ Op.bytesLess s.toList t.toList = false) := by
  have e1 : s.toList = Lib.decDigits a := by rw [← hs, ByteArray.toList_eq]
  have e2 : t.toList = Lib.decDigits b := by rw [← ht, ByteArray.toList_eq]
  have z1 : s.size = Lib.nDigits a := by rw [← hs, size_mk, Lib.decDigits_length]
  have z2 : t.size = Lib.nDigits b := by rw [← ht, size_mk, Lib.decDigits_length]
  rw [e1, e2, z1, z2]
  have hne : a ≠ b → (Lib.decDigits a == Lib.decDigits b) = false := fun h => by
    rw [beq_eq_false_iff_ne]; exact fun e => h (dec_inj e)
  rcases Nat.lt_trichotomy a b with h | h | h
  · have hm := nDigits_mono (Nat.le_of_lt h)
    by_cases hd : Lib.nDigits a = Lib.nDigits b
    · exact .inr (.inr (.inl ⟨h, Lib.hid hd, hne (Nat.ne_of_lt h), by rw [less_dec hd, decide_eq_true h]⟩))
    · exact .inl ⟨h, by omega, hne (Nat.ne_of_lt h)⟩
  · subst h
    exact .inr (.inr (.inr (.inr ⟨Lib.hid rfl, Lib.hid rfl, by simp, by rw [less_dec rfl]; simp⟩)))
  · have hm := nDigits_mono (Nat.le_of_lt h)
    by_cases hd : Lib.nDigits a = Lib.nDigits b
    · exact .inr (.inr (.inr (.inl ⟨h, Lib.hid hd, hne (Nat.ne_of_gt h), by rw [less_dec hd, decide_eq_false (by omega)]⟩)))
    · exact .inr (.inl ⟨h, by omega, hne (Nat.ne_of_gt h)⟩)

set_option maxRecDepth 100000 in
set_option maxHeartbeats 16000000 in
theorem text_main (vx : Value) (kx : Nat) (fx : Nat → Nat) (vy : Value) (ky : Nat) (fy : Nat → Nat) (a b : Nat) (s t : ByteArray) (q : Nat) (w : World) (HWx : Hid (Wa w vx kx fx)) (HFx : Hid (∀ i, i < kx → fx i < 4294967296)) (HVx : Hid (vl fx kx = a)) (HWy : Hid (Wa w vy ky fy)) (HFy : Hid (∀ i, i < ky → fy i < 4294967296)) (HVy : Hid (vl fy ky = b)) (hkx : kx ≤ 20) (hky : ky ≤ 20) (HTX : Hid ((⟨(Lib.decDigits a).toArray⟩ : ByteArray) = s)) (HTY : Hid ((⟨(Lib.decDigits b).toArray⟩ : ByteArray) = t)) (HPN : Hid (pnum s = a)) (HPC : Hid (pcode s = 0)) (hs : s.size ≤ 1000) (ht : t.size ≤ 1000) (HNB : Hid (nb a = q)) (hqb : q ≤ 640) (HT : Hid (Tab w)) :
    Calls Tryd.prog 9 #[vx, vy] w fun e w' => e = .returned (.bool true) ∧ Below w.heap.size w w' := by
  obtain ⟨ao_x, c_x, rfl⟩ := HWx.out.slice
  obtain ⟨ao_y, c_y, rfl⟩ := HWy.out.slice
  have hb_a : wl a ≤ 20 := by rw [← HVx.out]; have := wl_le.2 (vl_lt HFx.out); omega
  have hb_b : wl b ≤ 20 := by rw [← HVy.out]; have := wl_le.2 (vl_lt HFy.out); omega
  go_enter Tryd.func9, Tryd.ntmps9
  refine sK fun K hK => ?_
  refine wp_region_lit ?_
  go_wp2
  refine hK.out _ _ ?_; clear hK K
  show Code.wp _ _ _ _ _
  refine forgetW (fun w2 => Below w.heap.size w w2) (Below.refl _ _) ?_
  rintro Wx HB
  replace HB := Lib.hid HB
  refine wp_seq ?_
  have hd1 : ¬ (20 < ((kx : Int))) := by omega
  have hd2 : ¬ (20 < ((ky : Int))) := by omega
  refine sK fun K hK => ?_
  refine wp_region_seqplan 8 [(true, 0), (true, 1), (true, 2), (true, 3), (true, 4), (true, 5), (true, 6), (true, 7)] (by rfl) (by simp) (fun T hT => ?_)
  iterate 8 (refine wpPlan_takeL (v := ?_) rfl (by rfl) (fun w' hw => ?_) ?_; rotate_left; go_simp; with_reducible rfl; simp only [Act.put, rA, rB, rC])
  refine wpPlan_nil (hT.out _ _ ?_); clear hT T
  intro vw1 hg
  simp only [puts, Act.put, rA, rB, rC, rD, rE, ↓reduceIte, Nat.reduceEqDiff]
  have HG := Lib.hid (hg)
  clear hg
  have r0 := Gr.refl vw1
  go_wp2
  refine hK.out _ _ ?_; clear hK K
  show Code.wp _ _ _ _ _
  clear r0
  refine forgetW (fun w2 => Below w.heap.size w w2) (HB.out.trans (HG.out.mono HB.out.size)) ?_
  clear HB HG
  rintro Wx1 HB
  replace HB := Lib.hid HB
  clear hd1 hd2
  refine wp_cond_false (by rfl) ?_
  refine wp_skip ?_
  show Code.wp _ _ _ _ _
  refine sK fun K hK => ?_
  refine wp_region_seqplan 4 [(true, 0), (true, 1), (true, 2), (true, 3)] (by rfl) (by simp) (fun T hT => ?_)
  refine wpPlan_takeL (v := ?_) rfl (by rfl) (fun w' hw => ?_) ?_; rotate_left; go_simp; with_reducible rfl; simp only [Act.put, rA, rB, rC]
  refine wpPlan_callL rfl (by rfl) Tryd.call13 (fun w' hw => zmade _ kx fx a w _ HVx.out (by omega) HWx.out (Gr.trans HB.out hw) HFx.out) (by rfl) ?_
  simp only [Act.put, rA, rB, rC]
  refine wpPlan_takeL (v := ?_) rfl (by rfl) (fun w' hw => ?_) ?_; rotate_left; go_simp; with_reducible rfl; simp only [Act.put, rA, rB, rC]
  refine wpPlan_callL rfl (by rfl) Tryd.call13 (fun w' hw => zmade _ ky fy b w _ HVy.out (by omega) HWy.out (Gr.trans HB.out hw) HFy.out) (by rfl) ?_
  simp only [Act.put, rA, rB, rC]
  refine wpPlan_nil (hT.out _ _ ?_); clear hT T
  intro vw2 hg
  simp only [puts, Act.put, rA, rB, rC, rD, rE, ↓reduceIte, Nat.reduceEqDiff]
  have HG := Lib.hid (hg)
  clear hg
  have r0 := Gr.refl vw2
  go_wp2
  refine hK.out _ _ ?_; clear hK K
  show Code.wp _ _ _ _ _
  clear r0
  have hsz : w.heap.size ≤ vw2.heap.size := Nat.le_trans HB.out.size HG.out.size
  refine forgetW (fun w2 => NX w2 (vw2.heap.size) (a) ∧ NX w2 (vw2.heap.size + 1) (b) ∧ Below w.heap.size w w2) ⟨((Bx.at (by simp) : Bx _ (vw2.heap.size) _ _)).alloc _, (Bx.at (by simp) : Bx _ (vw2.heap.size + 1) _ _), ((HB.out.trans (HG.out.mono HB.out.size)).alloc (by first | omega | (simp; omega)) _).alloc (by first | omega | (simp; omega)) _⟩ ?_
  clear HB HG
  rintro Wx3 ⟨bx0, bx1, HB⟩
  replace HB := Lib.hid HB
  have qx0_1 : vw2.heap.size < vw2.heap.size + 1 := by omega
  have yx1 : w.heap.size ≤ vw2.heap.size + 1 := by omega
  generalize hx1 : vw2.heap.size + 1 = gx1 at *
  clear hx1
  have yx0 : w.heap.size ≤ vw2.heap.size := by omega
  generalize hx0 : vw2.heap.size = gx0 at *
  clear hx0
  clear hsz
  have lx0 := bx0.cells
  have lx1 := bx1.cells
  have BX0 := Lib.hid bx0
  have BX1 := Lib.hid bx1
  clear bx0 bx1
  refine sK fun K hK => ?_
  refine wp_region_plan 5 [] [] (fun _ => 0) (fun _ => .cells #[] 0) [(true, 0), (true, 2), (true, 1), (true, 3), (true, 4)] (by kernel_rfl) (by kernel_rfl) (fun i hi => by cases hi) (fun i hi => by cases hi) (fun _ _ _ _ _ h => h) (fun T hT => ?_)
  iterate 2 (refine wpPlan_takeL (v := ?_) rfl (by rfl) (fun w' hw => ?_) ?_; rotate_left; go_simp; with_reducible rfl; simp only [Act.put, rA, rB, rC])
  refine wpPlan_callL rfl (by rfl) Tryd.call36 (fun w' hw => nztexts (a) s _ HTX.out (by omega) (Lib.hid (HT.out.gr (Gr.trans HB.out hw)))) (by rfl) ?_
  simp only [Act.put, rA, rB, rC]
  refine wpPlan_callL rfl (by rfl) Tryd.call36 (fun w' hw => nztexts (b) t _ HTY.out (by omega) (Lib.hid (HT.out.gr (Gr.trans HB.out hw)))) (by rfl) ?_
  simp only [Act.put, rA, rB, rC]
  refine wpPlan_takeL (v := ?_) rfl (by rfl) (fun w' hw => ?_) ?_; rotate_left; go_simp; with_reducible rfl; simp only [Act.put, rA, rB, rC]
  refine wpPlan_nil (hT.out _ _ ?_); clear hT T
  intro G vw3 hg hf
  simp only [puts, Act.put, rA, rB, rC, rD, rE, ↓reduceIte, Nat.reduceEqDiff]
  clear lx0 lx1
  have HG := Lib.hid (hg)
  clear hg
  replace BX0 := bG BX0 HG
  replace BX1 := bG BX1 HG
  have r0 := Gr.refl vw3
  go_wp2
  refine hK.out _ _ ?_; clear hK K
  show Code.wp _ _ _ _ _
  clear r0
  refine forgetW (fun w2 => NX w2 gx0 (a) ∧ NX w2 gx1 (b) ∧ Below w.heap.size w w2) ⟨BX0.out, BX1.out, HB.out.trans (HG.out.mono HB.out.size)⟩ ?_
  clear HB HG BX0 BX1
  rintro Wx4 ⟨bx0, bx1, HB⟩
  replace HB := Lib.hid HB
  have BX0 := Lib.hid bx0
  have BX1 := Lib.hid bx1
  clear bx0 bx1
  refine sK fun K hK => ?_
  refine wp_region_seqplan 5 [(true, 0), (true, 1), (true, 2), (true, 3), (true, 4)] (by rfl) (by simp) (fun T hT => ?_)
  refine wpPlan_takeL (v := ?_) rfl (by rfl) (fun w' hw => ?_) ?_; rotate_left; go_simp; with_reducible rfl; simp only [Act.put, rA, rB, rC]
  refine wpPlan_callL rfl (by rfl) Tryd.call34 (fun w' hw => nzparse s a 0 _ HPN.out HPC.out (by omega)) (by rfl) ?_
  simp only [Act.put, rA, rB, rC]
  iterate 3 (refine wpPlan_takeL (v := ?_) rfl (by rfl) (fun w' hw => ?_) ?_; rotate_left; go_simp; with_reducible rfl; simp only [Act.put, rA, rB, rC])
  refine wpPlan_nil (hT.out _ _ ?_); clear hT T
  intro vw4 hg
  simp only [puts, Act.put, rA, rB, rC, rD, rE, ↓reduceIte, Nat.reduceEqDiff]
  have HG := Lib.hid (hg)
  clear hg
  replace BX0 := bG BX0 HG
  replace BX1 := bG BX1 HG
  have r0 := Gr.refl vw4
  go_wp2
  refine hK.out _ _ ?_; clear hK K
  show Code.wp _ _ _ _ _
  clear r0
  have hsz : w.heap.size ≤ vw4.heap.size := Nat.le_trans HB.out.size HG.out.size
  have mx0 : gx0 < vw4.heap.size := BX0.out.lt
  have mx1 : gx1 < vw4.heap.size := BX1.out.lt
  refine forgetW (fun w2 => NX w2 gx0 (a) ∧ NX w2 gx1 (b) ∧ NX w2 (vw4.heap.size) (a) ∧ Below w.heap.size w w2) ⟨(BX0.out).alloc _, (BX1.out).alloc _, (Bx.at (by simp) : Bx _ (vw4.heap.size) _ _), (HB.out.trans (HG.out.mono HB.out.size)).alloc (by first | omega | (simp; omega)) _⟩ ?_
  clear HB HG BX0 BX1
  rintro Wx5 ⟨bx0, bx1, bx2, HB⟩
  replace HB := Lib.hid HB
  have yx2 : w.heap.size ≤ vw4.heap.size := by omega
  have qx0_2 : gx0 < vw4.heap.size := by omega
  have qx1_2 : gx1 < vw4.heap.size := by omega
  generalize hx2 : vw4.heap.size = gx2 at *
  clear hx2
  clear hsz mx0 mx1
  refine wp_seq ?_
  rcases twa a b s t HTX.out HTY.out with ⟨hlt, hsz, hse⟩ | ⟨hlt, hsz, hse⟩ | ⟨hlt, hsz, hse, hle⟩ | ⟨hlt, hsz, hse, hle⟩ | ⟨heq, hsz, hse, hle⟩
  · -- region 6
    have hab2 : decide (a = b) = false := by exact decide_eq_false (by omega)
    have hgt : ¬ ((t.size : Int) < (s.size : Int)) := by omega
    have hge : ((s.size : Int) == (t.size : Int)) = false := by have e8 : ¬ ((s.size : Int) = (t.size : Int)) := (by omega); simpa using e8
    have lx0 := bx0.cells
    have lx1 := bx1.cells
    have lx2 := bx2.cells
    have BX0 := Lib.hid bx0
    have BX1 := Lib.hid bx1
    have BX2 := Lib.hid bx2
    clear bx0 bx1 bx2
    refine sK fun K hK => ?_
    refine wp_region_seqplan 46 [(true, 0), (true, 1), (true, 2), (true, 3), (true, 4), (true, 5), (true, 6), (true, 7), (true, 8), (true, 9), (true, 10), (true, 11), (true, 12), (true, 13), (true, 14), (true, 15), (true, 16), (true, 17), (true, 18), (true, 19), (true, 20), (true, 21), (true, 22), (true, 23), (true, 24), (true, 25), (true, 26), (true, 27), (true, 28), (true, 29), (true, 30), (true, 31), (true, 32), (true, 33), (true, 34), (true, 35), (true, 36), (true, 37), (true, 38), (true, 39), (true, 40), (true, 41), (true, 42), (true, 43), (true, 44), (true, 45)] (by rfl) (by simp) (fun T hT => ?_)
    iterate 23 (refine wpPlan_takeL (v := ?_) rfl (by rfl) (fun w' hw => ?_) ?_; rotate_left; go_simp; with_reducible rfl; simp only [Act.put, rA, rB, rC])
    iterate 4 (refine wpPlan_skipL rfl (by rfl) ?_; simp only [Act.put, rA, rB, rC])
    iterate 9 (refine wpPlan_takeL (v := ?_) rfl (by rfl) (fun w' hw => ?_) ?_; rotate_left; go_simp; with_reducible rfl; simp only [Act.put, rA, rB, rC])
    iterate 8 (refine wpPlan_skipL rfl (by rfl) ?_; simp only [Act.put, rA, rB, rC])
    iterate 2 (refine wpPlan_takeL (v := ?_) rfl (by rfl) (fun w' hw => ?_) ?_; rotate_left; go_simp; with_reducible rfl; simp only [Act.put, rA, rB, rC])
    refine wpPlan_nil (hT.out _ _ ?_); clear hT T
    intro vw5 hg
    simp only [puts, Act.put, rA, rB, rC, rD, rE, ↓reduceIte, Nat.reduceEqDiff]
    clear lx0 lx1 lx2
    have HG := Lib.hid (hg)
    clear hg
    replace BX0 := bG BX0 HG
    replace BX1 := bG BX1 HG
    replace BX2 := bG BX2 HG
    have r0 := Gr.refl vw5
    go_wp2
    refine hK.out _ _ ?_; clear hK K
    show Code.wp _ _ _ _ _
    clear r0
    refine forgetW (fun w2 => NX w2 gx0 (a) ∧ Below w.heap.size w w2) ⟨BX0.out, HB.out.trans (HG.out.mono HB.out.size)⟩ ?_
    clear HB HG BX0 BX1 BX2
    rintro Wx6 ⟨bx0, HB⟩
    replace HB := Lib.hid HB
    clear hab2 hgt hge
    refine wp_cond_false (by rfl) ?_
    refine wp_skip ?_
    show Code.wp _ _ _ _ _
    obtain ⟨u1, HZ1⟩ : ∃ z, Hid (rt (a) = z) := ⟨_, Lib.hid rfl⟩
    have su1 : wl (u1) ≤ 20 := by rw [← HZ1.out]; have := wl_mono (rt_self (a)); omega
    have lx0 := bx0.cells
    have BX0 := Lib.hid bx0
    clear bx0
    refine sK fun K hK => ?_
    refine wp_region_seqplan 2 [(true, 0), (true, 1)] (by rfl) (by simp) (fun T hT => ?_)
    refine wpPlan_takeL (v := ?_) rfl (by rfl) (fun w' hw => ?_) ?_; rotate_left; go_simp; with_reducible rfl; simp only [Act.put, rA, rB, rC]
    refine wpPlan_callL rfl (by rfl) Tryd.call28 (fun w' hw => nzsqrt (a) (u1) _ HZ1.out (by omega)) (by rfl) ?_
    simp only [Act.put, rA, rB, rC]
    refine wpPlan_nil (hT.out _ _ ?_); clear hT T
    intro vw6 hg
    simp only [puts, Act.put, rA, rB, rC, rD, rE, ↓reduceIte, Nat.reduceEqDiff]
    clear lx0
    have HG := Lib.hid (hg)
    clear hg
    replace BX0 := bG BX0 HG
    have r0 := Gr.refl vw6
    go_wp2
    refine hK.out _ _ ?_; clear hK K
    show Code.wp _ _ _ _ _
    clear r0
    have hsz : w.heap.size ≤ vw6.heap.size := Nat.le_trans HB.out.size HG.out.size
    have mx0 : gx0 < vw6.heap.size := BX0.out.lt
    refine forgetW (fun w2 => NX w2 gx0 (a) ∧ NX w2 (vw6.heap.size) (u1) ∧ Below w.heap.size w w2) ⟨(BX0.out).alloc _, (Bx.at (by simp) : Bx _ (vw6.heap.size) _ _), (HB.out.trans (HG.out.mono HB.out.size)).alloc (by first | omega | (simp; omega)) _⟩ ?_
    clear HB HG BX0
    rintro Wx8 ⟨bx0, bx3, HB⟩
    replace HB := Lib.hid HB
    have yx3 : w.heap.size ≤ vw6.heap.size := by omega
    have qx0_3 : gx0 < vw6.heap.size := by omega
    generalize hx3 : vw6.heap.size = gx3 at *
    clear hx3
    clear hsz mx0
    have su_0_9 : wl 1 ≤ 1 := wl_le.2 (by decide +kernel)
    obtain ⟨u2, HZ2⟩ : ∃ z, Hid ((u1) + (1) = z) := ⟨_, Lib.hid rfl⟩
    have su2 : wl (u2) ≤ 21 := by rw [← HZ2.out]; have := wl_add (u1) (1); omega
    have lx3 := bx3.cells
    have BX0 := Lib.hid bx0
    have BX3 := Lib.hid bx3
    clear bx0 bx3
    refine sK fun K hK => ?_
    refine wp_region_plan 4 [3] [] (fun _ => 12) (fun _ => .cells #[.int .u64 0, .string ⟨#[]⟩] 26) [(true, 0), (true, 1), (true, 2)] (by kernel_rfl) (by kernel_rfl) (by intro i hi; simp only [List.mem_cons, List.not_mem_nil, or_false] at hi; rcases hi with rfl <;> exact ⟨_, rfl, rfl, rfl, by simp, fun ρ w => by kernel_rfl⟩) (fun i hi => by cases hi) (fun _ _ _ _ _ h => h) (fun T hT => ?_)
    refine wpPlan_takeL (v := ?_) rfl (by rfl) (fun w' hw => ?_) ?_; rotate_left; go_simp; with_reducible rfl; simp only [Act.put, rA, rB, rC]
    refine wpPlan_callL rfl (by rfl) Tryd.call38 (fun w' hw => nzof 1 _ (by decide)) (by rfl) ?_
    simp only [Act.put, rA, rB, rC]
    refine wpPlan_callL rfl (by rfl) Tryd.call18 (fun w' hw => nzadd (u1) (1) (u2) _ HZ2.out (by omega) (by omega)) (by rfl) ?_
    simp only [Act.put, rA, rB, rC]
    refine wpPlan_nil (hT.out _ _ ?_); clear hT T
    intro G vw7 hg hf
    simp only [puts, Act.put, rA, rB, rC, rD, rE, ↓reduceIte, Nat.reduceEqDiff]
    clear lx3
    have HG := Lib.hid (hg)
    clear hg
    have bx4 := Bx.of_fresh hf (i := 3) (by decide) rfl
    have yx4 := (hf.1 3 (by decide)).1
    clear hf
    generalize G 3 = gx4 at *
    have qx0_4 : gx0 < gx4 := Nat.lt_of_lt_of_le BX0.out.lt yx4
    have qx3_4 : gx3 < gx4 := Nat.lt_of_lt_of_le BX3.out.lt yx4
    replace yx4 : w.heap.size ≤ gx4 := Nat.le_trans HB.out.size yx4
    replace BX0 := bG BX0 HG
    replace BX3 := bG BX3 HG
    have lx4 := bx4.cells; have fx4 := bx4.free
    have r0 := Gr.refl vw7
    have BX4 := Lib.hid bx4; clear bx4
    go_wp2
    refine hK.out _ _ ?_; clear hK K
    show Code.wp _ _ _ _ _
    clear lx4 fx4
    clear r0
    refine forgetW (fun w2 => NX w2 gx0 (a) ∧ NX w2 gx3 (u1) ∧ NX w2 gx4 (u2) ∧ Below w.heap.size w w2) ⟨so2 (BX0.out) (by show gx0 ≠ gx4; omega), so2 (BX3.out) (by show gx3 ≠ gx4; omega), (((BX4.out).set 0 _).set 1 _).eq (by simp only [rA, rB, rC]), sc2 (HB.out.trans (HG.out.mono HB.out.size)) (by show w.heap.size ≤ gx4; omega)⟩ ?_
    clear HB HG BX0 BX3 BX4
    rintro Wx9 ⟨bx0, bx3, bx4, HB⟩
    replace HB := Lib.hid HB
    have lx0 := bx0.cells
    have BX0 := Lib.hid bx0
    have BX3 := Lib.hid bx3
    have BX4 := Lib.hid bx4
    clear bx0 bx3 bx4
    refine sK fun K hK => ?_
    refine wp_region_seqplan 3 [(true, 0), (true, 1), (true, 2)] (by rfl) (by simp) (fun T hT => ?_)
    refine wpPlan_takeL (v := ?_) rfl (by rfl) (fun w' hw => ?_) ?_; rotate_left; go_simp; with_reducible rfl; simp only [Act.put, rA, rB, rC]
    refine wpPlan_callL rfl (by rfl) Tryd.call30 (fun w' hw => nzbits (a) q _ HNB.out (by omega)) (by rfl) ?_
    simp only [Act.put, rA, rB, rC]
    refine wpPlan_takeL (v := ?_) rfl (by rfl) (fun w' hw => ?_) ?_; rotate_left; go_simp; with_reducible rfl; simp only [Act.put, rA, rB, rC]
    refine wpPlan_nil (hT.out _ _ ?_); clear hT T
    intro vw8 hg
    simp only [puts, Act.put, rA, rB, rC, rD, rE, ↓reduceIte, Nat.reduceEqDiff]
    clear lx0
    have HG := Lib.hid (hg)
    clear hg
    replace BX0 := bG BX0 HG
    replace BX3 := bG BX3 HG
    replace BX4 := bG BX4 HG
    have r0 := Gr.refl vw8
    go_wp2
    refine hK.out _ _ ?_; clear hK K
    show Code.wp _ _ _ _ _
    clear r0
    refine forgetW (fun w2 => NX w2 gx0 (a) ∧ NX w2 gx3 (u1) ∧ NX w2 gx4 (u2) ∧ Below w.heap.size w w2) ⟨BX0.out, BX3.out, BX4.out, HB.out.trans (HG.out.mono HB.out.size)⟩ ?_
    clear HB HG BX0 BX3 BX4
    rintro Wx10 ⟨bx0, bx3, bx4, HB⟩
    replace HB := Lib.hid HB
    have su_1_11 : wl 2 ≤ 1 := wl_le.2 (by decide +kernel)
    obtain ⟨u4, HZ4⟩ : ∃ z, Hid ((2) ^ q = z) := ⟨_, Lib.hid rfl⟩
    have su4 : wl (u4) ≤ 8192 := by rw [← HZ4.out]; exact wl_pow _ _ (by have e7 : nb 2 = 2 := (by decide +kernel); rw [e7]; omega)
    have BX0 := Lib.hid bx0
    have BX3 := Lib.hid bx3
    have BX4 := Lib.hid bx4
    clear bx0 bx3 bx4
    refine sK fun K hK => ?_
    refine wp_region_seqplan 6 [(true, 0), (true, 1), (true, 2), (true, 3), (true, 4), (true, 5)] (by rfl) (by simp) (fun T hT => ?_)
    refine wpPlan_callL rfl (by rfl) Tryd.call38 (fun w' hw => nzof 2 _ (by decide)) (by rfl) ?_
    simp only [Act.put, rA, rB, rC]
    refine wpPlan_takeL (v := ?_) rfl (by rfl) (fun w' hw => ?_) ?_; rotate_left; go_simp; with_reducible rfl; simp only [Act.put, rA, rB, rC]
    refine wpPlan_callL rfl (by rfl) Tryd.call32 (fun w' hw => nzpow (2) q (u4) _ HZ4.out (by omega) (by have e7 : nb 2 = 2 := (by decide +kernel); rw [e7]; omega) (by omega)) (by rfl) ?_
    simp only [Act.put, rA, rB, rC]
    iterate 3 (refine wpPlan_takeL (v := ?_) rfl (by rfl) (fun w' hw => ?_) ?_; rotate_left; go_simp; with_reducible rfl; simp only [Act.put, rA, rB, rC])
    refine wpPlan_nil (hT.out _ _ ?_); clear hT T
    intro vw9 hg
    simp only [puts, Act.put, rA, rB, rC, rD, rE, ↓reduceIte, Nat.reduceEqDiff]
    have HG := Lib.hid (hg)
    clear hg
    replace BX0 := bG BX0 HG
    replace BX3 := bG BX3 HG
    replace BX4 := bG BX4 HG
    have r0 := Gr.refl vw9
    go_wp2
    refine hK.out _ _ ?_; clear hK K
    show Code.wp _ _ _ _ _
    clear r0
    have hsz : w.heap.size ≤ vw9.heap.size := Nat.le_trans HB.out.size HG.out.size
    have mx0 : gx0 < vw9.heap.size := BX0.out.lt
    have mx3 : gx3 < vw9.heap.size := BX3.out.lt
    have mx4 : gx4 < vw9.heap.size := BX4.out.lt
    refine forgetW (fun w2 => NX w2 gx0 (a) ∧ NX w2 gx3 (u1) ∧ NX w2 gx4 (u2) ∧ NX w2 (vw9.heap.size) (u4) ∧ Below w.heap.size w w2) ⟨(BX0.out).alloc _, (BX3.out).alloc _, (BX4.out).alloc _, (Bx.at (by simp) : Bx _ (vw9.heap.size) _ _), (HB.out.trans (HG.out.mono HB.out.size)).alloc (by first | omega | (simp; omega)) _⟩ ?_
    clear HB HG BX0 BX3 BX4
    rintro Wx11 ⟨bx0, bx3, bx4, bx5, HB⟩
    replace HB := Lib.hid HB
    have yx5 : w.heap.size ≤ vw9.heap.size := by omega
    have qx0_5 : gx0 < vw9.heap.size := by omega
    have qx3_5 : gx3 < vw9.heap.size := by omega
    have qx4_5 : gx4 < vw9.heap.size := by omega
    generalize hx5 : vw9.heap.size = gx5 at *
    clear hx5
    clear hsz mx0 mx3 mx4
    refine wp_seq ?_
    obtain ⟨u5, HZ5⟩ : ∃ z, Hid ((u1) * (u1) = z) := ⟨_, Lib.hid rfl⟩
    have su5 : wl (u5) ≤ 40 := by rw [← HZ5.out]; have := wl_mul (u1) (u1); omega
    obtain ⟨c6, HC6⟩ : ∃ c, Hid (cmpI (u5 : Nat) (a : Nat) = c) := ⟨_, Lib.hid rfl⟩
    have hc6 : ¬ 0 < c6 := by rw [← HC6.out]; exact cmpI_nonpos (by have e : (u5) ≤ (a) := (by simp only [← HZ5.out, ← HZ4.out, ← HZ2.out, ← HZ1.out]; exact rt_le _); omega)
    have hd3 : ¬ (0 < c6) := by omega
    obtain ⟨u7, HZ7⟩ : ∃ z, Hid ((u2) * (u2) = z) := ⟨_, Lib.hid rfl⟩
    have su7 : wl (u7) ≤ 42 := by rw [← HZ7.out]; have := wl_mul (u2) (u2); omega
    have lx0 := bx0.cells
    have lx3 := bx3.cells
    have lx4 := bx4.cells
    have lx5 := bx5.cells
    have BX0 := Lib.hid bx0
    have BX3 := Lib.hid bx3
    have BX4 := Lib.hid bx4
    have BX5 := Lib.hid bx5
    clear bx0 bx3 bx4 bx5
    refine sK fun K hK => ?_
    refine wp_region_plan 23 [] [] (fun _ => 0) (fun _ => .cells #[] 0) [(true, 0), (true, 1), (true, 3), (true, 2), (true, 4), (true, 5), (true, 6), (true, 7), (true, 8), (true, 10), (true, 9), (true, 11), (true, 12), (true, 13), (true, 14), (true, 15), (true, 16), (true, 17), (true, 18), (true, 19), (true, 20), (true, 21), (true, 22)] (by kernel_rfl) (by kernel_rfl) (fun i hi => by cases hi) (fun i hi => by cases hi) (fun _ _ _ _ _ h => h) (fun T hT => ?_)
    iterate 3 (refine wpPlan_takeL (v := ?_) rfl (by rfl) (fun w' hw => ?_) ?_; rotate_left; go_simp; with_reducible rfl; simp only [Act.put, rA, rB, rC])
    refine wpPlan_callL rfl (by rfl) Tryd.call23 (fun w' hw => nzmul (u1) (u1) (u5) _ HZ5.out (by omega) (by omega)) (by rfl) ?_
    simp only [Act.put, rA, rB, rC]
    refine wpPlan_callL rfl (by rfl) Tryd.call20 (fun w' hw => nzcmp (u5) (a) (c6) _ (HC6.out) (by omega) (by omega)) (by rfl) ?_
    simp only [Act.put, rA, rB, rC]
    iterate 5 (refine wpPlan_takeL (v := ?_) rfl (by rfl) (fun w' hw => ?_) ?_; rotate_left; go_simp; with_reducible rfl; simp only [Act.put, rA, rB, rC])
    refine wpPlan_callL rfl (by rfl) Tryd.call23 (fun w' hw => nzmul (u2) (u2) (u7) _ HZ7.out (by omega) (by omega)) (by rfl) ?_
    simp only [Act.put, rA, rB, rC]
    refine wpPlan_callL rfl (by rfl) Tryd.call20 (fun w' hw => nzcmp (u7) (a) (1) _ (cmpI_gt (by have e : (u7) > (a) := (by simp only [← HZ7.out, ← HZ5.out, ← HZ4.out, ← HZ2.out, ← HZ1.out]; exact rt_lt _); first | exact e | omega)) (by omega) (by omega)) (by rfl) ?_
    simp only [Act.put, rA, rB, rC]
    iterate 9 (refine wpPlan_takeL (v := ?_) rfl (by rfl) (fun w' hw => ?_) ?_; rotate_left; go_simp; with_reducible rfl; simp only [Act.put, rA, rB, rC])
    refine wpPlan_callL rfl (by rfl) Tryd.call20 (fun w' hw => nzcmp (a) (u4) (-1) _ (cmpI_lt (by have e : (a) < (u4) := (by simp only [← HZ7.out, ← HZ5.out, ← HZ4.out, ← HZ2.out, ← HZ1.out]; exact nb_le.1 (Nat.le_of_eq HNB.out)); first | exact e | omega)) (by omega) (by omega)) (by rfl) ?_
    simp only [Act.put, rA, rB, rC]
    refine wpPlan_takeL (v := ?_) rfl (by rfl) (fun w' hw => ?_) ?_; rotate_left; go_simp; with_reducible rfl; simp only [Act.put, rA, rB, rC]
    refine wpPlan_nil (hT.out _ _ ?_); clear hT T
    intro G vw10 hg hf
    simp only [puts, Act.put, rA, rB, rC, rD, rE, ↓reduceIte, Nat.reduceEqDiff]
    clear lx0 lx3 lx4 lx5
    have HG := Lib.hid (hg)
    clear hg
    replace BX0 := bG BX0 HG
    replace BX3 := bG BX3 HG
    replace BX4 := bG BX4 HG
    replace BX5 := bG BX5 HG
    have r0 := Gr.refl vw10
    go_wp2
    refine hK.out _ _ ?_; clear hK K
    show Code.wp _ _ _ _ _
    clear r0
    refine forgetW (fun w2 => NX w2 gx0 (a) ∧ Below w.heap.size w w2) ⟨BX0.out, HB.out.trans (HG.out.mono HB.out.size)⟩ ?_
    clear HB HG BX0 BX3 BX4 BX5
    rintro Wx12 ⟨bx0, HB⟩
    replace HB := Lib.hid HB
    clear hc6 hd3
    refine wp_cond_false (by rfl) ?_
    refine wp_skip ?_
    show Code.wp _ _ _ _ _
    rcases qz q with hq | ⟨p, hp⟩
    · -- region 14
      have su_2_14 : wl 2 ≤ 1 := wl_le.2 (by decide +kernel)
      have hq1 : (q : Int) - 1 = -1 := by have e9 := hq.out; omega
      have BX0 := Lib.hid bx0
      clear bx0
      refine sK fun K hK => ?_
      refine wp_region_seqplan 7 [(true, 0), (true, 1), (true, 2), (true, 3), (true, 4), (true, 5), (true, 6)] (by rfl) (by simp) (fun T hT => ?_)
      refine wpPlan_callL rfl (by rfl) Tryd.call38 (fun w' hw => nzof 2 _ (by decide)) (by rfl) ?_
      simp only [Act.put, rA, rB, rC]
      iterate 2 (refine wpPlan_takeL (v := ?_) rfl (by rfl) (fun w' hw => ?_) ?_; rotate_left; go_simp; with_reducible rfl; simp only [Act.put, rA, rB, rC])
      refine wpPlan_callL rfl (by rfl) Tryd.call32 (fun w' hw => pow_neg (2) (-1) _ (by omega) (by omega)) (by rfl) ?_
      simp only [Act.put, rA, rB, rC]
      iterate 3 (refine wpPlan_takeL (v := ?_) rfl (by rfl) (fun w' hw => ?_) ?_; rotate_left; go_simp; with_reducible rfl; simp only [Act.put, rA, rB, rC])
      refine wpPlan_nil (hT.out _ _ ?_); clear hT T
      intro vw11 hg
      simp only [puts, Act.put, rA, rB, rC, rD, rE, ↓reduceIte, Nat.reduceEqDiff]
      have HG := Lib.hid (hg)
      clear hg
      replace BX0 := bG BX0 HG
      have r0 := Gr.refl vw11
      go_wp2
      refine hK.out _ _ ?_; clear hK K
      show Code.wp _ _ _ _ _
      clear r0
      have hsz : w.heap.size ≤ vw11.heap.size := Nat.le_trans HB.out.size HG.out.size
      have mx0 : gx0 < vw11.heap.size := BX0.out.lt
      refine forgetW (fun w2 => NX w2 gx0 (a) ∧ NX w2 (vw11.heap.size) (0) ∧ Below w.heap.size w w2) ⟨(BX0.out).alloc _, (Bx.at (by simp) : Bx _ (vw11.heap.size) _ _), (HB.out.trans (HG.out.mono HB.out.size)).alloc (by first | omega | (simp; omega)) _⟩ ?_
      clear HB HG BX0
      rintro Wx14 ⟨bx0, bx6, HB⟩
      replace HB := Lib.hid HB
      have yx6 : w.heap.size ≤ vw11.heap.size := by omega
      have qx0_6 : gx0 < vw11.heap.size := by omega
      generalize hx6 : vw11.heap.size = gx6 at *
      clear hx6
      clear hsz mx0
      clear hq1
      have hq0 : ((q : Int) == 0) = true := by have e9 := hq.out; simp [e9]
      have ha0 : decide (a = 0) = true := decide_eq_true (by have e9 := hq.out; have e8 := nb_le.1 (Nat.le_of_eq HNB.out); rw [e9] at e8; simpa using e8)
      have lx0 := bx0.cells
      have lx6 := bx6.cells
      have BX0 := Lib.hid bx0
      have BX6 := Lib.hid bx6
      clear bx0 bx6
      refine sK fun K hK => ?_
      refine wp_region_seqplan 21 [(true, 0), (true, 1), (true, 2), (true, 3), (true, 4), (true, 5), (true, 6), (true, 7), (true, 8), (true, 9), (true, 10), (true, 11), (true, 12), (true, 13), (true, 14), (true, 15), (true, 16), (true, 17), (true, 18), (true, 19), (true, 20)] (by rfl) (by simp) (fun T hT => ?_)
      iterate 8 (refine wpPlan_takeL (v := ?_) rfl (by rfl) (fun w' hw => ?_) ?_; rotate_left; go_simp; with_reducible rfl; simp only [Act.put, rA, rB, rC])
      iterate 8 (refine wpPlan_skipL rfl (by rfl) ?_; simp only [Act.put, rA, rB, rC])
      iterate 2 (refine wpPlan_takeL (v := ?_) rfl (by rfl) (fun w' hw => ?_) ?_; rotate_left; go_simp; with_reducible rfl; simp only [Act.put, rA, rB, rC])
      refine wpPlan_callL rfl (by rfl) Tryd.call12 (fun w' hw => works_any _ (Lib.hid (HT.out.gr (Gr.trans HB.out hw)))) (by rfl) ?_
      simp only [Act.put, rA, rB, rC]
      iterate 2 (refine wpPlan_takeL (v := ?_) rfl (by rfl) (fun w' hw => ?_) ?_; rotate_left; go_simp; with_reducible rfl; simp only [Act.put, rA, rB, rC])
      refine wpPlan_nil (hT.out _ _ ?_); clear hT T
      intro vw12 hg
      simp only [puts, Act.put, rA, rB, rC, rD, rE, ↓reduceIte, Nat.reduceEqDiff]
      clear lx0 lx6
      have HG := Lib.hid (hg)
      clear hg
      replace BX0 := bG BX0 HG
      replace BX6 := bG BX6 HG
      have r0 := Gr.refl vw12
      go_wp2
      refine hK.out _ _ ?_; clear hK K
      show Code.wp _ _ _ _ _
      clear r0
      refine forgetW (fun w2 => Below w.heap.size w w2) (HB.out.trans (HG.out.mono HB.out.size)) ?_
      clear HB HG BX0 BX6
      rintro Wx15 HB
      replace HB := Lib.hid HB
      clear hq0 ha0
      refine wp_ret ?_
      try simp only [Exit.then, Exit.inBlock]
      have r0 := Gr.refl Wx15
      exact bodyPost_ret (v := .bool true) (by simp [results, Tryd.results9, go_sem]) rfl ⟨rfl, HB.out⟩

    · -- region 14
      have su_2_14 : wl 2 ≤ 1 := wl_le.2 (by decide +kernel)
      have hp2 : p ≤ 639 := by have e9 := hp.out; omega
      have hq1 : IntKind.i64.wrap (p : Int) = (p : Int) := by rw [IntKind.wrap_i64]; omega
      have hq2 : (q : Int) - 1 = (p : Int) := by have e9 := hp.out; omega
      obtain ⟨u8, HZ8⟩ : ∃ z, Hid ((2) ^ p = z) := ⟨_, Lib.hid rfl⟩
      have su8 : wl (u8) ≤ 8192 := by rw [← HZ8.out]; exact wl_pow _ _ (by have e7 : nb 2 = 2 := (by decide +kernel); rw [e7]; omega)
      have BX0 := Lib.hid bx0
      clear bx0
      refine sK fun K hK => ?_
      refine wp_region_seqplan 7 [(true, 0), (true, 1), (true, 2), (true, 3), (true, 4), (true, 5), (true, 6)] (by rfl) (by simp) (fun T hT => ?_)
      refine wpPlan_callL rfl (by rfl) Tryd.call38 (fun w' hw => nzof 2 _ (by decide)) (by rfl) ?_
      simp only [Act.put, rA, rB, rC]
      iterate 2 (refine wpPlan_takeL (v := ?_) rfl (by rfl) (fun w' hw => ?_) ?_; rotate_left; go_simp; with_reducible rfl; simp only [Act.put, rA, rB, rC])
      refine wpPlan_callL rfl (by rfl) Tryd.call32 (fun w' hw => nzpow (2) p (u8) _ HZ8.out (by omega) (by have e7 : nb 2 = 2 := (by decide +kernel); rw [e7]; omega) (by omega)) (by rfl) ?_
      simp only [Act.put, rA, rB, rC]
      iterate 3 (refine wpPlan_takeL (v := ?_) rfl (by rfl) (fun w' hw => ?_) ?_; rotate_left; go_simp; with_reducible rfl; simp only [Act.put, rA, rB, rC])
      refine wpPlan_nil (hT.out _ _ ?_); clear hT T
      intro vw11 hg
      simp only [puts, Act.put, rA, rB, rC, rD, rE, ↓reduceIte, Nat.reduceEqDiff]
      have HG := Lib.hid (hg)
      clear hg
      replace BX0 := bG BX0 HG
      have r0 := Gr.refl vw11
      go_wp2
      refine hK.out _ _ ?_; clear hK K
      show Code.wp _ _ _ _ _
      clear r0
      have hsz : w.heap.size ≤ vw11.heap.size := Nat.le_trans HB.out.size HG.out.size
      have mx0 : gx0 < vw11.heap.size := BX0.out.lt
      refine forgetW (fun w2 => NX w2 gx0 (a) ∧ NX w2 (vw11.heap.size) (u8) ∧ Below w.heap.size w w2) ⟨(BX0.out).alloc _, (Bx.at (by simp) : Bx _ (vw11.heap.size) _ _), (HB.out.trans (HG.out.mono HB.out.size)).alloc (by first | omega | (simp; omega)) _⟩ ?_
      clear HB HG BX0
      rintro Wx14 ⟨bx0, bx6, HB⟩
      replace HB := Lib.hid HB
      have yx6 : w.heap.size ≤ vw11.heap.size := by omega
      have qx0_6 : gx0 < vw11.heap.size := by omega
      generalize hx6 : vw11.heap.size = gx6 at *
      clear hx6
      clear hsz mx0
      clear hp2 hq1 hq2
      have hq0 : ((q : Int) == 0) = false := by have e9 : ¬ ((q : Int) = 0) := (by have e8 := hp.out; omega); simpa using e9
      obtain ⟨c9, HC9⟩ : ∃ c, Hid (cmpI (u8 : Nat) (a : Nat) = c) := ⟨_, Lib.hid rfl⟩
      have hc9 : ¬ 0 < c9 := by rw [← HC9.out]; exact cmpI_nonpos (by have e : (u8) ≤ (a) := (by simp only [← HZ8.out, ← HZ7.out, ← HZ5.out, ← HZ4.out, ← HZ2.out, ← HZ1.out]; exact pow_le_nb hp.out HNB.out); omega)
      have hd4 : c9 ≤ 0 := by omega
      have lx0 := bx0.cells
      have lx6 := bx6.cells
      have BX0 := Lib.hid bx0
      have BX6 := Lib.hid bx6
      clear bx0 bx6
      refine sK fun K hK => ?_
      refine wp_region_seqplan 21 [(true, 0), (true, 1), (true, 2), (true, 3), (true, 4), (true, 5), (true, 6), (true, 7), (true, 8), (true, 9), (true, 10), (true, 11), (true, 12), (true, 13), (true, 14), (true, 15), (true, 16), (true, 17), (true, 18), (true, 19), (true, 20)] (by rfl) (by simp) (fun T hT => ?_)
      iterate 3 (refine wpPlan_takeL (v := ?_) rfl (by rfl) (fun w' hw => ?_) ?_; rotate_left; go_simp; with_reducible rfl; simp only [Act.put, rA, rB, rC])
      iterate 3 (refine wpPlan_skipL rfl (by rfl) ?_; simp only [Act.put, rA, rB, rC])
      iterate 7 (refine wpPlan_takeL (v := ?_) rfl (by rfl) (fun w' hw => ?_) ?_; rotate_left; go_simp; with_reducible rfl; simp only [Act.put, rA, rB, rC])
      refine wpPlan_callL rfl (by rfl) Tryd.call20 (fun w' hw => nzcmp (u8) (a) (c9) _ (HC9.out) (by omega) (by omega)) (by rfl) ?_
      simp only [Act.put, rA, rB, rC]
      iterate 4 (refine wpPlan_takeL (v := ?_) rfl (by rfl) (fun w' hw => ?_) ?_; rotate_left; go_simp; with_reducible rfl; simp only [Act.put, rA, rB, rC])
      refine wpPlan_callL rfl (by rfl) Tryd.call12 (fun w' hw => works_any _ (Lib.hid (HT.out.gr (Gr.trans HB.out hw)))) (by rfl) ?_
      simp only [Act.put, rA, rB, rC]
      iterate 2 (refine wpPlan_takeL (v := ?_) rfl (by rfl) (fun w' hw => ?_) ?_; rotate_left; go_simp; with_reducible rfl; simp only [Act.put, rA, rB, rC])
      refine wpPlan_nil (hT.out _ _ ?_); clear hT T
      intro vw12 hg
      simp only [puts, Act.put, rA, rB, rC, rD, rE, ↓reduceIte, Nat.reduceEqDiff]
      clear lx0 lx6
      have HG := Lib.hid (hg)
      clear hg
      replace BX0 := bG BX0 HG
      replace BX6 := bG BX6 HG
      have r0 := Gr.refl vw12
      go_wp2
      refine hK.out _ _ ?_; clear hK K
      show Code.wp _ _ _ _ _
      clear r0
      refine forgetW (fun w2 => Below w.heap.size w w2) (HB.out.trans (HG.out.mono HB.out.size)) ?_
      clear HB HG BX0 BX6
      rintro Wx15 HB
      replace HB := Lib.hid HB
      clear hq0 hc9 hd4
      refine wp_ret ?_
      try simp only [Exit.then, Exit.inBlock]
      have r0 := Gr.refl Wx15
      exact bodyPost_ret (v := .bool true) (by simp [results, Tryd.results9, go_sem]) rfl ⟨rfl, HB.out⟩

  · -- region 6
    have hab2 : decide (a = b) = false := by exact decide_eq_false (by omega)
    have hgt : (t.size : Int) < (s.size : Int) := by omega
    have hge : ((s.size : Int) == (t.size : Int)) = false := by have e8 : ¬ ((s.size : Int) = (t.size : Int)) := (by omega); simpa using e8
    have lx0 := bx0.cells
    have lx1 := bx1.cells
    have lx2 := bx2.cells
    have BX0 := Lib.hid bx0
    have BX1 := Lib.hid bx1
    have BX2 := Lib.hid bx2
    clear bx0 bx1 bx2
    refine sK fun K hK => ?_
    refine wp_region_seqplan 46 [(true, 0), (true, 1), (true, 2), (true, 3), (true, 4), (true, 5), (true, 6), (true, 7), (true, 8), (true, 9), (true, 10), (true, 11), (true, 12), (true, 13), (true, 14), (true, 15), (true, 16), (true, 17), (true, 18), (true, 19), (true, 20), (true, 21), (true, 22), (true, 23), (true, 24), (true, 25), (true, 26), (true, 27), (true, 28), (true, 29), (true, 30), (true, 31), (true, 32), (true, 33), (true, 34), (true, 35), (true, 36), (true, 37), (true, 38), (true, 39), (true, 40), (true, 41), (true, 42), (true, 43), (true, 44), (true, 45)] (by rfl) (by simp) (fun T hT => ?_)
    iterate 25 (refine wpPlan_takeL (v := ?_) rfl (by rfl) (fun w' hw => ?_) ?_; rotate_left; go_simp; with_reducible rfl; simp only [Act.put, rA, rB, rC])
    refine wpPlan_callL rfl (by rfl) Tryd.call20 (fun w' hw => nzcmp (a) (b) (1) _ (cmpI_gt (by have e : (a) > (b) := (by omega); first | exact e | omega)) (by omega) (by omega)) (by rfl) ?_
    simp only [Act.put, rA, rB, rC]
    iterate 10 (refine wpPlan_takeL (v := ?_) rfl (by rfl) (fun w' hw => ?_) ?_; rotate_left; go_simp; with_reducible rfl; simp only [Act.put, rA, rB, rC])
    iterate 8 (refine wpPlan_skipL rfl (by rfl) ?_; simp only [Act.put, rA, rB, rC])
    iterate 2 (refine wpPlan_takeL (v := ?_) rfl (by rfl) (fun w' hw => ?_) ?_; rotate_left; go_simp; with_reducible rfl; simp only [Act.put, rA, rB, rC])
    refine wpPlan_nil (hT.out _ _ ?_); clear hT T
    intro vw5 hg
    simp only [puts, Act.put, rA, rB, rC, rD, rE, ↓reduceIte, Nat.reduceEqDiff]
    clear lx0 lx1 lx2
    have HG := Lib.hid (hg)
    clear hg
    replace BX0 := bG BX0 HG
    replace BX1 := bG BX1 HG
    replace BX2 := bG BX2 HG
    have r0 := Gr.refl vw5
    go_wp2
    refine hK.out _ _ ?_; clear hK K
    show Code.wp _ _ _ _ _
    clear r0
    refine forgetW (fun w2 => NX w2 gx0 (a) ∧ Below w.heap.size w w2) ⟨BX0.out, HB.out.trans (HG.out.mono HB.out.size)⟩ ?_
    clear HB HG BX0 BX1 BX2
    rintro Wx6 ⟨bx0, HB⟩
    replace HB := Lib.hid HB
    clear hab2 hgt hge
    refine wp_cond_false (by rfl) ?_
    refine wp_skip ?_
    show Code.wp _ _ _ _ _
    obtain ⟨u1, HZ1⟩ : ∃ z, Hid (rt (a) = z) := ⟨_, Lib.hid rfl⟩
    have su1 : wl (u1) ≤ 20 := by rw [← HZ1.out]; have := wl_mono (rt_self (a)); omega
    have lx0 := bx0.cells
    have BX0 := Lib.hid bx0
    clear bx0
    refine sK fun K hK => ?_
    refine wp_region_seqplan 2 [(true, 0), (true, 1)] (by rfl) (by simp) (fun T hT => ?_)
    refine wpPlan_takeL (v := ?_) rfl (by rfl) (fun w' hw => ?_) ?_; rotate_left; go_simp; with_reducible rfl; simp only [Act.put, rA, rB, rC]
    refine wpPlan_callL rfl (by rfl) Tryd.call28 (fun w' hw => nzsqrt (a) (u1) _ HZ1.out (by omega)) (by rfl) ?_
    simp only [Act.put, rA, rB, rC]
    refine wpPlan_nil (hT.out _ _ ?_); clear hT T
    intro vw6 hg
    simp only [puts, Act.put, rA, rB, rC, rD, rE, ↓reduceIte, Nat.reduceEqDiff]
    clear lx0
    have HG := Lib.hid (hg)
    clear hg
    replace BX0 := bG BX0 HG
    have r0 := Gr.refl vw6
    go_wp2
    refine hK.out _ _ ?_; clear hK K
    show Code.wp _ _ _ _ _
    clear r0
    have hsz : w.heap.size ≤ vw6.heap.size := Nat.le_trans HB.out.size HG.out.size
    have mx0 : gx0 < vw6.heap.size := BX0.out.lt
    refine forgetW (fun w2 => NX w2 gx0 (a) ∧ NX w2 (vw6.heap.size) (u1) ∧ Below w.heap.size w w2) ⟨(BX0.out).alloc _, (Bx.at (by simp) : Bx _ (vw6.heap.size) _ _), (HB.out.trans (HG.out.mono HB.out.size)).alloc (by first | omega | (simp; omega)) _⟩ ?_
    clear HB HG BX0
    rintro Wx8 ⟨bx0, bx3, HB⟩
    replace HB := Lib.hid HB
    have yx3 : w.heap.size ≤ vw6.heap.size := by omega
    have qx0_3 : gx0 < vw6.heap.size := by omega
    generalize hx3 : vw6.heap.size = gx3 at *
    clear hx3
    clear hsz mx0
    have su_0_9 : wl 1 ≤ 1 := wl_le.2 (by decide +kernel)
    obtain ⟨u2, HZ2⟩ : ∃ z, Hid ((u1) + (1) = z) := ⟨_, Lib.hid rfl⟩
    have su2 : wl (u2) ≤ 21 := by rw [← HZ2.out]; have := wl_add (u1) (1); omega
    have lx3 := bx3.cells
    have BX0 := Lib.hid bx0
    have BX3 := Lib.hid bx3
    clear bx0 bx3
    refine sK fun K hK => ?_
    refine wp_region_plan 4 [3] [] (fun _ => 12) (fun _ => .cells #[.int .u64 0, .string ⟨#[]⟩] 26) [(true, 0), (true, 1), (true, 2)] (by kernel_rfl) (by kernel_rfl) (by intro i hi; simp only [List.mem_cons, List.not_mem_nil, or_false] at hi; rcases hi with rfl <;> exact ⟨_, rfl, rfl, rfl, by simp, fun ρ w => by kernel_rfl⟩) (fun i hi => by cases hi) (fun _ _ _ _ _ h => h) (fun T hT => ?_)
    refine wpPlan_takeL (v := ?_) rfl (by rfl) (fun w' hw => ?_) ?_; rotate_left; go_simp; with_reducible rfl; simp only [Act.put, rA, rB, rC]
    refine wpPlan_callL rfl (by rfl) Tryd.call38 (fun w' hw => nzof 1 _ (by decide)) (by rfl) ?_
    simp only [Act.put, rA, rB, rC]
    refine wpPlan_callL rfl (by rfl) Tryd.call18 (fun w' hw => nzadd (u1) (1) (u2) _ HZ2.out (by omega) (by omega)) (by rfl) ?_
    simp only [Act.put, rA, rB, rC]
    refine wpPlan_nil (hT.out _ _ ?_); clear hT T
    intro G vw7 hg hf
    simp only [puts, Act.put, rA, rB, rC, rD, rE, ↓reduceIte, Nat.reduceEqDiff]
    clear lx3
    have HG := Lib.hid (hg)
    clear hg
    have bx4 := Bx.of_fresh hf (i := 3) (by decide) rfl
    have yx4 := (hf.1 3 (by decide)).1
    clear hf
    generalize G 3 = gx4 at *
    have qx0_4 : gx0 < gx4 := Nat.lt_of_lt_of_le BX0.out.lt yx4
    have qx3_4 : gx3 < gx4 := Nat.lt_of_lt_of_le BX3.out.lt yx4
    replace yx4 : w.heap.size ≤ gx4 := Nat.le_trans HB.out.size yx4
    replace BX0 := bG BX0 HG
    replace BX3 := bG BX3 HG
    have lx4 := bx4.cells; have fx4 := bx4.free
    have r0 := Gr.refl vw7
    have BX4 := Lib.hid bx4; clear bx4
    go_wp2
    refine hK.out _ _ ?_; clear hK K
    show Code.wp _ _ _ _ _
    clear lx4 fx4
    clear r0
    refine forgetW (fun w2 => NX w2 gx0 (a) ∧ NX w2 gx3 (u1) ∧ NX w2 gx4 (u2) ∧ Below w.heap.size w w2) ⟨so2 (BX0.out) (by show gx0 ≠ gx4; omega), so2 (BX3.out) (by show gx3 ≠ gx4; omega), (((BX4.out).set 0 _).set 1 _).eq (by simp only [rA, rB, rC]), sc2 (HB.out.trans (HG.out.mono HB.out.size)) (by show w.heap.size ≤ gx4; omega)⟩ ?_
    clear HB HG BX0 BX3 BX4
    rintro Wx9 ⟨bx0, bx3, bx4, HB⟩
    replace HB := Lib.hid HB
    have lx0 := bx0.cells
    have BX0 := Lib.hid bx0
    have BX3 := Lib.hid bx3
    have BX4 := Lib.hid bx4
    clear bx0 bx3 bx4
    refine sK fun K hK => ?_
    refine wp_region_seqplan 3 [(true, 0), (true, 1), (true, 2)] (by rfl) (by simp) (fun T hT => ?_)
    refine wpPlan_takeL (v := ?_) rfl (by rfl) (fun w' hw => ?_) ?_; rotate_left; go_simp; with_reducible rfl; simp only [Act.put, rA, rB, rC]
    refine wpPlan_callL rfl (by rfl) Tryd.call30 (fun w' hw => nzbits (a) q _ HNB.out (by omega)) (by rfl) ?_
    simp only [Act.put, rA, rB, rC]
    refine wpPlan_takeL (v := ?_) rfl (by rfl) (fun w' hw => ?_) ?_; rotate_left; go_simp; with_reducible rfl; simp only [Act.put, rA, rB, rC]
    refine wpPlan_nil (hT.out _ _ ?_); clear hT T
    intro vw8 hg
    simp only [puts, Act.put, rA, rB, rC, rD, rE, ↓reduceIte, Nat.reduceEqDiff]
    clear lx0
    have HG := Lib.hid (hg)
    clear hg
    replace BX0 := bG BX0 HG
    replace BX3 := bG BX3 HG
    replace BX4 := bG BX4 HG
    have r0 := Gr.refl vw8
    go_wp2
    refine hK.out _ _ ?_; clear hK K
    show Code.wp _ _ _ _ _
    clear r0
    refine forgetW (fun w2 => NX w2 gx0 (a) ∧ NX w2 gx3 (u1) ∧ NX w2 gx4 (u2) ∧ Below w.heap.size w w2) ⟨BX0.out, BX3.out, BX4.out, HB.out.trans (HG.out.mono HB.out.size)⟩ ?_
    clear HB HG BX0 BX3 BX4
    rintro Wx10 ⟨bx0, bx3, bx4, HB⟩
    replace HB := Lib.hid HB
    have su_1_11 : wl 2 ≤ 1 := wl_le.2 (by decide +kernel)
    obtain ⟨u4, HZ4⟩ : ∃ z, Hid ((2) ^ q = z) := ⟨_, Lib.hid rfl⟩
    have su4 : wl (u4) ≤ 8192 := by rw [← HZ4.out]; exact wl_pow _ _ (by have e7 : nb 2 = 2 := (by decide +kernel); rw [e7]; omega)
    have BX0 := Lib.hid bx0
    have BX3 := Lib.hid bx3
    have BX4 := Lib.hid bx4
    clear bx0 bx3 bx4
    refine sK fun K hK => ?_
    refine wp_region_seqplan 6 [(true, 0), (true, 1), (true, 2), (true, 3), (true, 4), (true, 5)] (by rfl) (by simp) (fun T hT => ?_)
    refine wpPlan_callL rfl (by rfl) Tryd.call38 (fun w' hw => nzof 2 _ (by decide)) (by rfl) ?_
    simp only [Act.put, rA, rB, rC]
    refine wpPlan_takeL (v := ?_) rfl (by rfl) (fun w' hw => ?_) ?_; rotate_left; go_simp; with_reducible rfl; simp only [Act.put, rA, rB, rC]
    refine wpPlan_callL rfl (by rfl) Tryd.call32 (fun w' hw => nzpow (2) q (u4) _ HZ4.out (by omega) (by have e7 : nb 2 = 2 := (by decide +kernel); rw [e7]; omega) (by omega)) (by rfl) ?_
    simp only [Act.put, rA, rB, rC]
    iterate 3 (refine wpPlan_takeL (v := ?_) rfl (by rfl) (fun w' hw => ?_) ?_; rotate_left; go_simp; with_reducible rfl; simp only [Act.put, rA, rB, rC])
    refine wpPlan_nil (hT.out _ _ ?_); clear hT T
    intro vw9 hg
    simp only [puts, Act.put, rA, rB, rC, rD, rE, ↓reduceIte, Nat.reduceEqDiff]
    have HG := Lib.hid (hg)
    clear hg
    replace BX0 := bG BX0 HG
    replace BX3 := bG BX3 HG
    replace BX4 := bG BX4 HG
    have r0 := Gr.refl vw9
    go_wp2
    refine hK.out _ _ ?_; clear hK K
    show Code.wp _ _ _ _ _
    clear r0
    have hsz : w.heap.size ≤ vw9.heap.size := Nat.le_trans HB.out.size HG.out.size
    have mx0 : gx0 < vw9.heap.size := BX0.out.lt
    have mx3 : gx3 < vw9.heap.size := BX3.out.lt
    have mx4 : gx4 < vw9.heap.size := BX4.out.lt
    refine forgetW (fun w2 => NX w2 gx0 (a) ∧ NX w2 gx3 (u1) ∧ NX w2 gx4 (u2) ∧ NX w2 (vw9.heap.size) (u4) ∧ Below w.heap.size w w2) ⟨(BX0.out).alloc _, (BX3.out).alloc _, (BX4.out).alloc _, (Bx.at (by simp) : Bx _ (vw9.heap.size) _ _), (HB.out.trans (HG.out.mono HB.out.size)).alloc (by first | omega | (simp; omega)) _⟩ ?_
    clear HB HG BX0 BX3 BX4
    rintro Wx11 ⟨bx0, bx3, bx4, bx5, HB⟩
    replace HB := Lib.hid HB
    have yx5 : w.heap.size ≤ vw9.heap.size := by omega
    have qx0_5 : gx0 < vw9.heap.size := by omega
    have qx3_5 : gx3 < vw9.heap.size := by omega
    have qx4_5 : gx4 < vw9.heap.size := by omega
    generalize hx5 : vw9.heap.size = gx5 at *
    clear hx5
    clear hsz mx0 mx3 mx4
    refine wp_seq ?_
    obtain ⟨u5, HZ5⟩ : ∃ z, Hid ((u1) * (u1) = z) := ⟨_, Lib.hid rfl⟩
    have su5 : wl (u5) ≤ 40 := by rw [← HZ5.out]; have := wl_mul (u1) (u1); omega
    obtain ⟨c6, HC6⟩ : ∃ c, Hid (cmpI (u5 : Nat) (a : Nat) = c) := ⟨_, Lib.hid rfl⟩
    have hc6 : ¬ 0 < c6 := by rw [← HC6.out]; exact cmpI_nonpos (by have e : (u5) ≤ (a) := (by simp only [← HZ5.out, ← HZ4.out, ← HZ2.out, ← HZ1.out]; exact rt_le _); omega)
    have hd3 : ¬ (0 < c6) := by omega
    obtain ⟨u7, HZ7⟩ : ∃ z, Hid ((u2) * (u2) = z) := ⟨_, Lib.hid rfl⟩
    have su7 : wl (u7) ≤ 42 := by rw [← HZ7.out]; have := wl_mul (u2) (u2); omega
    have lx0 := bx0.cells
    have lx3 := bx3.cells
    have lx4 := bx4.cells
    have lx5 := bx5.cells
    have BX0 := Lib.hid bx0
    have BX3 := Lib.hid bx3
    have BX4 := Lib.hid bx4
    have BX5 := Lib.hid bx5
    clear bx0 bx3 bx4 bx5
    refine sK fun K hK => ?_
    refine wp_region_plan 23 [] [] (fun _ => 0) (fun _ => .cells #[] 0) [(true, 0), (true, 1), (true, 3), (true, 2), (true, 4), (true, 5), (true, 6), (true, 7), (true, 8), (true, 10), (true, 9), (true, 11), (true, 12), (true, 13), (true, 14), (true, 15), (true, 16), (true, 17), (true, 18), (true, 19), (true, 20), (true, 21), (true, 22)] (by kernel_rfl) (by kernel_rfl) (fun i hi => by cases hi) (fun i hi => by cases hi) (fun _ _ _ _ _ h => h) (fun T hT => ?_)
    iterate 3 (refine wpPlan_takeL (v := ?_) rfl (by rfl) (fun w' hw => ?_) ?_; rotate_left; go_simp; with_reducible rfl; simp only [Act.put, rA, rB, rC])
    refine wpPlan_callL rfl (by rfl) Tryd.call23 (fun w' hw => nzmul (u1) (u1) (u5) _ HZ5.out (by omega) (by omega)) (by rfl) ?_
    simp only [Act.put, rA, rB, rC]
    refine wpPlan_callL rfl (by rfl) Tryd.call20 (fun w' hw => nzcmp (u5) (a) (c6) _ (HC6.out) (by omega) (by omega)) (by rfl) ?_
    simp only [Act.put, rA, rB, rC]
    iterate 5 (refine wpPlan_takeL (v := ?_) rfl (by rfl) (fun w' hw => ?_) ?_; rotate_left; go_simp; with_reducible rfl; simp only [Act.put, rA, rB, rC])
    refine wpPlan_callL rfl (by rfl) Tryd.call23 (fun w' hw => nzmul (u2) (u2) (u7) _ HZ7.out (by omega) (by omega)) (by rfl) ?_
    simp only [Act.put, rA, rB, rC]
    refine wpPlan_callL rfl (by rfl) Tryd.call20 (fun w' hw => nzcmp (u7) (a) (1) _ (cmpI_gt (by have e : (u7) > (a) := (by simp only [← HZ7.out, ← HZ5.out, ← HZ4.out, ← HZ2.out, ← HZ1.out]; exact rt_lt _); first | exact e | omega)) (by omega) (by omega)) (by rfl) ?_
    simp only [Act.put, rA, rB, rC]
    iterate 9 (refine wpPlan_takeL (v := ?_) rfl (by rfl) (fun w' hw => ?_) ?_; rotate_left; go_simp; with_reducible rfl; simp only [Act.put, rA, rB, rC])
    refine wpPlan_callL rfl (by rfl) Tryd.call20 (fun w' hw => nzcmp (a) (u4) (-1) _ (cmpI_lt (by have e : (a) < (u4) := (by simp only [← HZ7.out, ← HZ5.out, ← HZ4.out, ← HZ2.out, ← HZ1.out]; exact nb_le.1 (Nat.le_of_eq HNB.out)); first | exact e | omega)) (by omega) (by omega)) (by rfl) ?_
    simp only [Act.put, rA, rB, rC]
    refine wpPlan_takeL (v := ?_) rfl (by rfl) (fun w' hw => ?_) ?_; rotate_left; go_simp; with_reducible rfl; simp only [Act.put, rA, rB, rC]
    refine wpPlan_nil (hT.out _ _ ?_); clear hT T
    intro G vw10 hg hf
    simp only [puts, Act.put, rA, rB, rC, rD, rE, ↓reduceIte, Nat.reduceEqDiff]
    clear lx0 lx3 lx4 lx5
    have HG := Lib.hid (hg)
    clear hg
    replace BX0 := bG BX0 HG
    replace BX3 := bG BX3 HG
    replace BX4 := bG BX4 HG
    replace BX5 := bG BX5 HG
    have r0 := Gr.refl vw10
    go_wp2
    refine hK.out _ _ ?_; clear hK K
    show Code.wp _ _ _ _ _
    clear r0
    refine forgetW (fun w2 => NX w2 gx0 (a) ∧ Below w.heap.size w w2) ⟨BX0.out, HB.out.trans (HG.out.mono HB.out.size)⟩ ?_
    clear HB HG BX0 BX3 BX4 BX5
    rintro Wx12 ⟨bx0, HB⟩
    replace HB := Lib.hid HB
    clear hc6 hd3
    refine wp_cond_false (by rfl) ?_
    refine wp_skip ?_
    show Code.wp _ _ _ _ _
    rcases qz q with hq | ⟨p, hp⟩
    · -- region 14
      have su_2_14 : wl 2 ≤ 1 := wl_le.2 (by decide +kernel)
      have hq1 : (q : Int) - 1 = -1 := by have e9 := hq.out; omega
      have BX0 := Lib.hid bx0
      clear bx0
      refine sK fun K hK => ?_
      refine wp_region_seqplan 7 [(true, 0), (true, 1), (true, 2), (true, 3), (true, 4), (true, 5), (true, 6)] (by rfl) (by simp) (fun T hT => ?_)
      refine wpPlan_callL rfl (by rfl) Tryd.call38 (fun w' hw => nzof 2 _ (by decide)) (by rfl) ?_
      simp only [Act.put, rA, rB, rC]
      iterate 2 (refine wpPlan_takeL (v := ?_) rfl (by rfl) (fun w' hw => ?_) ?_; rotate_left; go_simp; with_reducible rfl; simp only [Act.put, rA, rB, rC])
      refine wpPlan_callL rfl (by rfl) Tryd.call32 (fun w' hw => pow_neg (2) (-1) _ (by omega) (by omega)) (by rfl) ?_
      simp only [Act.put, rA, rB, rC]
      iterate 3 (refine wpPlan_takeL (v := ?_) rfl (by rfl) (fun w' hw => ?_) ?_; rotate_left; go_simp; with_reducible rfl; simp only [Act.put, rA, rB, rC])
      refine wpPlan_nil (hT.out _ _ ?_); clear hT T
      intro vw11 hg
      simp only [puts, Act.put, rA, rB, rC, rD, rE, ↓reduceIte, Nat.reduceEqDiff]
      have HG := Lib.hid (hg)
      clear hg
      replace BX0 := bG BX0 HG
      have r0 := Gr.refl vw11
      go_wp2
      refine hK.out _ _ ?_; clear hK K
      show Code.wp _ _ _ _ _
      clear r0
      have hsz : w.heap.size ≤ vw11.heap.size := Nat.le_trans HB.out.size HG.out.size
      have mx0 : gx0 < vw11.heap.size := BX0.out.lt
      refine forgetW (fun w2 => NX w2 gx0 (a) ∧ NX w2 (vw11.heap.size) (0) ∧ Below w.heap.size w w2) ⟨(BX0.out).alloc _, (Bx.at (by simp) : Bx _ (vw11.heap.size) _ _), (HB.out.trans (HG.out.mono HB.out.size)).alloc (by first | omega | (simp; omega)) _⟩ ?_
      clear HB HG BX0
      rintro Wx14 ⟨bx0, bx6, HB⟩
      replace HB := Lib.hid HB
      have yx6 : w.heap.size ≤ vw11.heap.size := by omega
      have qx0_6 : gx0 < vw11.heap.size := by omega
      generalize hx6 : vw11.heap.size = gx6 at *
      clear hx6
      clear hsz mx0
      clear hq1
      have hq0 : ((q : Int) == 0) = true := by have e9 := hq.out; simp [e9]
      have ha0 : decide (a = 0) = true := decide_eq_true (by have e9 := hq.out; have e8 := nb_le.1 (Nat.le_of_eq HNB.out); rw [e9] at e8; simpa using e8)
      have lx0 := bx0.cells
      have lx6 := bx6.cells
      have BX0 := Lib.hid bx0
      have BX6 := Lib.hid bx6
      clear bx0 bx6
      refine sK fun K hK => ?_
      refine wp_region_seqplan 21 [(true, 0), (true, 1), (true, 2), (true, 3), (true, 4), (true, 5), (true, 6), (true, 7), (true, 8), (true, 9), (true, 10), (true, 11), (true, 12), (true, 13), (true, 14), (true, 15), (true, 16), (true, 17), (true, 18), (true, 19), (true, 20)] (by rfl) (by simp) (fun T hT => ?_)
      iterate 8 (refine wpPlan_takeL (v := ?_) rfl (by rfl) (fun w' hw => ?_) ?_; rotate_left; go_simp; with_reducible rfl; simp only [Act.put, rA, rB, rC])
      iterate 8 (refine wpPlan_skipL rfl (by rfl) ?_; simp only [Act.put, rA, rB, rC])
      iterate 2 (refine wpPlan_takeL (v := ?_) rfl (by rfl) (fun w' hw => ?_) ?_; rotate_left; go_simp; with_reducible rfl; simp only [Act.put, rA, rB, rC])
      refine wpPlan_callL rfl (by rfl) Tryd.call12 (fun w' hw => works_any _ (Lib.hid (HT.out.gr (Gr.trans HB.out hw)))) (by rfl) ?_
      simp only [Act.put, rA, rB, rC]
      iterate 2 (refine wpPlan_takeL (v := ?_) rfl (by rfl) (fun w' hw => ?_) ?_; rotate_left; go_simp; with_reducible rfl; simp only [Act.put, rA, rB, rC])
      refine wpPlan_nil (hT.out _ _ ?_); clear hT T
      intro vw12 hg
      simp only [puts, Act.put, rA, rB, rC, rD, rE, ↓reduceIte, Nat.reduceEqDiff]
      clear lx0 lx6
      have HG := Lib.hid (hg)
      clear hg
      replace BX0 := bG BX0 HG
      replace BX6 := bG BX6 HG
      have r0 := Gr.refl vw12
      go_wp2
      refine hK.out _ _ ?_; clear hK K
      show Code.wp _ _ _ _ _
      clear r0
      refine forgetW (fun w2 => Below w.heap.size w w2) (HB.out.trans (HG.out.mono HB.out.size)) ?_
      clear HB HG BX0 BX6
      rintro Wx15 HB
      replace HB := Lib.hid HB
      clear hq0 ha0
      refine wp_ret ?_
      try simp only [Exit.then, Exit.inBlock]
      have r0 := Gr.refl Wx15
      exact bodyPost_ret (v := .bool true) (by simp [results, Tryd.results9, go_sem]) rfl ⟨rfl, HB.out⟩

    · -- region 14
      have su_2_14 : wl 2 ≤ 1 := wl_le.2 (by decide +kernel)
      have hp2 : p ≤ 639 := by have e9 := hp.out; omega
      have hq1 : IntKind.i64.wrap (p : Int) = (p : Int) := by rw [IntKind.wrap_i64]; omega
      have hq2 : (q : Int) - 1 = (p : Int) := by have e9 := hp.out; omega
      obtain ⟨u8, HZ8⟩ : ∃ z, Hid ((2) ^ p = z) := ⟨_, Lib.hid rfl⟩
      have su8 : wl (u8) ≤ 8192 := by rw [← HZ8.out]; exact wl_pow _ _ (by have e7 : nb 2 = 2 := (by decide +kernel); rw [e7]; omega)
      have BX0 := Lib.hid bx0
      clear bx0
      refine sK fun K hK => ?_
      refine wp_region_seqplan 7 [(true, 0), (true, 1), (true, 2), (true, 3), (true, 4), (true, 5), (true, 6)] (by rfl) (by simp) (fun T hT => ?_)
      refine wpPlan_callL rfl (by rfl) Tryd.call38 (fun w' hw => nzof 2 _ (by decide)) (by rfl) ?_
      simp only [Act.put, rA, rB, rC]
      iterate 2 (refine wpPlan_takeL (v := ?_) rfl (by rfl) (fun w' hw => ?_) ?_; rotate_left; go_simp; with_reducible rfl; simp only [Act.put, rA, rB, rC])
      refine wpPlan_callL rfl (by rfl) Tryd.call32 (fun w' hw => nzpow (2) p (u8) _ HZ8.out (by omega) (by have e7 : nb 2 = 2 := (by decide +kernel); rw [e7]; omega) (by omega)) (by rfl) ?_
      simp only [Act.put, rA, rB, rC]
      iterate 3 (refine wpPlan_takeL (v := ?_) rfl (by rfl) (fun w' hw => ?_) ?_; rotate_left; go_simp; with_reducible rfl; simp only [Act.put, rA, rB, rC])
      refine wpPlan_nil (hT.out _ _ ?_); clear hT T
      intro vw11 hg
      simp only [puts, Act.put, rA, rB, rC, rD, rE, ↓reduceIte, Nat.reduceEqDiff]
      have HG := Lib.hid (hg)
      clear hg
      replace BX0 := bG BX0 HG
      have r0 := Gr.refl vw11
      go_wp2
      refine hK.out _ _ ?_; clear hK K
      show Code.wp _ _ _ _ _
      clear r0
      have hsz : w.heap.size ≤ vw11.heap.size := Nat.le_trans HB.out.size HG.out.size
      have mx0 : gx0 < vw11.heap.size := BX0.out.lt
      refine forgetW (fun w2 => NX w2 gx0 (a) ∧ NX w2 (vw11.heap.size) (u8) ∧ Below w.heap.size w w2) ⟨(BX0.out).alloc _, (Bx.at (by simp) : Bx _ (vw11.heap.size) _ _), (HB.out.trans (HG.out.mono HB.out.size)).alloc (by first | omega | (simp; omega)) _⟩ ?_
      clear HB HG BX0
      rintro Wx14 ⟨bx0, bx6, HB⟩
      replace HB := Lib.hid HB
      have yx6 : w.heap.size ≤ vw11.heap.size := by omega
      have qx0_6 : gx0 < vw11.heap.size := by omega
      generalize hx6 : vw11.heap.size = gx6 at *
      clear hx6
      clear hsz mx0
      clear hp2 hq1 hq2
      have hq0 : ((q : Int) == 0) = false := by have e9 : ¬ ((q : Int) = 0) := (by have e8 := hp.out; omega); simpa using e9
      obtain ⟨c9, HC9⟩ : ∃ c, Hid (cmpI (u8 : Nat) (a : Nat) = c) := ⟨_, Lib.hid rfl⟩
      have hc9 : ¬ 0 < c9 := by rw [← HC9.out]; exact cmpI_nonpos (by have e : (u8) ≤ (a) := (by simp only [← HZ8.out, ← HZ7.out, ← HZ5.out, ← HZ4.out, ← HZ2.out, ← HZ1.out]; exact pow_le_nb hp.out HNB.out); omega)
      have hd4 : c9 ≤ 0 := by omega
      have lx0 := bx0.cells
      have lx6 := bx6.cells
      have BX0 := Lib.hid bx0
      have BX6 := Lib.hid bx6
      clear bx0 bx6
      refine sK fun K hK => ?_
      refine wp_region_seqplan 21 [(true, 0), (true, 1), (true, 2), (true, 3), (true, 4), (true, 5), (true, 6), (true, 7), (true, 8), (true, 9), (true, 10), (true, 11), (true, 12), (true, 13), (true, 14), (true, 15), (true, 16), (true, 17), (true, 18), (true, 19), (true, 20)] (by rfl) (by simp) (fun T hT => ?_)
      iterate 3 (refine wpPlan_takeL (v := ?_) rfl (by rfl) (fun w' hw => ?_) ?_; rotate_left; go_simp; with_reducible rfl; simp only [Act.put, rA, rB, rC])
      iterate 3 (refine wpPlan_skipL rfl (by rfl) ?_; simp only [Act.put, rA, rB, rC])
      iterate 7 (refine wpPlan_takeL (v := ?_) rfl (by rfl) (fun w' hw => ?_) ?_; rotate_left; go_simp; with_reducible rfl; simp only [Act.put, rA, rB, rC])
      refine wpPlan_callL rfl (by rfl) Tryd.call20 (fun w' hw => nzcmp (u8) (a) (c9) _ (HC9.out) (by omega) (by omega)) (by rfl) ?_
      simp only [Act.put, rA, rB, rC]
      iterate 4 (refine wpPlan_takeL (v := ?_) rfl (by rfl) (fun w' hw => ?_) ?_; rotate_left; go_simp; with_reducible rfl; simp only [Act.put, rA, rB, rC])
      refine wpPlan_callL rfl (by rfl) Tryd.call12 (fun w' hw => works_any _ (Lib.hid (HT.out.gr (Gr.trans HB.out hw)))) (by rfl) ?_
      simp only [Act.put, rA, rB, rC]
      iterate 2 (refine wpPlan_takeL (v := ?_) rfl (by rfl) (fun w' hw => ?_) ?_; rotate_left; go_simp; with_reducible rfl; simp only [Act.put, rA, rB, rC])
      refine wpPlan_nil (hT.out _ _ ?_); clear hT T
      intro vw12 hg
      simp only [puts, Act.put, rA, rB, rC, rD, rE, ↓reduceIte, Nat.reduceEqDiff]
      clear lx0 lx6
      have HG := Lib.hid (hg)
      clear hg
      replace BX0 := bG BX0 HG
      replace BX6 := bG BX6 HG
      have r0 := Gr.refl vw12
      go_wp2
      refine hK.out _ _ ?_; clear hK K
      show Code.wp _ _ _ _ _
      clear r0
      refine forgetW (fun w2 => Below w.heap.size w w2) (HB.out.trans (HG.out.mono HB.out.size)) ?_
      clear HB HG BX0 BX6
      rintro Wx15 HB
      replace HB := Lib.hid HB
      clear hq0 hc9 hd4
      refine wp_ret ?_
      try simp only [Exit.then, Exit.inBlock]
      have r0 := Gr.refl Wx15
      exact bodyPost_ret (v := .bool true) (by simp [results, Tryd.results9, go_sem]) rfl ⟨rfl, HB.out⟩

  · -- region 6
    have hab2 : decide (a = b) = false := by exact decide_eq_false (by omega)
    have hgt : ¬ ((t.size : Int) < (s.size : Int)) := by have e9 := hsz.out; omega
    have hge : ((s.size : Int) == (t.size : Int)) = true := by have e8 : (s.size : Int) = (t.size : Int) := (by have e9 := hsz.out; omega); simpa using e8
    have lx0 := bx0.cells
    have lx1 := bx1.cells
    have lx2 := bx2.cells
    have BX0 := Lib.hid bx0
    have BX1 := Lib.hid bx1
    have BX2 := Lib.hid bx2
    clear bx0 bx1 bx2
    refine sK fun K hK => ?_
    refine wp_region_seqplan 46 [(true, 0), (true, 1), (true, 2), (true, 3), (true, 4), (true, 5), (true, 6), (true, 7), (true, 8), (true, 9), (true, 10), (true, 11), (true, 12), (true, 13), (true, 14), (true, 15), (true, 16), (true, 17), (true, 18), (true, 19), (true, 20), (true, 21), (true, 22), (true, 23), (true, 24), (true, 25), (true, 26), (true, 27), (true, 28), (true, 29), (true, 30), (true, 31), (true, 32), (true, 33), (true, 34), (true, 35), (true, 36), (true, 37), (true, 38), (true, 39), (true, 40), (true, 41), (true, 42), (true, 43), (true, 44), (true, 45)] (by rfl) (by simp) (fun T hT => ?_)
    iterate 23 (refine wpPlan_takeL (v := ?_) rfl (by rfl) (fun w' hw => ?_) ?_; rotate_left; go_simp; with_reducible rfl; simp only [Act.put, rA, rB, rC])
    iterate 4 (refine wpPlan_skipL rfl (by rfl) ?_; simp only [Act.put, rA, rB, rC])
    iterate 14 (refine wpPlan_takeL (v := ?_) rfl (by rfl) (fun w' hw => ?_) ?_; rotate_left; go_simp; with_reducible rfl; simp only [Act.put, rA, rB, rC])
    refine wpPlan_callL rfl (by rfl) Tryd.call20 (fun w' hw => nzcmp (a) (b) (-1) _ (cmpI_lt (by have e : (a) < (b) := (by omega); first | exact e | omega)) (by omega) (by omega)) (by rfl) ?_
    simp only [Act.put, rA, rB, rC]
    iterate 4 (refine wpPlan_takeL (v := ?_) rfl (by rfl) (fun w' hw => ?_) ?_; rotate_left; go_simp; with_reducible rfl; simp only [Act.put, rA, rB, rC])
    refine wpPlan_nil (hT.out _ _ ?_); clear hT T
    intro vw5 hg
    simp only [puts, Act.put, rA, rB, rC, rD, rE, ↓reduceIte, Nat.reduceEqDiff]
    clear lx0 lx1 lx2
    have HG := Lib.hid (hg)
    clear hg
    replace BX0 := bG BX0 HG
    replace BX1 := bG BX1 HG
    replace BX2 := bG BX2 HG
    have r0 := Gr.refl vw5
    go_wp2
    refine hK.out _ _ ?_; clear hK K
    show Code.wp _ _ _ _ _
    clear r0
    refine forgetW (fun w2 => NX w2 gx0 (a) ∧ Below w.heap.size w w2) ⟨BX0.out, HB.out.trans (HG.out.mono HB.out.size)⟩ ?_
    clear HB HG BX0 BX1 BX2
    rintro Wx6 ⟨bx0, HB⟩
    replace HB := Lib.hid HB
    clear hab2 hgt hge
    refine wp_cond_false (by rfl) ?_
    refine wp_skip ?_
    show Code.wp _ _ _ _ _
    obtain ⟨u1, HZ1⟩ : ∃ z, Hid (rt (a) = z) := ⟨_, Lib.hid rfl⟩
    have su1 : wl (u1) ≤ 20 := by rw [← HZ1.out]; have := wl_mono (rt_self (a)); omega
    have lx0 := bx0.cells
    have BX0 := Lib.hid bx0
    clear bx0
    refine sK fun K hK => ?_
    refine wp_region_seqplan 2 [(true, 0), (true, 1)] (by rfl) (by simp) (fun T hT => ?_)
    refine wpPlan_takeL (v := ?_) rfl (by rfl) (fun w' hw => ?_) ?_; rotate_left; go_simp; with_reducible rfl; simp only [Act.put, rA, rB, rC]
    refine wpPlan_callL rfl (by rfl) Tryd.call28 (fun w' hw => nzsqrt (a) (u1) _ HZ1.out (by omega)) (by rfl) ?_
    simp only [Act.put, rA, rB, rC]
    refine wpPlan_nil (hT.out _ _ ?_); clear hT T
    intro vw6 hg
    simp only [puts, Act.put, rA, rB, rC, rD, rE, ↓reduceIte, Nat.reduceEqDiff]
    clear lx0
    have HG := Lib.hid (hg)
    clear hg
    replace BX0 := bG BX0 HG
    have r0 := Gr.refl vw6
    go_wp2
    refine hK.out _ _ ?_; clear hK K
    show Code.wp _ _ _ _ _
    clear r0
    have hsz : w.heap.size ≤ vw6.heap.size := Nat.le_trans HB.out.size HG.out.size
    have mx0 : gx0 < vw6.heap.size := BX0.out.lt
    refine forgetW (fun w2 => NX w2 gx0 (a) ∧ NX w2 (vw6.heap.size) (u1) ∧ Below w.heap.size w w2) ⟨(BX0.out).alloc _, (Bx.at (by simp) : Bx _ (vw6.heap.size) _ _), (HB.out.trans (HG.out.mono HB.out.size)).alloc (by first | omega | (simp; omega)) _⟩ ?_
    clear HB HG BX0
    rintro Wx8 ⟨bx0, bx3, HB⟩
    replace HB := Lib.hid HB
    have yx3 : w.heap.size ≤ vw6.heap.size := by omega
    have qx0_3 : gx0 < vw6.heap.size := by omega
    generalize hx3 : vw6.heap.size = gx3 at *
    clear hx3
    clear hsz mx0
    have su_0_9 : wl 1 ≤ 1 := wl_le.2 (by decide +kernel)
    obtain ⟨u2, HZ2⟩ : ∃ z, Hid ((u1) + (1) = z) := ⟨_, Lib.hid rfl⟩
    have su2 : wl (u2) ≤ 21 := by rw [← HZ2.out]; have := wl_add (u1) (1); omega
    have lx3 := bx3.cells
    have BX0 := Lib.hid bx0
    have BX3 := Lib.hid bx3
    clear bx0 bx3
    refine sK fun K hK => ?_
    refine wp_region_plan 4 [3] [] (fun _ => 12) (fun _ => .cells #[.int .u64 0, .string ⟨#[]⟩] 26) [(true, 0), (true, 1), (true, 2)] (by kernel_rfl) (by kernel_rfl) (by intro i hi; simp only [List.mem_cons, List.not_mem_nil, or_false] at hi; rcases hi with rfl <;> exact ⟨_, rfl, rfl, rfl, by simp, fun ρ w => by kernel_rfl⟩) (fun i hi => by cases hi) (fun _ _ _ _ _ h => h) (fun T hT => ?_)
    refine wpPlan_takeL (v := ?_) rfl (by rfl) (fun w' hw => ?_) ?_; rotate_left; go_simp; with_reducible rfl; simp only [Act.put, rA, rB, rC]
    refine wpPlan_callL rfl (by rfl) Tryd.call38 (fun w' hw => nzof 1 _ (by decide)) (by rfl) ?_
    simp only [Act.put, rA, rB, rC]
    refine wpPlan_callL rfl (by rfl) Tryd.call18 (fun w' hw => nzadd (u1) (1) (u2) _ HZ2.out (by omega) (by omega)) (by rfl) ?_
    simp only [Act.put, rA, rB, rC]
    refine wpPlan_nil (hT.out _ _ ?_); clear hT T
    intro G vw7 hg hf
    simp only [puts, Act.put, rA, rB, rC, rD, rE, ↓reduceIte, Nat.reduceEqDiff]
    clear lx3
    have HG := Lib.hid (hg)
    clear hg
    have bx4 := Bx.of_fresh hf (i := 3) (by decide) rfl
    have yx4 := (hf.1 3 (by decide)).1
    clear hf
    generalize G 3 = gx4 at *
    have qx0_4 : gx0 < gx4 := Nat.lt_of_lt_of_le BX0.out.lt yx4
    have qx3_4 : gx3 < gx4 := Nat.lt_of_lt_of_le BX3.out.lt yx4
    replace yx4 : w.heap.size ≤ gx4 := Nat.le_trans HB.out.size yx4
    replace BX0 := bG BX0 HG
    replace BX3 := bG BX3 HG
    have lx4 := bx4.cells; have fx4 := bx4.free
    have r0 := Gr.refl vw7
    have BX4 := Lib.hid bx4; clear bx4
    go_wp2
    refine hK.out _ _ ?_; clear hK K
    show Code.wp _ _ _ _ _
    clear lx4 fx4
    clear r0
    refine forgetW (fun w2 => NX w2 gx0 (a) ∧ NX w2 gx3 (u1) ∧ NX w2 gx4 (u2) ∧ Below w.heap.size w w2) ⟨so2 (BX0.out) (by show gx0 ≠ gx4; omega), so2 (BX3.out) (by show gx3 ≠ gx4; omega), (((BX4.out).set 0 _).set 1 _).eq (by simp only [rA, rB, rC]), sc2 (HB.out.trans (HG.out.mono HB.out.size)) (by show w.heap.size ≤ gx4; omega)⟩ ?_
    clear HB HG BX0 BX3 BX4
    rintro Wx9 ⟨bx0, bx3, bx4, HB⟩
    replace HB := Lib.hid HB
    have lx0 := bx0.cells
    have BX0 := Lib.hid bx0
    have BX3 := Lib.hid bx3
    have BX4 := Lib.hid bx4
    clear bx0 bx3 bx4
    refine sK fun K hK => ?_
    refine wp_region_seqplan 3 [(true, 0), (true, 1), (true, 2)] (by rfl) (by simp) (fun T hT => ?_)
    refine wpPlan_takeL (v := ?_) rfl (by rfl) (fun w' hw => ?_) ?_; rotate_left; go_simp; with_reducible rfl; simp only [Act.put, rA, rB, rC]
    refine wpPlan_callL rfl (by rfl) Tryd.call30 (fun w' hw => nzbits (a) q _ HNB.out (by omega)) (by rfl) ?_
    simp only [Act.put, rA, rB, rC]
    refine wpPlan_takeL (v := ?_) rfl (by rfl) (fun w' hw => ?_) ?_; rotate_left; go_simp; with_reducible rfl; simp only [Act.put, rA, rB, rC]
    refine wpPlan_nil (hT.out _ _ ?_); clear hT T
    intro vw8 hg
    simp only [puts, Act.put, rA, rB, rC, rD, rE, ↓reduceIte, Nat.reduceEqDiff]
    clear lx0
    have HG := Lib.hid (hg)
    clear hg
    replace BX0 := bG BX0 HG
    replace BX3 := bG BX3 HG
    replace BX4 := bG BX4 HG
    have r0 := Gr.refl vw8
    go_wp2
    refine hK.out _ _ ?_; clear hK K
    show Code.wp _ _ _ _ _
    clear r0
    refine forgetW (fun w2 => NX w2 gx0 (a) ∧ NX w2 gx3 (u1) ∧ NX w2 gx4 (u2) ∧ Below w.heap.size w w2) ⟨BX0.out, BX3.out, BX4.out, HB.out.trans (HG.out.mono HB.out.size)⟩ ?_
    clear HB HG BX0 BX3 BX4
    rintro Wx10 ⟨bx0, bx3, bx4, HB⟩
    replace HB := Lib.hid HB
    have su_1_11 : wl 2 ≤ 1 := wl_le.2 (by decide +kernel)
    obtain ⟨u4, HZ4⟩ : ∃ z, Hid ((2) ^ q = z) := ⟨_, Lib.hid rfl⟩
    have su4 : wl (u4) ≤ 8192 := by rw [← HZ4.out]; exact wl_pow _ _ (by have e7 : nb 2 = 2 := (by decide +kernel); rw [e7]; omega)
    have BX0 := Lib.hid bx0
    have BX3 := Lib.hid bx3
    have BX4 := Lib.hid bx4
    clear bx0 bx3 bx4
    refine sK fun K hK => ?_
    refine wp_region_seqplan 6 [(true, 0), (true, 1), (true, 2), (true, 3), (true, 4), (true, 5)] (by rfl) (by simp) (fun T hT => ?_)
    refine wpPlan_callL rfl (by rfl) Tryd.call38 (fun w' hw => nzof 2 _ (by decide)) (by rfl) ?_
    simp only [Act.put, rA, rB, rC]
    refine wpPlan_takeL (v := ?_) rfl (by rfl) (fun w' hw => ?_) ?_; rotate_left; go_simp; with_reducible rfl; simp only [Act.put, rA, rB, rC]
    refine wpPlan_callL rfl (by rfl) Tryd.call32 (fun w' hw => nzpow (2) q (u4) _ HZ4.out (by omega) (by have e7 : nb 2 = 2 := (by decide +kernel); rw [e7]; omega) (by omega)) (by rfl) ?_
    simp only [Act.put, rA, rB, rC]
    iterate 3 (refine wpPlan_takeL (v := ?_) rfl (by rfl) (fun w' hw => ?_) ?_; rotate_left; go_simp; with_reducible rfl; simp only [Act.put, rA, rB, rC])
    refine wpPlan_nil (hT.out _ _ ?_); clear hT T
    intro vw9 hg
    simp only [puts, Act.put, rA, rB, rC, rD, rE, ↓reduceIte, Nat.reduceEqDiff]
    have HG := Lib.hid (hg)
    clear hg
    replace BX0 := bG BX0 HG
    replace BX3 := bG BX3 HG
    replace BX4 := bG BX4 HG
    have r0 := Gr.refl vw9
    go_wp2
    refine hK.out _ _ ?_; clear hK K
    show Code.wp _ _ _ _ _
    clear r0
    have hsz : w.heap.size ≤ vw9.heap.size := Nat.le_trans HB.out.size HG.out.size
    have mx0 : gx0 < vw9.heap.size := BX0.out.lt
    have mx3 : gx3 < vw9.heap.size := BX3.out.lt
    have mx4 : gx4 < vw9.heap.size := BX4.out.lt
    refine forgetW (fun w2 => NX w2 gx0 (a) ∧ NX w2 gx3 (u1) ∧ NX w2 gx4 (u2) ∧ NX w2 (vw9.heap.size) (u4) ∧ Below w.heap.size w w2) ⟨(BX0.out).alloc _, (BX3.out).alloc _, (BX4.out).alloc _, (Bx.at (by simp) : Bx _ (vw9.heap.size) _ _), (HB.out.trans (HG.out.mono HB.out.size)).alloc (by first | omega | (simp; omega)) _⟩ ?_
    clear HB HG BX0 BX3 BX4
    rintro Wx11 ⟨bx0, bx3, bx4, bx5, HB⟩
    replace HB := Lib.hid HB
    have yx5 : w.heap.size ≤ vw9.heap.size := by omega
    have qx0_5 : gx0 < vw9.heap.size := by omega
    have qx3_5 : gx3 < vw9.heap.size := by omega
    have qx4_5 : gx4 < vw9.heap.size := by omega
    generalize hx5 : vw9.heap.size = gx5 at *
    clear hx5
    clear hsz mx0 mx3 mx4
    refine wp_seq ?_
    obtain ⟨u5, HZ5⟩ : ∃ z, Hid ((u1) * (u1) = z) := ⟨_, Lib.hid rfl⟩
    have su5 : wl (u5) ≤ 40 := by rw [← HZ5.out]; have := wl_mul (u1) (u1); omega
    obtain ⟨c6, HC6⟩ : ∃ c, Hid (cmpI (u5 : Nat) (a : Nat) = c) := ⟨_, Lib.hid rfl⟩
    have hc6 : ¬ 0 < c6 := by rw [← HC6.out]; exact cmpI_nonpos (by have e : (u5) ≤ (a) := (by simp only [← HZ5.out, ← HZ4.out, ← HZ2.out, ← HZ1.out]; exact rt_le _); omega)
    have hd3 : ¬ (0 < c6) := by omega
    obtain ⟨u7, HZ7⟩ : ∃ z, Hid ((u2) * (u2) = z) := ⟨_, Lib.hid rfl⟩
    have su7 : wl (u7) ≤ 42 := by rw [← HZ7.out]; have := wl_mul (u2) (u2); omega
    have lx0 := bx0.cells
    have lx3 := bx3.cells
    have lx4 := bx4.cells
    have lx5 := bx5.cells
    have BX0 := Lib.hid bx0
    have BX3 := Lib.hid bx3
    have BX4 := Lib.hid bx4
    have BX5 := Lib.hid bx5
    clear bx0 bx3 bx4 bx5
    refine sK fun K hK => ?_
    refine wp_region_plan 23 [] [] (fun _ => 0) (fun _ => .cells #[] 0) [(true, 0), (true, 1), (true, 3), (true, 2), (true, 4), (true, 5), (true, 6), (true, 7), (true, 8), (true, 10), (true, 9), (true, 11), (true, 12), (true, 13), (true, 14), (true, 15), (true, 16), (true, 17), (true, 18), (true, 19), (true, 20), (true, 21), (true, 22)] (by kernel_rfl) (by kernel_rfl) (fun i hi => by cases hi) (fun i hi => by cases hi) (fun _ _ _ _ _ h => h) (fun T hT => ?_)
    iterate 3 (refine wpPlan_takeL (v := ?_) rfl (by rfl) (fun w' hw => ?_) ?_; rotate_left; go_simp; with_reducible rfl; simp only [Act.put, rA, rB, rC])
    refine wpPlan_callL rfl (by rfl) Tryd.call23 (fun w' hw => nzmul (u1) (u1) (u5) _ HZ5.out (by omega) (by omega)) (by rfl) ?_
    simp only [Act.put, rA, rB, rC]
    refine wpPlan_callL rfl (by rfl) Tryd.call20 (fun w' hw => nzcmp (u5) (a) (c6) _ (HC6.out) (by omega) (by omega)) (by rfl) ?_
    simp only [Act.put, rA, rB, rC]
    iterate 5 (refine wpPlan_takeL (v := ?_) rfl (by rfl) (fun w' hw => ?_) ?_; rotate_left; go_simp; with_reducible rfl; simp only [Act.put, rA, rB, rC])
    refine wpPlan_callL rfl (by rfl) Tryd.call23 (fun w' hw => nzmul (u2) (u2) (u7) _ HZ7.out (by omega) (by omega)) (by rfl) ?_
    simp only [Act.put, rA, rB, rC]
    refine wpPlan_callL rfl (by rfl) Tryd.call20 (fun w' hw => nzcmp (u7) (a) (1) _ (cmpI_gt (by have e : (u7) > (a) := (by simp only [← HZ7.out, ← HZ5.out, ← HZ4.out, ← HZ2.out, ← HZ1.out]; exact rt_lt _); first | exact e | omega)) (by omega) (by omega)) (by rfl) ?_
    simp only [Act.put, rA, rB, rC]
    iterate 9 (refine wpPlan_takeL (v := ?_) rfl (by rfl) (fun w' hw => ?_) ?_; rotate_left; go_simp; with_reducible rfl; simp only [Act.put, rA, rB, rC])
    refine wpPlan_callL rfl (by rfl) Tryd.call20 (fun w' hw => nzcmp (a) (u4) (-1) _ (cmpI_lt (by have e : (a) < (u4) := (by simp only [← HZ7.out, ← HZ5.out, ← HZ4.out, ← HZ2.out, ← HZ1.out]; exact nb_le.1 (Nat.le_of_eq HNB.out)); first | exact e | omega)) (by omega) (by omega)) (by rfl) ?_
    simp only [Act.put, rA, rB, rC]
    refine wpPlan_takeL (v := ?_) rfl (by rfl) (fun w' hw => ?_) ?_; rotate_left; go_simp; with_reducible rfl; simp only [Act.put, rA, rB, rC]
    refine wpPlan_nil (hT.out _ _ ?_); clear hT T
    intro G vw10 hg hf
    simp only [puts, Act.put, rA, rB, rC, rD, rE, ↓reduceIte, Nat.reduceEqDiff]
    clear lx0 lx3 lx4 lx5
    have HG := Lib.hid (hg)
    clear hg
    replace BX0 := bG BX0 HG
    replace BX3 := bG BX3 HG
    replace BX4 := bG BX4 HG
    replace BX5 := bG BX5 HG
    have r0 := Gr.refl vw10
    go_wp2
    refine hK.out _ _ ?_; clear hK K
    show Code.wp _ _ _ _ _
    clear r0
    refine forgetW (fun w2 => NX w2 gx0 (a) ∧ Below w.heap.size w w2) ⟨BX0.out, HB.out.trans (HG.out.mono HB.out.size)⟩ ?_
    clear HB HG BX0 BX3 BX4 BX5
    rintro Wx12 ⟨bx0, HB⟩
    replace HB := Lib.hid HB
    clear hc6 hd3
    refine wp_cond_false (by rfl) ?_
    refine wp_skip ?_
    show Code.wp _ _ _ _ _
    rcases qz q with hq | ⟨p, hp⟩
    · -- region 14
      have su_2_14 : wl 2 ≤ 1 := wl_le.2 (by decide +kernel)
      have hq1 : (q : Int) - 1 = -1 := by have e9 := hq.out; omega
      have BX0 := Lib.hid bx0
      clear bx0
      refine sK fun K hK => ?_
      refine wp_region_seqplan 7 [(true, 0), (true, 1), (true, 2), (true, 3), (true, 4), (true, 5), (true, 6)] (by rfl) (by simp) (fun T hT => ?_)
      refine wpPlan_callL rfl (by rfl) Tryd.call38 (fun w' hw => nzof 2 _ (by decide)) (by rfl) ?_
      simp only [Act.put, rA, rB, rC]
      iterate 2 (refine wpPlan_takeL (v := ?_) rfl (by rfl) (fun w' hw => ?_) ?_; rotate_left; go_simp; with_reducible rfl; simp only [Act.put, rA, rB, rC])
      refine wpPlan_callL rfl (by rfl) Tryd.call32 (fun w' hw => pow_neg (2) (-1) _ (by omega) (by omega)) (by rfl) ?_
      simp only [Act.put, rA, rB, rC]
      iterate 3 (refine wpPlan_takeL (v := ?_) rfl (by rfl) (fun w' hw => ?_) ?_; rotate_left; go_simp; with_reducible rfl; simp only [Act.put, rA, rB, rC])
      refine wpPlan_nil (hT.out _ _ ?_); clear hT T
      intro vw11 hg
      simp only [puts, Act.put, rA, rB, rC, rD, rE, ↓reduceIte, Nat.reduceEqDiff]
      have HG := Lib.hid (hg)
      clear hg
      replace BX0 := bG BX0 HG
      have r0 := Gr.refl vw11
      go_wp2
      refine hK.out _ _ ?_; clear hK K
      show Code.wp _ _ _ _ _
      clear r0
      have hsz : w.heap.size ≤ vw11.heap.size := Nat.le_trans HB.out.size HG.out.size
      have mx0 : gx0 < vw11.heap.size := BX0.out.lt
      refine forgetW (fun w2 => NX w2 gx0 (a) ∧ NX w2 (vw11.heap.size) (0) ∧ Below w.heap.size w w2) ⟨(BX0.out).alloc _, (Bx.at (by simp) : Bx _ (vw11.heap.size) _ _), (HB.out.trans (HG.out.mono HB.out.size)).alloc (by first | omega | (simp; omega)) _⟩ ?_
      clear HB HG BX0
      rintro Wx14 ⟨bx0, bx6, HB⟩
      replace HB := Lib.hid HB
      have yx6 : w.heap.size ≤ vw11.heap.size := by omega
      have qx0_6 : gx0 < vw11.heap.size := by omega
      generalize hx6 : vw11.heap.size = gx6 at *
      clear hx6
      clear hsz mx0
      clear hq1
      have hq0 : ((q : Int) == 0) = true := by have e9 := hq.out; simp [e9]
      have ha0 : decide (a = 0) = true := decide_eq_true (by have e9 := hq.out; have e8 := nb_le.1 (Nat.le_of_eq HNB.out); rw [e9] at e8; simpa using e8)
      have lx0 := bx0.cells
      have lx6 := bx6.cells
      have BX0 := Lib.hid bx0
      have BX6 := Lib.hid bx6
      clear bx0 bx6
      refine sK fun K hK => ?_
      refine wp_region_seqplan 21 [(true, 0), (true, 1), (true, 2), (true, 3), (true, 4), (true, 5), (true, 6), (true, 7), (true, 8), (true, 9), (true, 10), (true, 11), (true, 12), (true, 13), (true, 14), (true, 15), (true, 16), (true, 17), (true, 18), (true, 19), (true, 20)] (by rfl) (by simp) (fun T hT => ?_)
      iterate 8 (refine wpPlan_takeL (v := ?_) rfl (by rfl) (fun w' hw => ?_) ?_; rotate_left; go_simp; with_reducible rfl; simp only [Act.put, rA, rB, rC])
      iterate 8 (refine wpPlan_skipL rfl (by rfl) ?_; simp only [Act.put, rA, rB, rC])
      iterate 2 (refine wpPlan_takeL (v := ?_) rfl (by rfl) (fun w' hw => ?_) ?_; rotate_left; go_simp; with_reducible rfl; simp only [Act.put, rA, rB, rC])
      refine wpPlan_callL rfl (by rfl) Tryd.call12 (fun w' hw => works_any _ (Lib.hid (HT.out.gr (Gr.trans HB.out hw)))) (by rfl) ?_
      simp only [Act.put, rA, rB, rC]
      iterate 2 (refine wpPlan_takeL (v := ?_) rfl (by rfl) (fun w' hw => ?_) ?_; rotate_left; go_simp; with_reducible rfl; simp only [Act.put, rA, rB, rC])
      refine wpPlan_nil (hT.out _ _ ?_); clear hT T
      intro vw12 hg
      simp only [puts, Act.put, rA, rB, rC, rD, rE, ↓reduceIte, Nat.reduceEqDiff]
      clear lx0 lx6
      have HG := Lib.hid (hg)
      clear hg
      replace BX0 := bG BX0 HG
      replace BX6 := bG BX6 HG
      have r0 := Gr.refl vw12
      go_wp2
      refine hK.out _ _ ?_; clear hK K
      show Code.wp _ _ _ _ _
      clear r0
      refine forgetW (fun w2 => Below w.heap.size w w2) (HB.out.trans (HG.out.mono HB.out.size)) ?_
      clear HB HG BX0 BX6
      rintro Wx15 HB
      replace HB := Lib.hid HB
      clear hq0 ha0
      refine wp_ret ?_
      try simp only [Exit.then, Exit.inBlock]
      have r0 := Gr.refl Wx15
      exact bodyPost_ret (v := .bool true) (by simp [results, Tryd.results9, go_sem]) rfl ⟨rfl, HB.out⟩

    · -- region 14
      have su_2_14 : wl 2 ≤ 1 := wl_le.2 (by decide +kernel)
      have hp2 : p ≤ 639 := by have e9 := hp.out; omega
      have hq1 : IntKind.i64.wrap (p : Int) = (p : Int) := by rw [IntKind.wrap_i64]; omega
      have hq2 : (q : Int) - 1 = (p : Int) := by have e9 := hp.out; omega
      obtain ⟨u8, HZ8⟩ : ∃ z, Hid ((2) ^ p = z) := ⟨_, Lib.hid rfl⟩
      have su8 : wl (u8) ≤ 8192 := by rw [← HZ8.out]; exact wl_pow _ _ (by have e7 : nb 2 = 2 := (by decide +kernel); rw [e7]; omega)
      have BX0 := Lib.hid bx0
      clear bx0
      refine sK fun K hK => ?_
      refine wp_region_seqplan 7 [(true, 0), (true, 1), (true, 2), (true, 3), (true, 4), (true, 5), (true, 6)] (by rfl) (by simp) (fun T hT => ?_)
      refine wpPlan_callL rfl (by rfl) Tryd.call38 (fun w' hw => nzof 2 _ (by decide)) (by rfl) ?_
      simp only [Act.put, rA, rB, rC]
      iterate 2 (refine wpPlan_takeL (v := ?_) rfl (by rfl) (fun w' hw => ?_) ?_; rotate_left; go_simp; with_reducible rfl; simp only [Act.put, rA, rB, rC])
      refine wpPlan_callL rfl (by rfl) Tryd.call32 (fun w' hw => nzpow (2) p (u8) _ HZ8.out (by omega) (by have e7 : nb 2 = 2 := (by decide +kernel); rw [e7]; omega) (by omega)) (by rfl) ?_
      simp only [Act.put, rA, rB, rC]
      iterate 3 (refine wpPlan_takeL (v := ?_) rfl (by rfl) (fun w' hw => ?_) ?_; rotate_left; go_simp; with_reducible rfl; simp only [Act.put, rA, rB, rC])
      refine wpPlan_nil (hT.out _ _ ?_); clear hT T
      intro vw11 hg
      simp only [puts, Act.put, rA, rB, rC, rD, rE, ↓reduceIte, Nat.reduceEqDiff]
      have HG := Lib.hid (hg)
      clear hg
      replace BX0 := bG BX0 HG
      have r0 := Gr.refl vw11
      go_wp2
      refine hK.out _ _ ?_; clear hK K
      show Code.wp _ _ _ _ _
      clear r0
      have hsz : w.heap.size ≤ vw11.heap.size := Nat.le_trans HB.out.size HG.out.size
      have mx0 : gx0 < vw11.heap.size := BX0.out.lt
      refine forgetW (fun w2 => NX w2 gx0 (a) ∧ NX w2 (vw11.heap.size) (u8) ∧ Below w.heap.size w w2) ⟨(BX0.out).alloc _, (Bx.at (by simp) : Bx _ (vw11.heap.size) _ _), (HB.out.trans (HG.out.mono HB.out.size)).alloc (by first | omega | (simp; omega)) _⟩ ?_
      clear HB HG BX0
      rintro Wx14 ⟨bx0, bx6, HB⟩
      replace HB := Lib.hid HB
      have yx6 : w.heap.size ≤ vw11.heap.size := by omega
      have qx0_6 : gx0 < vw11.heap.size := by omega
      generalize hx6 : vw11.heap.size = gx6 at *
      clear hx6
      clear hsz mx0
      clear hp2 hq1 hq2
      have hq0 : ((q : Int) == 0) = false := by have e9 : ¬ ((q : Int) = 0) := (by have e8 := hp.out; omega); simpa using e9
      obtain ⟨c9, HC9⟩ : ∃ c, Hid (cmpI (u8 : Nat) (a : Nat) = c) := ⟨_, Lib.hid rfl⟩
      have hc9 : ¬ 0 < c9 := by rw [← HC9.out]; exact cmpI_nonpos (by have e : (u8) ≤ (a) := (by simp only [← HZ8.out, ← HZ7.out, ← HZ5.out, ← HZ4.out, ← HZ2.out, ← HZ1.out]; exact pow_le_nb hp.out HNB.out); omega)
      have hd4 : c9 ≤ 0 := by omega
      have lx0 := bx0.cells
      have lx6 := bx6.cells
      have BX0 := Lib.hid bx0
      have BX6 := Lib.hid bx6
      clear bx0 bx6
      refine sK fun K hK => ?_
      refine wp_region_seqplan 21 [(true, 0), (true, 1), (true, 2), (true, 3), (true, 4), (true, 5), (true, 6), (true, 7), (true, 8), (true, 9), (true, 10), (true, 11), (true, 12), (true, 13), (true, 14), (true, 15), (true, 16), (true, 17), (true, 18), (true, 19), (true, 20)] (by rfl) (by simp) (fun T hT => ?_)
      iterate 3 (refine wpPlan_takeL (v := ?_) rfl (by rfl) (fun w' hw => ?_) ?_; rotate_left; go_simp; with_reducible rfl; simp only [Act.put, rA, rB, rC])
      iterate 3 (refine wpPlan_skipL rfl (by rfl) ?_; simp only [Act.put, rA, rB, rC])
      iterate 7 (refine wpPlan_takeL (v := ?_) rfl (by rfl) (fun w' hw => ?_) ?_; rotate_left; go_simp; with_reducible rfl; simp only [Act.put, rA, rB, rC])
      refine wpPlan_callL rfl (by rfl) Tryd.call20 (fun w' hw => nzcmp (u8) (a) (c9) _ (HC9.out) (by omega) (by omega)) (by rfl) ?_
      simp only [Act.put, rA, rB, rC]
      iterate 4 (refine wpPlan_takeL (v := ?_) rfl (by rfl) (fun w' hw => ?_) ?_; rotate_left; go_simp; with_reducible rfl; simp only [Act.put, rA, rB, rC])
      refine wpPlan_callL rfl (by rfl) Tryd.call12 (fun w' hw => works_any _ (Lib.hid (HT.out.gr (Gr.trans HB.out hw)))) (by rfl) ?_
      simp only [Act.put, rA, rB, rC]
      iterate 2 (refine wpPlan_takeL (v := ?_) rfl (by rfl) (fun w' hw => ?_) ?_; rotate_left; go_simp; with_reducible rfl; simp only [Act.put, rA, rB, rC])
      refine wpPlan_nil (hT.out _ _ ?_); clear hT T
      intro vw12 hg
      simp only [puts, Act.put, rA, rB, rC, rD, rE, ↓reduceIte, Nat.reduceEqDiff]
      clear lx0 lx6
      have HG := Lib.hid (hg)
      clear hg
      replace BX0 := bG BX0 HG
      replace BX6 := bG BX6 HG
      have r0 := Gr.refl vw12
      go_wp2
      refine hK.out _ _ ?_; clear hK K
      show Code.wp _ _ _ _ _
      clear r0
      refine forgetW (fun w2 => Below w.heap.size w w2) (HB.out.trans (HG.out.mono HB.out.size)) ?_
      clear HB HG BX0 BX6
      rintro Wx15 HB
      replace HB := Lib.hid HB
      clear hq0 hc9 hd4
      refine wp_ret ?_
      try simp only [Exit.then, Exit.inBlock]
      have r0 := Gr.refl Wx15
      exact bodyPost_ret (v := .bool true) (by simp [results, Tryd.results9, go_sem]) rfl ⟨rfl, HB.out⟩

  · -- region 6
    have hab2 : decide (a = b) = false := by exact decide_eq_false (by omega)
    have hgt : ¬ ((t.size : Int) < (s.size : Int)) := by have e9 := hsz.out; omega
    have hge : ((s.size : Int) == (t.size : Int)) = true := by have e8 : (s.size : Int) = (t.size : Int) := (by have e9 := hsz.out; omega); simpa using e8
    have lx0 := bx0.cells
    have lx1 := bx1.cells
    have lx2 := bx2.cells
    have BX0 := Lib.hid bx0
    have BX1 := Lib.hid bx1
    have BX2 := Lib.hid bx2
    clear bx0 bx1 bx2
    refine sK fun K hK => ?_
    refine wp_region_seqplan 46 [(true, 0), (true, 1), (true, 2), (true, 3), (true, 4), (true, 5), (true, 6), (true, 7), (true, 8), (true, 9), (true, 10), (true, 11), (true, 12), (true, 13), (true, 14), (true, 15), (true, 16), (true, 17), (true, 18), (true, 19), (true, 20), (true, 21), (true, 22), (true, 23), (true, 24), (true, 25), (true, 26), (true, 27), (true, 28), (true, 29), (true, 30), (true, 31), (true, 32), (true, 33), (true, 34), (true, 35), (true, 36), (true, 37), (true, 38), (true, 39), (true, 40), (true, 41), (true, 42), (true, 43), (true, 44), (true, 45)] (by rfl) (by simp) (fun T hT => ?_)
    iterate 23 (refine wpPlan_takeL (v := ?_) rfl (by rfl) (fun w' hw => ?_) ?_; rotate_left; go_simp; with_reducible rfl; simp only [Act.put, rA, rB, rC])
    iterate 4 (refine wpPlan_skipL rfl (by rfl) ?_; simp only [Act.put, rA, rB, rC])
    iterate 14 (refine wpPlan_takeL (v := ?_) rfl (by rfl) (fun w' hw => ?_) ?_; rotate_left; go_simp; with_reducible rfl; simp only [Act.put, rA, rB, rC])
    refine wpPlan_callL rfl (by rfl) Tryd.call20 (fun w' hw => nzcmp (a) (b) (1) _ (cmpI_gt (by have e : (a) > (b) := (by omega); first | exact e | omega)) (by omega) (by omega)) (by rfl) ?_
    simp only [Act.put, rA, rB, rC]
    iterate 4 (refine wpPlan_takeL (v := ?_) rfl (by rfl) (fun w' hw => ?_) ?_; rotate_left; go_simp; with_reducible rfl; simp only [Act.put, rA, rB, rC])
    refine wpPlan_nil (hT.out _ _ ?_); clear hT T
    intro vw5 hg
    simp only [puts, Act.put, rA, rB, rC, rD, rE, ↓reduceIte, Nat.reduceEqDiff]
    clear lx0 lx1 lx2
    have HG := Lib.hid (hg)
    clear hg
    replace BX0 := bG BX0 HG
    replace BX1 := bG BX1 HG
    replace BX2 := bG BX2 HG
    have r0 := Gr.refl vw5
    go_wp2
    refine hK.out _ _ ?_; clear hK K
    show Code.wp _ _ _ _ _
    clear r0
    refine forgetW (fun w2 => NX w2 gx0 (a) ∧ Below w.heap.size w w2) ⟨BX0.out, HB.out.trans (HG.out.mono HB.out.size)⟩ ?_
    clear HB HG BX0 BX1 BX2
    rintro Wx6 ⟨bx0, HB⟩
    replace HB := Lib.hid HB
    clear hab2 hgt hge
    refine wp_cond_false (by rfl) ?_
    refine wp_skip ?_
    show Code.wp _ _ _ _ _
    obtain ⟨u1, HZ1⟩ : ∃ z, Hid (rt (a) = z) := ⟨_, Lib.hid rfl⟩
    have su1 : wl (u1) ≤ 20 := by rw [← HZ1.out]; have := wl_mono (rt_self (a)); omega
    have lx0 := bx0.cells
    have BX0 := Lib.hid bx0
    clear bx0
    refine sK fun K hK => ?_
    refine wp_region_seqplan 2 [(true, 0), (true, 1)] (by rfl) (by simp) (fun T hT => ?_)
    refine wpPlan_takeL (v := ?_) rfl (by rfl) (fun w' hw => ?_) ?_; rotate_left; go_simp; with_reducible rfl; simp only [Act.put, rA, rB, rC]
    refine wpPlan_callL rfl (by rfl) Tryd.call28 (fun w' hw => nzsqrt (a) (u1) _ HZ1.out (by omega)) (by rfl) ?_
    simp only [Act.put, rA, rB, rC]
    refine wpPlan_nil (hT.out _ _ ?_); clear hT T
    intro vw6 hg
    simp only [puts, Act.put, rA, rB, rC, rD, rE, ↓reduceIte, Nat.reduceEqDiff]
    clear lx0
    have HG := Lib.hid (hg)
    clear hg
    replace BX0 := bG BX0 HG
    have r0 := Gr.refl vw6
    go_wp2
    refine hK.out _ _ ?_; clear hK K
    show Code.wp _ _ _ _ _
    clear r0
    have hsz : w.heap.size ≤ vw6.heap.size := Nat.le_trans HB.out.size HG.out.size
    have mx0 : gx0 < vw6.heap.size := BX0.out.lt
    refine forgetW (fun w2 => NX w2 gx0 (a) ∧ NX w2 (vw6.heap.size) (u1) ∧ Below w.heap.size w w2) ⟨(BX0.out).alloc _, (Bx.at (by simp) : Bx _ (vw6.heap.size) _ _), (HB.out.trans (HG.out.mono HB.out.size)).alloc (by first | omega | (simp; omega)) _⟩ ?_
    clear HB HG BX0
    rintro Wx8 ⟨bx0, bx3, HB⟩
    replace HB := Lib.hid HB
    have yx3 : w.heap.size ≤ vw6.heap.size := by omega
    have qx0_3 : gx0 < vw6.heap.size := by omega
    generalize hx3 : vw6.heap.size = gx3 at *
    clear hx3
    clear hsz mx0
    have su_0_9 : wl 1 ≤ 1 := wl_le.2 (by decide +kernel)
    obtain ⟨u2, HZ2⟩ : ∃ z, Hid ((u1) + (1) = z) := ⟨_, Lib.hid rfl⟩
    have su2 : wl (u2) ≤ 21 := by rw [← HZ2.out]; have := wl_add (u1) (1); omega
    have lx3 := bx3.cells
    have BX0 := Lib.hid bx0
    have BX3 := Lib.hid bx3
    clear bx0 bx3
    refine sK fun K hK => ?_
    refine wp_region_plan 4 [3] [] (fun _ => 12) (fun _ => .cells #[.int .u64 0, .string ⟨#[]⟩] 26) [(true, 0), (true, 1), (true, 2)] (by kernel_rfl) (by kernel_rfl) (by intro i hi; simp only [List.mem_cons, List.not_mem_nil, or_false] at hi; rcases hi with rfl <;> exact ⟨_, rfl, rfl, rfl, by simp, fun ρ w => by kernel_rfl⟩) (fun i hi => by cases hi) (fun _ _ _ _ _ h => h) (fun T hT => ?_)
    refine wpPlan_takeL (v := ?_) rfl (by rfl) (fun w' hw => ?_) ?_; rotate_left; go_simp; with_reducible rfl; simp only [Act.put, rA, rB, rC]
    refine wpPlan_callL rfl (by rfl) Tryd.call38 (fun w' hw => nzof 1 _ (by decide)) (by rfl) ?_
    simp only [Act.put, rA, rB, rC]
    refine wpPlan_callL rfl (by rfl) Tryd.call18 (fun w' hw => nzadd (u1) (1) (u2) _ HZ2.out (by omega) (by omega)) (by rfl) ?_
    simp only [Act.put, rA, rB, rC]
    refine wpPlan_nil (hT.out _ _ ?_); clear hT T
    intro G vw7 hg hf
    simp only [puts, Act.put, rA, rB, rC, rD, rE, ↓reduceIte, Nat.reduceEqDiff]
    clear lx3
    have HG := Lib.hid (hg)
    clear hg
    have bx4 := Bx.of_fresh hf (i := 3) (by decide) rfl
    have yx4 := (hf.1 3 (by decide)).1
    clear hf
    generalize G 3 = gx4 at *
    have qx0_4 : gx0 < gx4 := Nat.lt_of_lt_of_le BX0.out.lt yx4
    have qx3_4 : gx3 < gx4 := Nat.lt_of_lt_of_le BX3.out.lt yx4
    replace yx4 : w.heap.size ≤ gx4 := Nat.le_trans HB.out.size yx4
    replace BX0 := bG BX0 HG
    replace BX3 := bG BX3 HG
    have lx4 := bx4.cells; have fx4 := bx4.free
    have r0 := Gr.refl vw7
    have BX4 := Lib.hid bx4; clear bx4
    go_wp2
    refine hK.out _ _ ?_; clear hK K
    show Code.wp _ _ _ _ _
    clear lx4 fx4
    clear r0
    refine forgetW (fun w2 => NX w2 gx0 (a) ∧ NX w2 gx3 (u1) ∧ NX w2 gx4 (u2) ∧ Below w.heap.size w w2) ⟨so2 (BX0.out) (by show gx0 ≠ gx4; omega), so2 (BX3.out) (by show gx3 ≠ gx4; omega), (((BX4.out).set 0 _).set 1 _).eq (by simp only [rA, rB, rC]), sc2 (HB.out.trans (HG.out.mono HB.out.size)) (by show w.heap.size ≤ gx4; omega)⟩ ?_
    clear HB HG BX0 BX3 BX4
    rintro Wx9 ⟨bx0, bx3, bx4, HB⟩
    replace HB := Lib.hid HB
    have lx0 := bx0.cells
    have BX0 := Lib.hid bx0
    have BX3 := Lib.hid bx3
    have BX4 := Lib.hid bx4
    clear bx0 bx3 bx4
    refine sK fun K hK => ?_
    refine wp_region_seqplan 3 [(true, 0), (true, 1), (true, 2)] (by rfl) (by simp) (fun T hT => ?_)
    refine wpPlan_takeL (v := ?_) rfl (by rfl) (fun w' hw => ?_) ?_; rotate_left; go_simp; with_reducible rfl; simp only [Act.put, rA, rB, rC]
    refine wpPlan_callL rfl (by rfl) Tryd.call30 (fun w' hw => nzbits (a) q _ HNB.out (by omega)) (by rfl) ?_
    simp only [Act.put, rA, rB, rC]
    refine wpPlan_takeL (v := ?_) rfl (by rfl) (fun w' hw => ?_) ?_; rotate_left; go_simp; with_reducible rfl; simp only [Act.put, rA, rB, rC]
    refine wpPlan_nil (hT.out _ _ ?_); clear hT T
    intro vw8 hg
    simp only [puts, Act.put, rA, rB, rC, rD, rE, ↓reduceIte, Nat.reduceEqDiff]
    clear lx0
    have HG := Lib.hid (hg)
    clear hg
    replace BX0 := bG BX0 HG
    replace BX3 := bG BX3 HG
    replace BX4 := bG BX4 HG
    have r0 := Gr.refl vw8
    go_wp2
    refine hK.out _ _ ?_; clear hK K
    show Code.wp _ _ _ _ _
    clear r0
    refine forgetW (fun w2 => NX w2 gx0 (a) ∧ NX w2 gx3 (u1) ∧ NX w2 gx4 (u2) ∧ Below w.heap.size w w2) ⟨BX0.out, BX3.out, BX4.out, HB.out.trans (HG.out.mono HB.out.size)⟩ ?_
    clear HB HG BX0 BX3 BX4
    rintro Wx10 ⟨bx0, bx3, bx4, HB⟩
    replace HB := Lib.hid HB
    have su_1_11 : wl 2 ≤ 1 := wl_le.2 (by decide +kernel)
    obtain ⟨u4, HZ4⟩ : ∃ z, Hid ((2) ^ q = z) := ⟨_, Lib.hid rfl⟩
    have su4 : wl (u4) ≤ 8192 := by rw [← HZ4.out]; exact wl_pow _ _ (by have e7 : nb 2 = 2 := (by decide +kernel); rw [e7]; omega)
    have BX0 := Lib.hid bx0
    have BX3 := Lib.hid bx3
    have BX4 := Lib.hid bx4
    clear bx0 bx3 bx4
    refine sK fun K hK => ?_
    refine wp_region_seqplan 6 [(true, 0), (true, 1), (true, 2), (true, 3), (true, 4), (true, 5)] (by rfl) (by simp) (fun T hT => ?_)
    refine wpPlan_callL rfl (by rfl) Tryd.call38 (fun w' hw => nzof 2 _ (by decide)) (by rfl) ?_
    simp only [Act.put, rA, rB, rC]
    refine wpPlan_takeL (v := ?_) rfl (by rfl) (fun w' hw => ?_) ?_; rotate_left; go_simp; with_reducible rfl; simp only [Act.put, rA, rB, rC]
    refine wpPlan_callL rfl (by rfl) Tryd.call32 (fun w' hw => nzpow (2) q (u4) _ HZ4.out (by omega) (by have e7 : nb 2 = 2 := (by decide +kernel); rw [e7]; omega) (by omega)) (by rfl) ?_
    simp only [Act.put, rA, rB, rC]
    iterate 3 (refine wpPlan_takeL (v := ?_) rfl (by rfl) (fun w' hw => ?_) ?_; rotate_left; go_simp; with_reducible rfl; simp only [Act.put, rA, rB, rC])
    refine wpPlan_nil (hT.out _ _ ?_); clear hT T
    intro vw9 hg
    simp only [puts, Act.put, rA, rB, rC, rD, rE, ↓reduceIte, Nat.reduceEqDiff]
    have HG := Lib.hid (hg)
    clear hg
    replace BX0 := bG BX0 HG
    replace BX3 := bG BX3 HG
    replace BX4 := bG BX4 HG
    have r0 := Gr.refl vw9
    go_wp2
    refine hK.out _ _ ?_; clear hK K
    show Code.wp _ _ _ _ _
    clear r0
    have hsz : w.heap.size ≤ vw9.heap.size := Nat.le_trans HB.out.size HG.out.size
    have mx0 : gx0 < vw9.heap.size := BX0.out.lt
    have mx3 : gx3 < vw9.heap.size := BX3.out.lt
    have mx4 : gx4 < vw9.heap.size := BX4.out.lt
    refine forgetW (fun w2 => NX w2 gx0 (a) ∧ NX w2 gx3 (u1) ∧ NX w2 gx4 (u2) ∧ NX w2 (vw9.heap.size) (u4) ∧ Below w.heap.size w w2) ⟨(BX0.out).alloc _, (BX3.out).alloc _, (BX4.out).alloc _, (Bx.at (by simp) : Bx _ (vw9.heap.size) _ _), (HB.out.trans (HG.out.mono HB.out.size)).alloc (by first | omega | (simp; omega)) _⟩ ?_
    clear HB HG BX0 BX3 BX4
    rintro Wx11 ⟨bx0, bx3, bx4, bx5, HB⟩
    replace HB := Lib.hid HB
    have yx5 : w.heap.size ≤ vw9.heap.size := by omega
    have qx0_5 : gx0 < vw9.heap.size := by omega
    have qx3_5 : gx3 < vw9.heap.size := by omega
    have qx4_5 : gx4 < vw9.heap.size := by omega
    generalize hx5 : vw9.heap.size = gx5 at *
    clear hx5
    clear hsz mx0 mx3 mx4
    refine wp_seq ?_
    obtain ⟨u5, HZ5⟩ : ∃ z, Hid ((u1) * (u1) = z) := ⟨_, Lib.hid rfl⟩
    have su5 : wl (u5) ≤ 40 := by rw [← HZ5.out]; have := wl_mul (u1) (u1); omega
    obtain ⟨c6, HC6⟩ : ∃ c, Hid (cmpI (u5 : Nat) (a : Nat) = c) := ⟨_, Lib.hid rfl⟩
    have hc6 : ¬ 0 < c6 := by rw [← HC6.out]; exact cmpI_nonpos (by have e : (u5) ≤ (a) := (by simp only [← HZ5.out, ← HZ4.out, ← HZ2.out, ← HZ1.out]; exact rt_le _); omega)
    have hd3 : ¬ (0 < c6) := by omega
    obtain ⟨u7, HZ7⟩ : ∃ z, Hid ((u2) * (u2) = z) := ⟨_, Lib.hid rfl⟩
    have su7 : wl (u7) ≤ 42 := by rw [← HZ7.out]; have := wl_mul (u2) (u2); omega
    have lx0 := bx0.cells
    have lx3 := bx3.cells
    have lx4 := bx4.cells
    have lx5 := bx5.cells
    have BX0 := Lib.hid bx0
    have BX3 := Lib.hid bx3
    have BX4 := Lib.hid bx4
    have BX5 := Lib.hid bx5
    clear bx0 bx3 bx4 bx5
    refine sK fun K hK => ?_
    refine wp_region_plan 23 [] [] (fun _ => 0) (fun _ => .cells #[] 0) [(true, 0), (true, 1), (true, 3), (true, 2), (true, 4), (true, 5), (true, 6), (true, 7), (true, 8), (true, 10), (true, 9), (true, 11), (true, 12), (true, 13), (true, 14), (true, 15), (true, 16), (true, 17), (true, 18), (true, 19), (true, 20), (true, 21), (true, 22)] (by kernel_rfl) (by kernel_rfl) (fun i hi => by cases hi) (fun i hi => by cases hi) (fun _ _ _ _ _ h => h) (fun T hT => ?_)
    iterate 3 (refine wpPlan_takeL (v := ?_) rfl (by rfl) (fun w' hw => ?_) ?_; rotate_left; go_simp; with_reducible rfl; simp only [Act.put, rA, rB, rC])
    refine wpPlan_callL rfl (by rfl) Tryd.call23 (fun w' hw => nzmul (u1) (u1) (u5) _ HZ5.out (by omega) (by omega)) (by rfl) ?_
    simp only [Act.put, rA, rB, rC]
    refine wpPlan_callL rfl (by rfl) Tryd.call20 (fun w' hw => nzcmp (u5) (a) (c6) _ (HC6.out) (by omega) (by omega)) (by rfl) ?_
    simp only [Act.put, rA, rB, rC]
    iterate 5 (refine wpPlan_takeL (v := ?_) rfl (by rfl) (fun w' hw => ?_) ?_; rotate_left; go_simp; with_reducible rfl; simp only [Act.put, rA, rB, rC])
    refine wpPlan_callL rfl (by rfl) Tryd.call23 (fun w' hw => nzmul (u2) (u2) (u7) _ HZ7.out (by omega) (by omega)) (by rfl) ?_
    simp only [Act.put, rA, rB, rC]
    refine wpPlan_callL rfl (by rfl) Tryd.call20 (fun w' hw => nzcmp (u7) (a) (1) _ (cmpI_gt (by have e : (u7) > (a) := (by simp only [← HZ7.out, ← HZ5.out, ← HZ4.out, ← HZ2.out, ← HZ1.out]; exact rt_lt _); first | exact e | omega)) (by omega) (by omega)) (by rfl) ?_
    simp only [Act.put, rA, rB, rC]
    iterate 9 (refine wpPlan_takeL (v := ?_) rfl (by rfl) (fun w' hw => ?_) ?_; rotate_left; go_simp; with_reducible rfl; simp only [Act.put, rA, rB, rC])
    refine wpPlan_callL rfl (by rfl) Tryd.call20 (fun w' hw => nzcmp (a) (u4) (-1) _ (cmpI_lt (by have e : (a) < (u4) := (by simp only [← HZ7.out, ← HZ5.out, ← HZ4.out, ← HZ2.out, ← HZ1.out]; exact nb_le.1 (Nat.le_of_eq HNB.out)); first | exact e | omega)) (by omega) (by omega)) (by rfl) ?_
    simp only [Act.put, rA, rB, rC]
    refine wpPlan_takeL (v := ?_) rfl (by rfl) (fun w' hw => ?_) ?_; rotate_left; go_simp; with_reducible rfl; simp only [Act.put, rA, rB, rC]
    refine wpPlan_nil (hT.out _ _ ?_); clear hT T
    intro G vw10 hg hf
    simp only [puts, Act.put, rA, rB, rC, rD, rE, ↓reduceIte, Nat.reduceEqDiff]
    clear lx0 lx3 lx4 lx5
    have HG := Lib.hid (hg)
    clear hg
    replace BX0 := bG BX0 HG
    replace BX3 := bG BX3 HG
    replace BX4 := bG BX4 HG
    replace BX5 := bG BX5 HG
    have r0 := Gr.refl vw10
    go_wp2
    refine hK.out _ _ ?_; clear hK K
    show Code.wp _ _ _ _ _
    clear r0
    refine forgetW (fun w2 => NX w2 gx0 (a) ∧ Below w.heap.size w w2) ⟨BX0.out, HB.out.trans (HG.out.mono HB.out.size)⟩ ?_
    clear HB HG BX0 BX3 BX4 BX5
    rintro Wx12 ⟨bx0, HB⟩
    replace HB := Lib.hid HB
    clear hc6 hd3
    refine wp_cond_false (by rfl) ?_
    refine wp_skip ?_
    show Code.wp _ _ _ _ _
    rcases qz q with hq | ⟨p, hp⟩
    · -- region 14
      have su_2_14 : wl 2 ≤ 1 := wl_le.2 (by decide +kernel)
      have hq1 : (q : Int) - 1 = -1 := by have e9 := hq.out; omega
      have BX0 := Lib.hid bx0
      clear bx0
      refine sK fun K hK => ?_
      refine wp_region_seqplan 7 [(true, 0), (true, 1), (true, 2), (true, 3), (true, 4), (true, 5), (true, 6)] (by rfl) (by simp) (fun T hT => ?_)
      refine wpPlan_callL rfl (by rfl) Tryd.call38 (fun w' hw => nzof 2 _ (by decide)) (by rfl) ?_
      simp only [Act.put, rA, rB, rC]
      iterate 2 (refine wpPlan_takeL (v := ?_) rfl (by rfl) (fun w' hw => ?_) ?_; rotate_left; go_simp; with_reducible rfl; simp only [Act.put, rA, rB, rC])
      refine wpPlan_callL rfl (by rfl) Tryd.call32 (fun w' hw => pow_neg (2) (-1) _ (by omega) (by omega)) (by rfl) ?_
      simp only [Act.put, rA, rB, rC]
      iterate 3 (refine wpPlan_takeL (v := ?_) rfl (by rfl) (fun w' hw => ?_) ?_; rotate_left; go_simp; with_reducible rfl; simp only [Act.put, rA, rB, rC])
      refine wpPlan_nil (hT.out _ _ ?_); clear hT T
      intro vw11 hg
      simp only [puts, Act.put, rA, rB, rC, rD, rE, ↓reduceIte, Nat.reduceEqDiff]
      have HG := Lib.hid (hg)
      clear hg
      replace BX0 := bG BX0 HG
      have r0 := Gr.refl vw11
      go_wp2
      refine hK.out _ _ ?_; clear hK K
      show Code.wp _ _ _ _ _
      clear r0
      have hsz : w.heap.size ≤ vw11.heap.size := Nat.le_trans HB.out.size HG.out.size
      have mx0 : gx0 < vw11.heap.size := BX0.out.lt
      refine forgetW (fun w2 => NX w2 gx0 (a) ∧ NX w2 (vw11.heap.size) (0) ∧ Below w.heap.size w w2) ⟨(BX0.out).alloc _, (Bx.at (by simp) : Bx _ (vw11.heap.size) _ _), (HB.out.trans (HG.out.mono HB.out.size)).alloc (by first | omega | (simp; omega)) _⟩ ?_
      clear HB HG BX0
      rintro Wx14 ⟨bx0, bx6, HB⟩
      replace HB := Lib.hid HB
      have yx6 : w.heap.size ≤ vw11.heap.size := by omega
      have qx0_6 : gx0 < vw11.heap.size := by omega
      generalize hx6 : vw11.heap.size = gx6 at *
      clear hx6
      clear hsz mx0
      clear hq1
      have hq0 : ((q : Int) == 0) = true := by have e9 := hq.out; simp [e9]
      have ha0 : decide (a = 0) = true := decide_eq_true (by have e9 := hq.out; have e8 := nb_le.1 (Nat.le_of_eq HNB.out); rw [e9] at e8; simpa using e8)
      have lx0 := bx0.cells
      have lx6 := bx6.cells
      have BX0 := Lib.hid bx0
      have BX6 := Lib.hid bx6
      clear bx0 bx6
      refine sK fun K hK => ?_
      refine wp_region_seqplan 21 [(true, 0), (true, 1), (true, 2), (true, 3), (true, 4), (true, 5), (true, 6), (true, 7), (true, 8), (true, 9), (true, 10), (true, 11), (true, 12), (true, 13), (true, 14), (true, 15), (true, 16), (true, 17), (true, 18), (true, 19), (true, 20)] (by rfl) (by simp) (fun T hT => ?_)
      iterate 8 (refine wpPlan_takeL (v := ?_) rfl (by rfl) (fun w' hw => ?_) ?_; rotate_left; go_simp; with_reducible rfl; simp only [Act.put, rA, rB, rC])
      iterate 8 (refine wpPlan_skipL rfl (by rfl) ?_; simp only [Act.put, rA, rB, rC])
      iterate 2 (refine wpPlan_takeL (v := ?_) rfl (by rfl) (fun w' hw => ?_) ?_; rotate_left; go_simp; with_reducible rfl; simp only [Act.put, rA, rB, rC])
      refine wpPlan_callL rfl (by rfl) Tryd.call12 (fun w' hw => works_any _ (Lib.hid (HT.out.gr (Gr.trans HB.out hw)))) (by rfl) ?_
      simp only [Act.put, rA, rB, rC]
      iterate 2 (refine wpPlan_takeL (v := ?_) rfl (by rfl) (fun w' hw => ?_) ?_; rotate_left; go_simp; with_reducible rfl; simp only [Act.put, rA, rB, rC])
      refine wpPlan_nil (hT.out _ _ ?_); clear hT T
      intro vw12 hg
      simp only [puts, Act.put, rA, rB, rC, rD, rE, ↓reduceIte, Nat.reduceEqDiff]
      clear lx0 lx6
      have HG := Lib.hid (hg)
      clear hg
      replace BX0 := bG BX0 HG
      replace BX6 := bG BX6 HG
      have r0 := Gr.refl vw12
      go_wp2
      refine hK.out _ _ ?_; clear hK K
      show Code.wp _ _ _ _ _
      clear r0
      refine forgetW (fun w2 => Below w.heap.size w w2) (HB.out.trans (HG.out.mono HB.out.size)) ?_
      clear HB HG BX0 BX6
      rintro Wx15 HB
      replace HB := Lib.hid HB
      clear hq0 ha0
      refine wp_ret ?_
      try simp only [Exit.then, Exit.inBlock]
      have r0 := Gr.refl Wx15
      exact bodyPost_ret (v := .bool true) (by simp [results, Tryd.results9, go_sem]) rfl ⟨rfl, HB.out⟩

    · -- region 14
      have su_2_14 : wl 2 ≤ 1 := wl_le.2 (by decide +kernel)
      have hp2 : p ≤ 639 := by have e9 := hp.out; omega
      have hq1 : IntKind.i64.wrap (p : Int) = (p : Int) := by rw [IntKind.wrap_i64]; omega
      have hq2 : (q : Int) - 1 = (p : Int) := by have e9 := hp.out; omega
      obtain ⟨u8, HZ8⟩ : ∃ z, Hid ((2) ^ p = z) := ⟨_, Lib.hid rfl⟩
      have su8 : wl (u8) ≤ 8192 := by rw [← HZ8.out]; exact wl_pow _ _ (by have e7 : nb 2 = 2 := (by decide +kernel); rw [e7]; omega)
      have BX0 := Lib.hid bx0
      clear bx0
      refine sK fun K hK => ?_
      refine wp_region_seqplan 7 [(true, 0), (true, 1), (true, 2), (true, 3), (true, 4), (true, 5), (true, 6)] (by rfl) (by simp) (fun T hT => ?_)
      refine wpPlan_callL rfl (by rfl) Tryd.call38 (fun w' hw => nzof 2 _ (by decide)) (by rfl) ?_
      simp only [Act.put, rA, rB, rC]
      iterate 2 (refine wpPlan_takeL (v := ?_) rfl (by rfl) (fun w' hw => ?_) ?_; rotate_left; go_simp; with_reducible rfl; simp only [Act.put, rA, rB, rC])
      refine wpPlan_callL rfl (by rfl) Tryd.call32 (fun w' hw => nzpow (2) p (u8) _ HZ8.out (by omega) (by have e7 : nb 2 = 2 := (by decide +kernel); rw [e7]; omega) (by omega)) (by rfl) ?_
      simp only [Act.put, rA, rB, rC]
      iterate 3 (refine wpPlan_takeL (v := ?_) rfl (by rfl) (fun w' hw => ?_) ?_; rotate_left; go_simp; with_reducible rfl; simp only [Act.put, rA, rB, rC])
      refine wpPlan_nil (hT.out _ _ ?_); clear hT T
      intro vw11 hg
      simp only [puts, Act.put, rA, rB, rC, rD, rE, ↓reduceIte, Nat.reduceEqDiff]
      have HG := Lib.hid (hg)
      clear hg
      replace BX0 := bG BX0 HG
      have r0 := Gr.refl vw11
      go_wp2
      refine hK.out _ _ ?_; clear hK K
      show Code.wp _ _ _ _ _
      clear r0
      have hsz : w.heap.size ≤ vw11.heap.size := Nat.le_trans HB.out.size HG.out.size
      have mx0 : gx0 < vw11.heap.size := BX0.out.lt
      refine forgetW (fun w2 => NX w2 gx0 (a) ∧ NX w2 (vw11.heap.size) (u8) ∧ Below w.heap.size w w2) ⟨(BX0.out).alloc _, (Bx.at (by simp) : Bx _ (vw11.heap.size) _ _), (HB.out.trans (HG.out.mono HB.out.size)).alloc (by first | omega | (simp; omega)) _⟩ ?_
      clear HB HG BX0
      rintro Wx14 ⟨bx0, bx6, HB⟩
      replace HB := Lib.hid HB
      have yx6 : w.heap.size ≤ vw11.heap.size := by omega
      have qx0_6 : gx0 < vw11.heap.size := by omega
      generalize hx6 : vw11.heap.size = gx6 at *
      clear hx6
      clear hsz mx0
      clear hp2 hq1 hq2
      have hq0 : ((q : Int) == 0) = false := by have e9 : ¬ ((q : Int) = 0) := (by have e8 := hp.out; omega); simpa using e9
      obtain ⟨c9, HC9⟩ : ∃ c, Hid (cmpI (u8 : Nat) (a : Nat) = c) := ⟨_, Lib.hid rfl⟩
      have hc9 : ¬ 0 < c9 := by rw [← HC9.out]; exact cmpI_nonpos (by have e : (u8) ≤ (a) := (by simp only [← HZ8.out, ← HZ7.out, ← HZ5.out, ← HZ4.out, ← HZ2.out, ← HZ1.out]; exact pow_le_nb hp.out HNB.out); omega)
      have hd4 : c9 ≤ 0 := by omega
      have lx0 := bx0.cells
      have lx6 := bx6.cells
      have BX0 := Lib.hid bx0
      have BX6 := Lib.hid bx6
      clear bx0 bx6
      refine sK fun K hK => ?_
      refine wp_region_seqplan 21 [(true, 0), (true, 1), (true, 2), (true, 3), (true, 4), (true, 5), (true, 6), (true, 7), (true, 8), (true, 9), (true, 10), (true, 11), (true, 12), (true, 13), (true, 14), (true, 15), (true, 16), (true, 17), (true, 18), (true, 19), (true, 20)] (by rfl) (by simp) (fun T hT => ?_)
      iterate 3 (refine wpPlan_takeL (v := ?_) rfl (by rfl) (fun w' hw => ?_) ?_; rotate_left; go_simp; with_reducible rfl; simp only [Act.put, rA, rB, rC])
      iterate 3 (refine wpPlan_skipL rfl (by rfl) ?_; simp only [Act.put, rA, rB, rC])
      iterate 7 (refine wpPlan_takeL (v := ?_) rfl (by rfl) (fun w' hw => ?_) ?_; rotate_left; go_simp; with_reducible rfl; simp only [Act.put, rA, rB, rC])
      refine wpPlan_callL rfl (by rfl) Tryd.call20 (fun w' hw => nzcmp (u8) (a) (c9) _ (HC9.out) (by omega) (by omega)) (by rfl) ?_
      simp only [Act.put, rA, rB, rC]
      iterate 4 (refine wpPlan_takeL (v := ?_) rfl (by rfl) (fun w' hw => ?_) ?_; rotate_left; go_simp; with_reducible rfl; simp only [Act.put, rA, rB, rC])
      refine wpPlan_callL rfl (by rfl) Tryd.call12 (fun w' hw => works_any _ (Lib.hid (HT.out.gr (Gr.trans HB.out hw)))) (by rfl) ?_
      simp only [Act.put, rA, rB, rC]
      iterate 2 (refine wpPlan_takeL (v := ?_) rfl (by rfl) (fun w' hw => ?_) ?_; rotate_left; go_simp; with_reducible rfl; simp only [Act.put, rA, rB, rC])
      refine wpPlan_nil (hT.out _ _ ?_); clear hT T
      intro vw12 hg
      simp only [puts, Act.put, rA, rB, rC, rD, rE, ↓reduceIte, Nat.reduceEqDiff]
      clear lx0 lx6
      have HG := Lib.hid (hg)
      clear hg
      replace BX0 := bG BX0 HG
      replace BX6 := bG BX6 HG
      have r0 := Gr.refl vw12
      go_wp2
      refine hK.out _ _ ?_; clear hK K
      show Code.wp _ _ _ _ _
      clear r0
      refine forgetW (fun w2 => Below w.heap.size w w2) (HB.out.trans (HG.out.mono HB.out.size)) ?_
      clear HB HG BX0 BX6
      rintro Wx15 HB
      replace HB := Lib.hid HB
      clear hq0 hc9 hd4
      refine wp_ret ?_
      try simp only [Exit.then, Exit.inBlock]
      have r0 := Gr.refl Wx15
      exact bodyPost_ret (v := .bool true) (by simp [results, Tryd.results9, go_sem]) rfl ⟨rfl, HB.out⟩

  · -- region 6
    have hab2 : decide (a = b) = true := by have e9 := heq.out; exact decide_eq_true e9
    have hgt : ¬ ((t.size : Int) < (s.size : Int)) := by have e9 := hsz.out; omega
    have hge : ((s.size : Int) == (t.size : Int)) = true := by have e8 : (s.size : Int) = (t.size : Int) := (by have e9 := hsz.out; omega); simpa using e8
    have lx0 := bx0.cells
    have lx1 := bx1.cells
    have lx2 := bx2.cells
    have BX0 := Lib.hid bx0
    have BX1 := Lib.hid bx1
    have BX2 := Lib.hid bx2
    clear bx0 bx1 bx2
    refine sK fun K hK => ?_
    refine wp_region_seqplan 46 [(true, 0), (true, 1), (true, 2), (true, 3), (true, 4), (true, 5), (true, 6), (true, 7), (true, 8), (true, 9), (true, 10), (true, 11), (true, 12), (true, 13), (true, 14), (true, 15), (true, 16), (true, 17), (true, 18), (true, 19), (true, 20), (true, 21), (true, 22), (true, 23), (true, 24), (true, 25), (true, 26), (true, 27), (true, 28), (true, 29), (true, 30), (true, 31), (true, 32), (true, 33), (true, 34), (true, 35), (true, 36), (true, 37), (true, 38), (true, 39), (true, 40), (true, 41), (true, 42), (true, 43), (true, 44), (true, 45)] (by rfl) (by simp) (fun T hT => ?_)
    iterate 23 (refine wpPlan_takeL (v := ?_) rfl (by rfl) (fun w' hw => ?_) ?_; rotate_left; go_simp; with_reducible rfl; simp only [Act.put, rA, rB, rC])
    iterate 4 (refine wpPlan_skipL rfl (by rfl) ?_; simp only [Act.put, rA, rB, rC])
    iterate 14 (refine wpPlan_takeL (v := ?_) rfl (by rfl) (fun w' hw => ?_) ?_; rotate_left; go_simp; with_reducible rfl; simp only [Act.put, rA, rB, rC])
    refine wpPlan_callL rfl (by rfl) Tryd.call20 (fun w' hw => nzcmp (a) (b) (0) _ (cmpI_eq (by have e : (a) = (b) := (by exact heq.out); first | exact e | omega)) (by omega) (by omega)) (by rfl) ?_
    simp only [Act.put, rA, rB, rC]
    iterate 4 (refine wpPlan_takeL (v := ?_) rfl (by rfl) (fun w' hw => ?_) ?_; rotate_left; go_simp; with_reducible rfl; simp only [Act.put, rA, rB, rC])
    refine wpPlan_nil (hT.out _ _ ?_); clear hT T
    intro vw5 hg
    simp only [puts, Act.put, rA, rB, rC, rD, rE, ↓reduceIte, Nat.reduceEqDiff]
    clear lx0 lx1 lx2
    have HG := Lib.hid (hg)
    clear hg
    replace BX0 := bG BX0 HG
    replace BX1 := bG BX1 HG
    replace BX2 := bG BX2 HG
    have r0 := Gr.refl vw5
    go_wp2
    refine hK.out _ _ ?_; clear hK K
    show Code.wp _ _ _ _ _
    clear r0
    refine forgetW (fun w2 => NX w2 gx0 (a) ∧ Below w.heap.size w w2) ⟨BX0.out, HB.out.trans (HG.out.mono HB.out.size)⟩ ?_
    clear HB HG BX0 BX1 BX2
    rintro Wx6 ⟨bx0, HB⟩
    replace HB := Lib.hid HB
    clear hab2 hgt hge
    refine wp_cond_false (by rfl) ?_
    refine wp_skip ?_
    show Code.wp _ _ _ _ _
    obtain ⟨u1, HZ1⟩ : ∃ z, Hid (rt (a) = z) := ⟨_, Lib.hid rfl⟩
    have su1 : wl (u1) ≤ 20 := by rw [← HZ1.out]; have := wl_mono (rt_self (a)); omega
    have lx0 := bx0.cells
    have BX0 := Lib.hid bx0
    clear bx0
    refine sK fun K hK => ?_
    refine wp_region_seqplan 2 [(true, 0), (true, 1)] (by rfl) (by simp) (fun T hT => ?_)
    refine wpPlan_takeL (v := ?_) rfl (by rfl) (fun w' hw => ?_) ?_; rotate_left; go_simp; with_reducible rfl; simp only [Act.put, rA, rB, rC]
    refine wpPlan_callL rfl (by rfl) Tryd.call28 (fun w' hw => nzsqrt (a) (u1) _ HZ1.out (by omega)) (by rfl) ?_
    simp only [Act.put, rA, rB, rC]
    refine wpPlan_nil (hT.out _ _ ?_); clear hT T
    intro vw6 hg
    simp only [puts, Act.put, rA, rB, rC, rD, rE, ↓reduceIte, Nat.reduceEqDiff]
    clear lx0
    have HG := Lib.hid (hg)
    clear hg
    replace BX0 := bG BX0 HG
    have r0 := Gr.refl vw6
    go_wp2
    refine hK.out _ _ ?_; clear hK K
    show Code.wp _ _ _ _ _
    clear r0
    have hsz : w.heap.size ≤ vw6.heap.size := Nat.le_trans HB.out.size HG.out.size
    have mx0 : gx0 < vw6.heap.size := BX0.out.lt
    refine forgetW (fun w2 => NX w2 gx0 (a) ∧ NX w2 (vw6.heap.size) (u1) ∧ Below w.heap.size w w2) ⟨(BX0.out).alloc _, (Bx.at (by simp) : Bx _ (vw6.heap.size) _ _), (HB.out.trans (HG.out.mono HB.out.size)).alloc (by first | omega | (simp; omega)) _⟩ ?_
    clear HB HG BX0
    rintro Wx8 ⟨bx0, bx3, HB⟩
    replace HB := Lib.hid HB
    have yx3 : w.heap.size ≤ vw6.heap.size := by omega
    have qx0_3 : gx0 < vw6.heap.size := by omega
    generalize hx3 : vw6.heap.size = gx3 at *
    clear hx3
    clear hsz mx0
    have su_0_9 : wl 1 ≤ 1 := wl_le.2 (by decide +kernel)
    obtain ⟨u2, HZ2⟩ : ∃ z, Hid ((u1) + (1) = z) := ⟨_, Lib.hid rfl⟩
    have su2 : wl (u2) ≤ 21 := by rw [← HZ2.out]; have := wl_add (u1) (1); omega
    have lx3 := bx3.cells
    have BX0 := Lib.hid bx0
    have BX3 := Lib.hid bx3
    clear bx0 bx3
    refine sK fun K hK => ?_
    refine wp_region_plan 4 [3] [] (fun _ => 12) (fun _ => .cells #[.int .u64 0, .string ⟨#[]⟩] 26) [(true, 0), (true, 1), (true, 2)] (by kernel_rfl) (by kernel_rfl) (by intro i hi; simp only [List.mem_cons, List.not_mem_nil, or_false] at hi; rcases hi with rfl <;> exact ⟨_, rfl, rfl, rfl, by simp, fun ρ w => by kernel_rfl⟩) (fun i hi => by cases hi) (fun _ _ _ _ _ h => h) (fun T hT => ?_)
    refine wpPlan_takeL (v := ?_) rfl (by rfl) (fun w' hw => ?_) ?_; rotate_left; go_simp; with_reducible rfl; simp only [Act.put, rA, rB, rC]
    refine wpPlan_callL rfl (by rfl) Tryd.call38 (fun w' hw => nzof 1 _ (by decide)) (by rfl) ?_
    simp only [Act.put, rA, rB, rC]
    refine wpPlan_callL rfl (by rfl) Tryd.call18 (fun w' hw => nzadd (u1) (1) (u2) _ HZ2.out (by omega) (by omega)) (by rfl) ?_
    simp only [Act.put, rA, rB, rC]
    refine wpPlan_nil (hT.out _ _ ?_); clear hT T
    intro G vw7 hg hf
    simp only [puts, Act.put, rA, rB, rC, rD, rE, ↓reduceIte, Nat.reduceEqDiff]
    clear lx3
    have HG := Lib.hid (hg)
    clear hg
    have bx4 := Bx.of_fresh hf (i := 3) (by decide) rfl
    have yx4 := (hf.1 3 (by decide)).1
    clear hf
    generalize G 3 = gx4 at *
    have qx0_4 : gx0 < gx4 := Nat.lt_of_lt_of_le BX0.out.lt yx4
    have qx3_4 : gx3 < gx4 := Nat.lt_of_lt_of_le BX3.out.lt yx4
    replace yx4 : w.heap.size ≤ gx4 := Nat.le_trans HB.out.size yx4
    replace BX0 := bG BX0 HG
    replace BX3 := bG BX3 HG
    have lx4 := bx4.cells; have fx4 := bx4.free
    have r0 := Gr.refl vw7
    have BX4 := Lib.hid bx4; clear bx4
    go_wp2
    refine hK.out _ _ ?_; clear hK K
    show Code.wp _ _ _ _ _
    clear lx4 fx4
    clear r0
    refine forgetW (fun w2 => NX w2 gx0 (a) ∧ NX w2 gx3 (u1) ∧ NX w2 gx4 (u2) ∧ Below w.heap.size w w2) ⟨so2 (BX0.out) (by show gx0 ≠ gx4; omega), so2 (BX3.out) (by show gx3 ≠ gx4; omega), (((BX4.out).set 0 _).set 1 _).eq (by simp only [rA, rB, rC]), sc2 (HB.out.trans (HG.out.mono HB.out.size)) (by show w.heap.size ≤ gx4; omega)⟩ ?_
    clear HB HG BX0 BX3 BX4
    rintro Wx9 ⟨bx0, bx3, bx4, HB⟩
    replace HB := Lib.hid HB
    have lx0 := bx0.cells
    have BX0 := Lib.hid bx0
    have BX3 := Lib.hid bx3
    have BX4 := Lib.hid bx4
    clear bx0 bx3 bx4
    refine sK fun K hK => ?_
    refine wp_region_seqplan 3 [(true, 0), (true, 1), (true, 2)] (by rfl) (by simp) (fun T hT => ?_)
    refine wpPlan_takeL (v := ?_) rfl (by rfl) (fun w' hw => ?_) ?_; rotate_left; go_simp; with_reducible rfl; simp only [Act.put, rA, rB, rC]
    refine wpPlan_callL rfl (by rfl) Tryd.call30 (fun w' hw => nzbits (a) q _ HNB.out (by omega)) (by rfl) ?_
    simp only [Act.put, rA, rB, rC]
    refine wpPlan_takeL (v := ?_) rfl (by rfl) (fun w' hw => ?_) ?_; rotate_left; go_simp; with_reducible rfl; simp only [Act.put, rA, rB, rC]
    refine wpPlan_nil (hT.out _ _ ?_); clear hT T
    intro vw8 hg
    simp only [puts, Act.put, rA, rB, rC, rD, rE, ↓reduceIte, Nat.reduceEqDiff]
    clear lx0
    have HG := Lib.hid (hg)
    clear hg
    replace BX0 := bG BX0 HG
    replace BX3 := bG BX3 HG
    replace BX4 := bG BX4 HG
    have r0 := Gr.refl vw8
    go_wp2
    refine hK.out _ _ ?_; clear hK K
    show Code.wp _ _ _ _ _
    clear r0
    refine forgetW (fun w2 => NX w2 gx0 (a) ∧ NX w2 gx3 (u1) ∧ NX w2 gx4 (u2) ∧ Below w.heap.size w w2) ⟨BX0.out, BX3.out, BX4.out, HB.out.trans (HG.out.mono HB.out.size)⟩ ?_
    clear HB HG BX0 BX3 BX4
    rintro Wx10 ⟨bx0, bx3, bx4, HB⟩
    replace HB := Lib.hid HB
    have su_1_11 : wl 2 ≤ 1 := wl_le.2 (by decide +kernel)
    obtain ⟨u4, HZ4⟩ : ∃ z, Hid ((2) ^ q = z) := ⟨_, Lib.hid rfl⟩
    have su4 : wl (u4) ≤ 8192 := by rw [← HZ4.out]; exact wl_pow _ _ (by have e7 : nb 2 = 2 := (by decide +kernel); rw [e7]; omega)
    have BX0 := Lib.hid bx0
    have BX3 := Lib.hid bx3
    have BX4 := Lib.hid bx4
    clear bx0 bx3 bx4
    refine sK fun K hK => ?_
    refine wp_region_seqplan 6 [(true, 0), (true, 1), (true, 2), (true, 3), (true, 4), (true, 5)] (by rfl) (by simp) (fun T hT => ?_)
    refine wpPlan_callL rfl (by rfl) Tryd.call38 (fun w' hw => nzof 2 _ (by decide)) (by rfl) ?_
    simp only [Act.put, rA, rB, rC]
    refine wpPlan_takeL (v := ?_) rfl (by rfl) (fun w' hw => ?_) ?_; rotate_left; go_simp; with_reducible rfl; simp only [Act.put, rA, rB, rC]
    refine wpPlan_callL rfl (by rfl) Tryd.call32 (fun w' hw => nzpow (2) q (u4) _ HZ4.out (by omega) (by have e7 : nb 2 = 2 := (by decide +kernel); rw [e7]; omega) (by omega)) (by rfl) ?_
    simp only [Act.put, rA, rB, rC]
    iterate 3 (refine wpPlan_takeL (v := ?_) rfl (by rfl) (fun w' hw => ?_) ?_; rotate_left; go_simp; with_reducible rfl; simp only [Act.put, rA, rB, rC])
    refine wpPlan_nil (hT.out _ _ ?_); clear hT T
    intro vw9 hg
    simp only [puts, Act.put, rA, rB, rC, rD, rE, ↓reduceIte, Nat.reduceEqDiff]
    have HG := Lib.hid (hg)
    clear hg
    replace BX0 := bG BX0 HG
    replace BX3 := bG BX3 HG
    replace BX4 := bG BX4 HG
    have r0 := Gr.refl vw9
    go_wp2
    refine hK.out _ _ ?_; clear hK K
    show Code.wp _ _ _ _ _
    clear r0
    have hsz : w.heap.size ≤ vw9.heap.size := Nat.le_trans HB.out.size HG.out.size
    have mx0 : gx0 < vw9.heap.size := BX0.out.lt
    have mx3 : gx3 < vw9.heap.size := BX3.out.lt
    have mx4 : gx4 < vw9.heap.size := BX4.out.lt
    refine forgetW (fun w2 => NX w2 gx0 (a) ∧ NX w2 gx3 (u1) ∧ NX w2 gx4 (u2) ∧ NX w2 (vw9.heap.size) (u4) ∧ Below w.heap.size w w2) ⟨(BX0.out).alloc _, (BX3.out).alloc _, (BX4.out).alloc _, (Bx.at (by simp) : Bx _ (vw9.heap.size) _ _), (HB.out.trans (HG.out.mono HB.out.size)).alloc (by first | omega | (simp; omega)) _⟩ ?_
    clear HB HG BX0 BX3 BX4
    rintro Wx11 ⟨bx0, bx3, bx4, bx5, HB⟩
    replace HB := Lib.hid HB
    have yx5 : w.heap.size ≤ vw9.heap.size := by omega
    have qx0_5 : gx0 < vw9.heap.size := by omega
    have qx3_5 : gx3 < vw9.heap.size := by omega
    have qx4_5 : gx4 < vw9.heap.size := by omega
    generalize hx5 : vw9.heap.size = gx5 at *
    clear hx5
    clear hsz mx0 mx3 mx4
    refine wp_seq ?_
    obtain ⟨u5, HZ5⟩ : ∃ z, Hid ((u1) * (u1) = z) := ⟨_, Lib.hid rfl⟩
    have su5 : wl (u5) ≤ 40 := by rw [← HZ5.out]; have := wl_mul (u1) (u1); omega
    obtain ⟨c6, HC6⟩ : ∃ c, Hid (cmpI (u5 : Nat) (a : Nat) = c) := ⟨_, Lib.hid rfl⟩
    have hc6 : ¬ 0 < c6 := by rw [← HC6.out]; exact cmpI_nonpos (by have e : (u5) ≤ (a) := (by simp only [← HZ5.out, ← HZ4.out, ← HZ2.out, ← HZ1.out]; exact rt_le _); omega)
    have hd3 : ¬ (0 < c6) := by omega
    obtain ⟨u7, HZ7⟩ : ∃ z, Hid ((u2) * (u2) = z) := ⟨_, Lib.hid rfl⟩
    have su7 : wl (u7) ≤ 42 := by rw [← HZ7.out]; have := wl_mul (u2) (u2); omega
    have lx0 := bx0.cells
    have lx3 := bx3.cells
    have lx4 := bx4.cells
    have lx5 := bx5.cells
    have BX0 := Lib.hid bx0
    have BX3 := Lib.hid bx3
    have BX4 := Lib.hid bx4
    have BX5 := Lib.hid bx5
    clear bx0 bx3 bx4 bx5
    refine sK fun K hK => ?_
    refine wp_region_plan 23 [] [] (fun _ => 0) (fun _ => .cells #[] 0) [(true, 0), (true, 1), (true, 3), (true, 2), (true, 4), (true, 5), (true, 6), (true, 7), (true, 8), (true, 10), (true, 9), (true, 11), (true, 12), (true, 13), (true, 14), (true, 15), (true, 16), (true, 17), (true, 18), (true, 19), (true, 20), (true, 21), (true, 22)] (by kernel_rfl) (by kernel_rfl) (fun i hi => by cases hi) (fun i hi => by cases hi) (fun _ _ _ _ _ h => h) (fun T hT => ?_)
    iterate 3 (refine wpPlan_takeL (v := ?_) rfl (by rfl) (fun w' hw => ?_) ?_; rotate_left; go_simp; with_reducible rfl; simp only [Act.put, rA, rB, rC])
    refine wpPlan_callL rfl (by rfl) Tryd.call23 (fun w' hw => nzmul (u1) (u1) (u5) _ HZ5.out (by omega) (by omega)) (by rfl) ?_
    simp only [Act.put, rA, rB, rC]
    refine wpPlan_callL rfl (by rfl) Tryd.call20 (fun w' hw => nzcmp (u5) (a) (c6) _ (HC6.out) (by omega) (by omega)) (by rfl) ?_
    simp only [Act.put, rA, rB, rC]
    iterate 5 (refine wpPlan_takeL (v := ?_) rfl (by rfl) (fun w' hw => ?_) ?_; rotate_left; go_simp; with_reducible rfl; simp only [Act.put, rA, rB, rC])
    refine wpPlan_callL rfl (by rfl) Tryd.call23 (fun w' hw => nzmul (u2) (u2) (u7) _ HZ7.out (by omega) (by omega)) (by rfl) ?_
    simp only [Act.put, rA, rB, rC]
    refine wpPlan_callL rfl (by rfl) Tryd.call20 (fun w' hw => nzcmp (u7) (a) (1) _ (cmpI_gt (by have e : (u7) > (a) := (by simp only [← HZ7.out, ← HZ5.out, ← HZ4.out, ← HZ2.out, ← HZ1.out]; exact rt_lt _); first | exact e | omega)) (by omega) (by omega)) (by rfl) ?_
    simp only [Act.put, rA, rB, rC]
    iterate 9 (refine wpPlan_takeL (v := ?_) rfl (by rfl) (fun w' hw => ?_) ?_; rotate_left; go_simp; with_reducible rfl; simp only [Act.put, rA, rB, rC])
    refine wpPlan_callL rfl (by rfl) Tryd.call20 (fun w' hw => nzcmp (a) (u4) (-1) _ (cmpI_lt (by have e : (a) < (u4) := (by simp only [← HZ7.out, ← HZ5.out, ← HZ4.out, ← HZ2.out, ← HZ1.out]; exact nb_le.1 (Nat.le_of_eq HNB.out)); first | exact e | omega)) (by omega) (by omega)) (by rfl) ?_
    simp only [Act.put, rA, rB, rC]
    refine wpPlan_takeL (v := ?_) rfl (by rfl) (fun w' hw => ?_) ?_; rotate_left; go_simp; with_reducible rfl; simp only [Act.put, rA, rB, rC]
    refine wpPlan_nil (hT.out _ _ ?_); clear hT T
    intro G vw10 hg hf
    simp only [puts, Act.put, rA, rB, rC, rD, rE, ↓reduceIte, Nat.reduceEqDiff]
    clear lx0 lx3 lx4 lx5
    have HG := Lib.hid (hg)
    clear hg
    replace BX0 := bG BX0 HG
    replace BX3 := bG BX3 HG
    replace BX4 := bG BX4 HG
    replace BX5 := bG BX5 HG
    have r0 := Gr.refl vw10
    go_wp2
    refine hK.out _ _ ?_; clear hK K
    show Code.wp _ _ _ _ _
    clear r0
    refine forgetW (fun w2 => NX w2 gx0 (a) ∧ Below w.heap.size w w2) ⟨BX0.out, HB.out.trans (HG.out.mono HB.out.size)⟩ ?_
    clear HB HG BX0 BX3 BX4 BX5
    rintro Wx12 ⟨bx0, HB⟩
    replace HB := Lib.hid HB
    clear hc6 hd3
    refine wp_cond_false (by rfl) ?_
    refine wp_skip ?_
    show Code.wp _ _ _ _ _
    rcases qz q with hq | ⟨p, hp⟩
    · -- region 14
      have su_2_14 : wl 2 ≤ 1 := wl_le.2 (by decide +kernel)
      have hq1 : (q : Int) - 1 = -1 := by have e9 := hq.out; omega
      have BX0 := Lib.hid bx0
      clear bx0
      refine sK fun K hK => ?_
      refine wp_region_seqplan 7 [(true, 0), (true, 1), (true, 2), (true, 3), (true, 4), (true, 5), (true, 6)] (by rfl) (by simp) (fun T hT => ?_)
      refine wpPlan_callL rfl (by rfl) Tryd.call38 (fun w' hw => nzof 2 _ (by decide)) (by rfl) ?_
      simp only [Act.put, rA, rB, rC]
      iterate 2 (refine wpPlan_takeL (v := ?_) rfl (by rfl) (fun w' hw => ?_) ?_; rotate_left; go_simp; with_reducible rfl; simp only [Act.put, rA, rB, rC])
      refine wpPlan_callL rfl (by rfl) Tryd.call32 (fun w' hw => pow_neg (2) (-1) _ (by omega) (by omega)) (by rfl) ?_
      simp only [Act.put, rA, rB, rC]
      iterate 3 (refine wpPlan_takeL (v := ?_) rfl (by rfl) (fun w' hw => ?_) ?_; rotate_left; go_simp; with_reducible rfl; simp only [Act.put, rA, rB, rC])
      refine wpPlan_nil (hT.out _ _ ?_); clear hT T
      intro vw11 hg
      simp only [puts, Act.put, rA, rB, rC, rD, rE, ↓reduceIte, Nat.reduceEqDiff]
      have HG := Lib.hid (hg)
      clear hg
      replace BX0 := bG BX0 HG
      have r0 := Gr.refl vw11
      go_wp2
      refine hK.out _ _ ?_; clear hK K
      show Code.wp _ _ _ _ _
      clear r0
      have hsz : w.heap.size ≤ vw11.heap.size := Nat.le_trans HB.out.size HG.out.size
      have mx0 : gx0 < vw11.heap.size := BX0.out.lt
      refine forgetW (fun w2 => NX w2 gx0 (a) ∧ NX w2 (vw11.heap.size) (0) ∧ Below w.heap.size w w2) ⟨(BX0.out).alloc _, (Bx.at (by simp) : Bx _ (vw11.heap.size) _ _), (HB.out.trans (HG.out.mono HB.out.size)).alloc (by first | omega | (simp; omega)) _⟩ ?_
      clear HB HG BX0
      rintro Wx14 ⟨bx0, bx6, HB⟩
      replace HB := Lib.hid HB
      have yx6 : w.heap.size ≤ vw11.heap.size := by omega
      have qx0_6 : gx0 < vw11.heap.size := by omega
      generalize hx6 : vw11.heap.size = gx6 at *
      clear hx6
      clear hsz mx0
      clear hq1
      have hq0 : ((q : Int) == 0) = true := by have e9 := hq.out; simp [e9]
      have ha0 : decide (a = 0) = true := decide_eq_true (by have e9 := hq.out; have e8 := nb_le.1 (Nat.le_of_eq HNB.out); rw [e9] at e8; simpa using e8)
      have lx0 := bx0.cells
      have lx6 := bx6.cells
      have BX0 := Lib.hid bx0
      have BX6 := Lib.hid bx6
      clear bx0 bx6
      refine sK fun K hK => ?_
      refine wp_region_seqplan 21 [(true, 0), (true, 1), (true, 2), (true, 3), (true, 4), (true, 5), (true, 6), (true, 7), (true, 8), (true, 9), (true, 10), (true, 11), (true, 12), (true, 13), (true, 14), (true, 15), (true, 16), (true, 17), (true, 18), (true, 19), (true, 20)] (by rfl) (by simp) (fun T hT => ?_)
      iterate 8 (refine wpPlan_takeL (v := ?_) rfl (by rfl) (fun w' hw => ?_) ?_; rotate_left; go_simp; with_reducible rfl; simp only [Act.put, rA, rB, rC])
      iterate 8 (refine wpPlan_skipL rfl (by rfl) ?_; simp only [Act.put, rA, rB, rC])
      iterate 2 (refine wpPlan_takeL (v := ?_) rfl (by rfl) (fun w' hw => ?_) ?_; rotate_left; go_simp; with_reducible rfl; simp only [Act.put, rA, rB, rC])
      refine wpPlan_callL rfl (by rfl) Tryd.call12 (fun w' hw => works_any _ (Lib.hid (HT.out.gr (Gr.trans HB.out hw)))) (by rfl) ?_
      simp only [Act.put, rA, rB, rC]
      iterate 2 (refine wpPlan_takeL (v := ?_) rfl (by rfl) (fun w' hw => ?_) ?_; rotate_left; go_simp; with_reducible rfl; simp only [Act.put, rA, rB, rC])
      refine wpPlan_nil (hT.out _ _ ?_); clear hT T
      intro vw12 hg
      simp only [puts, Act.put, rA, rB, rC, rD, rE, ↓reduceIte, Nat.reduceEqDiff]
      clear lx0 lx6
      have HG := Lib.hid (hg)
      clear hg
      replace BX0 := bG BX0 HG
      replace BX6 := bG BX6 HG
      have r0 := Gr.refl vw12
      go_wp2
      refine hK.out _ _ ?_; clear hK K
      show Code.wp _ _ _ _ _
      clear r0
      refine forgetW (fun w2 => Below w.heap.size w w2) (HB.out.trans (HG.out.mono HB.out.size)) ?_
      clear HB HG BX0 BX6
      rintro Wx15 HB
      replace HB := Lib.hid HB
      clear hq0 ha0
      refine wp_ret ?_
      try simp only [Exit.then, Exit.inBlock]
      have r0 := Gr.refl Wx15
      exact bodyPost_ret (v := .bool true) (by simp [results, Tryd.results9, go_sem]) rfl ⟨rfl, HB.out⟩

    · -- region 14
      have su_2_14 : wl 2 ≤ 1 := wl_le.2 (by decide +kernel)
      have hp2 : p ≤ 639 := by have e9 := hp.out; omega
      have hq1 : IntKind.i64.wrap (p : Int) = (p : Int) := by rw [IntKind.wrap_i64]; omega
      have hq2 : (q : Int) - 1 = (p : Int) := by have e9 := hp.out; omega
      obtain ⟨u8, HZ8⟩ : ∃ z, Hid ((2) ^ p = z) := ⟨_, Lib.hid rfl⟩
      have su8 : wl (u8) ≤ 8192 := by rw [← HZ8.out]; exact wl_pow _ _ (by have e7 : nb 2 = 2 := (by decide +kernel); rw [e7]; omega)
      have BX0 := Lib.hid bx0
      clear bx0
      refine sK fun K hK => ?_
      refine wp_region_seqplan 7 [(true, 0), (true, 1), (true, 2), (true, 3), (true, 4), (true, 5), (true, 6)] (by rfl) (by simp) (fun T hT => ?_)
      refine wpPlan_callL rfl (by rfl) Tryd.call38 (fun w' hw => nzof 2 _ (by decide)) (by rfl) ?_
      simp only [Act.put, rA, rB, rC]
      iterate 2 (refine wpPlan_takeL (v := ?_) rfl (by rfl) (fun w' hw => ?_) ?_; rotate_left; go_simp; with_reducible rfl; simp only [Act.put, rA, rB, rC])
      refine wpPlan_callL rfl (by rfl) Tryd.call32 (fun w' hw => nzpow (2) p (u8) _ HZ8.out (by omega) (by have e7 : nb 2 = 2 := (by decide +kernel); rw [e7]; omega) (by omega)) (by rfl) ?_
      simp only [Act.put, rA, rB, rC]
      iterate 3 (refine wpPlan_takeL (v := ?_) rfl (by rfl) (fun w' hw => ?_) ?_; rotate_left; go_simp; with_reducible rfl; simp only [Act.put, rA, rB, rC])
      refine wpPlan_nil (hT.out _ _ ?_); clear hT T
      intro vw11 hg
      simp only [puts, Act.put, rA, rB, rC, rD, rE, ↓reduceIte, Nat.reduceEqDiff]
      have HG := Lib.hid (hg)
      clear hg
      replace BX0 := bG BX0 HG
      have r0 := Gr.refl vw11
      go_wp2
      refine hK.out _ _ ?_; clear hK K
      show Code.wp _ _ _ _ _
      clear r0
      have hsz : w.heap.size ≤ vw11.heap.size := Nat.le_trans HB.out.size HG.out.size
      have mx0 : gx0 < vw11.heap.size := BX0.out.lt
      refine forgetW (fun w2 => NX w2 gx0 (a) ∧ NX w2 (vw11.heap.size) (u8) ∧ Below w.heap.size w w2) ⟨(BX0.out).alloc _, (Bx.at (by simp) : Bx _ (vw11.heap.size) _ _), (HB.out.trans (HG.out.mono HB.out.size)).alloc (by first | omega | (simp; omega)) _⟩ ?_
      clear HB HG BX0
      rintro Wx14 ⟨bx0, bx6, HB⟩
      replace HB := Lib.hid HB
      have yx6 : w.heap.size ≤ vw11.heap.size := by omega
      have qx0_6 : gx0 < vw11.heap.size := by omega
      generalize hx6 : vw11.heap.size = gx6 at *
      clear hx6
      clear hsz mx0
      clear hp2 hq1 hq2
      have hq0 : ((q : Int) == 0) = false := by have e9 : ¬ ((q : Int) = 0) := (by have e8 := hp.out; omega); simpa using e9
      obtain ⟨c9, HC9⟩ : ∃ c, Hid (cmpI (u8 : Nat) (a : Nat) = c) := ⟨_, Lib.hid rfl⟩
      have hc9 : ¬ 0 < c9 := by rw [← HC9.out]; exact cmpI_nonpos (by have e : (u8) ≤ (a) := (by simp only [← HZ8.out, ← HZ7.out, ← HZ5.out, ← HZ4.out, ← HZ2.out, ← HZ1.out]; exact pow_le_nb hp.out HNB.out); omega)
      have hd4 : c9 ≤ 0 := by omega
      have lx0 := bx0.cells
      have lx6 := bx6.cells
      have BX0 := Lib.hid bx0
      have BX6 := Lib.hid bx6
      clear bx0 bx6
      refine sK fun K hK => ?_
      refine wp_region_seqplan 21 [(true, 0), (true, 1), (true, 2), (true, 3), (true, 4), (true, 5), (true, 6), (true, 7), (true, 8), (true, 9), (true, 10), (true, 11), (true, 12), (true, 13), (true, 14), (true, 15), (true, 16), (true, 17), (true, 18), (true, 19), (true, 20)] (by rfl) (by simp) (fun T hT => ?_)
      iterate 3 (refine wpPlan_takeL (v := ?_) rfl (by rfl) (fun w' hw => ?_) ?_; rotate_left; go_simp; with_reducible rfl; simp only [Act.put, rA, rB, rC])
      iterate 3 (refine wpPlan_skipL rfl (by rfl) ?_; simp only [Act.put, rA, rB, rC])
      iterate 7 (refine wpPlan_takeL (v := ?_) rfl (by rfl) (fun w' hw => ?_) ?_; rotate_left; go_simp; with_reducible rfl; simp only [Act.put, rA, rB, rC])
      refine wpPlan_callL rfl (by rfl) Tryd.call20 (fun w' hw => nzcmp (u8) (a) (c9) _ (HC9.out) (by omega) (by omega)) (by rfl) ?_
      simp only [Act.put, rA, rB, rC]
      iterate 4 (refine wpPlan_takeL (v := ?_) rfl (by rfl) (fun w' hw => ?_) ?_; rotate_left; go_simp; with_reducible rfl; simp only [Act.put, rA, rB, rC])
      refine wpPlan_callL rfl (by rfl) Tryd.call12 (fun w' hw => works_any _ (Lib.hid (HT.out.gr (Gr.trans HB.out hw)))) (by rfl) ?_
      simp only [Act.put, rA, rB, rC]
      iterate 2 (refine wpPlan_takeL (v := ?_) rfl (by rfl) (fun w' hw => ?_) ?_; rotate_left; go_simp; with_reducible rfl; simp only [Act.put, rA, rB, rC])
      refine wpPlan_nil (hT.out _ _ ?_); clear hT T
      intro vw12 hg
      simp only [puts, Act.put, rA, rB, rC, rD, rE, ↓reduceIte, Nat.reduceEqDiff]
      clear lx0 lx6
      have HG := Lib.hid (hg)
      clear hg
      replace BX0 := bG BX0 HG
      replace BX6 := bG BX6 HG
      have r0 := Gr.refl vw12
      go_wp2
      refine hK.out _ _ ?_; clear hK K
      show Code.wp _ _ _ _ _
      clear r0
      refine forgetW (fun w2 => Below w.heap.size w w2) (HB.out.trans (HG.out.mono HB.out.size)) ?_
      clear HB HG BX0 BX6
      rintro Wx15 HB
      replace HB := Lib.hid HB
      clear hq0 hc9 hd4
      refine wp_ret ?_
      try simp only [Exit.then, Exit.inBlock]
      have r0 := Gr.refl Wx15
      exact bodyPost_ret (v := .bool true) (by simp [results, Tryd.results9, go_sem]) rfl ⟨rfl, HB.out⟩

set_option maxRecDepth 100000 in
set_option maxHeartbeats 4000000 in
theorem text_big1 (vx : Value) (kx : Nat) (fx : Nat → Nat) (vy : Value) (ky : Nat) (fy : Nat → Nat) (a b : Nat)  (w : World) (HWx : Hid (Wa w vx kx fx)) (HFx : Hid (∀ i, i < kx → fx i < 4294967296)) (HVx : Hid (vl fx kx = a)) (HWy : Hid (Wa w vy ky fy)) (HFy : Hid (∀ i, i < ky → fy i < 4294967296)) (HVy : Hid (vl fy ky = b))  (hkx : 20 < kx) (HT : Hid (Tab w)) :
    Calls Tryd.prog 9 #[vx, vy] w fun e w' => e = .returned (.bool true) ∧ Below w.heap.size w w' := by
  obtain ⟨ao_x, c_x, rfl⟩ := HWx.out.slice
  obtain ⟨ao_y, c_y, rfl⟩ := HWy.out.slice
  go_enter Tryd.func9, Tryd.ntmps9
  refine sK fun K hK => ?_
  refine wp_region_lit ?_
  go_wp2
  refine hK.out _ _ ?_; clear hK K
  show Code.wp _ _ _ _ _
  refine forgetW (fun w2 => Below w.heap.size w w2) (Below.refl _ _) ?_
  rintro Wx HB
  replace HB := Lib.hid HB
  refine wp_seq ?_
  have hd1 : 20 < ((kx : Int)) := by omega
  refine sK fun K hK => ?_
  refine wp_region_seqplan 8 [(true, 0), (true, 1), (true, 2), (true, 3), (true, 4), (true, 5), (true, 6), (true, 7)] (by rfl) (by simp) (fun T hT => ?_)
  iterate 4 (refine wpPlan_takeL (v := ?_) rfl (by rfl) (fun w' hw => ?_) ?_; rotate_left; go_simp; with_reducible rfl; simp only [Act.put, rA, rB, rC])
  iterate 3 (refine wpPlan_skipL rfl (by rfl) ?_; simp only [Act.put, rA, rB, rC])
  refine wpPlan_takeL (v := ?_) rfl (by rfl) (fun w' hw => ?_) ?_; rotate_left; go_simp; with_reducible rfl; simp only [Act.put, rA, rB, rC]
  refine wpPlan_nil (hT.out _ _ ?_); clear hT T
  intro vw1 hg
  simp only [puts, Act.put, rA, rB, rC, rD, rE, ↓reduceIte, Nat.reduceEqDiff]
  have HG := Lib.hid (hg)
  clear hg
  have r0 := Gr.refl vw1
  go_wp2
  refine hK.out _ _ ?_; clear hK K
  show Code.wp _ _ _ _ _
  clear r0
  refine forgetW (fun w2 => Below w.heap.size w w2) (HB.out.trans (HG.out.mono HB.out.size)) ?_
  clear HB HG
  rintro Wx1 HB
  replace HB := Lib.hid HB
  clear hd1
  refine wp_cond_true (by rfl) ?_
  refine sK fun K hK => ?_
  refine wp_region_seqplan 2 [(true, 0), (true, 1)] (by rfl) (by simp) (fun T hT => ?_)
  refine wpPlan_callL rfl (by rfl) Tryd.call12 (fun w' hw => works_any _ (Lib.hid (HT.out.gr (Gr.trans HB.out hw)))) (by rfl) ?_
  simp only [Act.put, rA, rB, rC]
  refine wpPlan_takeL (v := ?_) rfl (by rfl) (fun w' hw => ?_) ?_; rotate_left; go_simp; with_reducible rfl; simp only [Act.put, rA, rB, rC]
  refine wpPlan_nil (hT.out _ _ ?_); clear hT T
  intro vw2 hg
  simp only [puts, Act.put, rA, rB, rC, rD, rE, ↓reduceIte, Nat.reduceEqDiff]
  have HG := Lib.hid (hg)
  clear hg
  have r0 := Gr.refl vw2
  go_wp2
  refine hK.out _ _ ?_; clear hK K
  show Code.wp _ _ _ _ _
  clear r0
  refine forgetW (fun w2 => Below w.heap.size w w2) (HB.out.trans (HG.out.mono HB.out.size)) ?_
  clear HB HG
  rintro Wx2 HB
  replace HB := Lib.hid HB
  refine wp_ret ?_
  try simp only [Exit.then, Exit.inBlock]
  have r0 := Gr.refl Wx2
  exact bodyPost_ret (v := .bool true) (by simp [results, Tryd.results9, go_sem]) rfl ⟨rfl, HB.out⟩

set_option maxRecDepth 100000 in
set_option maxHeartbeats 4000000 in
theorem text_big2 (vx : Value) (kx : Nat) (fx : Nat → Nat) (vy : Value) (ky : Nat) (fy : Nat → Nat) (a b : Nat)  (w : World) (HWx : Hid (Wa w vx kx fx)) (HFx : Hid (∀ i, i < kx → fx i < 4294967296)) (HVx : Hid (vl fx kx = a)) (HWy : Hid (Wa w vy ky fy)) (HFy : Hid (∀ i, i < ky → fy i < 4294967296)) (HVy : Hid (vl fy ky = b)) (hkx : kx ≤ 20) (hky : 20 < ky) (HT : Hid (Tab w)) :
    Calls Tryd.prog 9 #[vx, vy] w fun e w' => e = .returned (.bool true) ∧ Below w.heap.size w w' := by
  obtain ⟨ao_x, c_x, rfl⟩ := HWx.out.slice
  obtain ⟨ao_y, c_y, rfl⟩ := HWy.out.slice
  go_enter Tryd.func9, Tryd.ntmps9
  refine sK fun K hK => ?_
  refine wp_region_lit ?_
  go_wp2
  refine hK.out _ _ ?_; clear hK K
  show Code.wp _ _ _ _ _
  refine forgetW (fun w2 => Below w.heap.size w w2) (Below.refl _ _) ?_
  rintro Wx HB
  replace HB := Lib.hid HB
  refine wp_seq ?_
  have hd1 : ¬ (20 < ((kx : Int))) := by omega
  have hd2 : 20 < ((ky : Int)) := by omega
  refine sK fun K hK => ?_
  refine wp_region_seqplan 8 [(true, 0), (true, 1), (true, 2), (true, 3), (true, 4), (true, 5), (true, 6), (true, 7)] (by rfl) (by simp) (fun T hT => ?_)
  iterate 8 (refine wpPlan_takeL (v := ?_) rfl (by rfl) (fun w' hw => ?_) ?_; rotate_left; go_simp; with_reducible rfl; simp only [Act.put, rA, rB, rC])
  refine wpPlan_nil (hT.out _ _ ?_); clear hT T
  intro vw1 hg
  simp only [puts, Act.put, rA, rB, rC, rD, rE, ↓reduceIte, Nat.reduceEqDiff]
  have HG := Lib.hid (hg)
  clear hg
  have r0 := Gr.refl vw1
  go_wp2
  refine hK.out _ _ ?_; clear hK K
  show Code.wp _ _ _ _ _
  clear r0
  refine forgetW (fun w2 => Below w.heap.size w w2) (HB.out.trans (HG.out.mono HB.out.size)) ?_
  clear HB HG
  rintro Wx1 HB
  replace HB := Lib.hid HB
  clear hd1 hd2
  refine wp_cond_true (by rfl) ?_
  refine sK fun K hK => ?_
  refine wp_region_seqplan 2 [(true, 0), (true, 1)] (by rfl) (by simp) (fun T hT => ?_)
  refine wpPlan_callL rfl (by rfl) Tryd.call12 (fun w' hw => works_any _ (Lib.hid (HT.out.gr (Gr.trans HB.out hw)))) (by rfl) ?_
  simp only [Act.put, rA, rB, rC]
  refine wpPlan_takeL (v := ?_) rfl (by rfl) (fun w' hw => ?_) ?_; rotate_left; go_simp; with_reducible rfl; simp only [Act.put, rA, rB, rC]
  refine wpPlan_nil (hT.out _ _ ?_); clear hT T
  intro vw2 hg
  simp only [puts, Act.put, rA, rB, rC, rD, rE, ↓reduceIte, Nat.reduceEqDiff]
  have HG := Lib.hid (hg)
  clear hg
  have r0 := Gr.refl vw2
  go_wp2
  refine hK.out _ _ ?_; clear hK K
  show Code.wp _ _ _ _ _
  clear r0
  refine forgetW (fun w2 => Below w.heap.size w w2) (HB.out.trans (HG.out.mono HB.out.size)) ?_
  clear HB HG
  rintro Wx2 HB
  replace HB := Lib.hid HB
  refine wp_ret ?_
  try simp only [Exit.then, Exit.inBlock]
  have r0 := Gr.refl Wx2
  exact bodyPost_ret (v := .bool true) (by simp [results, Tryd.results9, go_sem]) rfl ⟨rfl, HB.out⟩

theorem texts_law (vx : Value) (kx : Nat) (fx : Nat → Nat) (vy : Value) (ky : Nat) (fy : Nat → Nat)  (w : World) (HWx : Hid (Wa w vx kx fx)) (HFx : Hid (∀ i, i < kx → fx i < 4294967296)) (HWy : Hid (Wa w vy ky fy)) (HFy : Hid (∀ i, i < ky → fy i < 4294967296))  (HT : Hid (Tab w)) :
    Calls Tryd.prog 9 #[vx, vy] w fun e w' => e = .returned (.bool true) ∧ Below w.heap.size w w' := by
  by_cases hkx : kx ≤ 20
  · by_cases hky : ky ≤ 20
    · skip
      obtain ⟨a, ha⟩ : ∃ z, vl fx kx = z := ⟨_, rfl⟩
      obtain ⟨b, hb⟩ : ∃ z, vl fy ky = z := ⟨_, rfl⟩
      have wa : wl a ≤ 20 := by rw [← ha]; have := wl_le.2 (vl_lt HFx.out); omega
      have wb : wl b ≤ 20 := by rw [← hb]; have := wl_le.2 (vl_lt HFy.out); omega
      have na := text_size a wa
      have nb' := text_size b wb
      obtain ⟨pn, pc⟩ := pnum_dec a (by omega)
      exact text_main vx kx fx vy ky fy a b _ _ (nb a) w HWx HFx (Lib.hid ha) HWy HFy (Lib.hid hb) hkx hky (Lib.hid rfl) (Lib.hid rfl) (Lib.hid pn) (Lib.hid pc) (by rw [size_mk, Lib.decDigits_length]; omega) (by rw [size_mk, Lib.decDigits_length]; omega) (Lib.hid rfl) (by have := nb_wl a; omega) HT
    · exact text_big2 vx kx fx vy ky fy _ _  w HWx HFx (Lib.hid rfl) HWy HFy (Lib.hid rfl) hkx (by omega) HT
  · exact text_big1 vx kx fx vy ky fy _ _  w HWx HFx (Lib.hid rfl) HWy HFy (Lib.hid rfl)  (by omega) HT

end Go.Proofs.YteenojfbnbkedaaDoor
