
/- gussetref05.Both. -/
import Derived.Test.YtaflakcemiilaaaGreatDoorRot2
import Derived.Test.YtaflakcemiilaaaGreatDoorRefV2
import Derived.Test.YtaflakcemiilaaaGreatDoorPN
import Derived.Test.YtaflakcemiilaaaGreatDoorGreatP
namespace Go.Proofs.YtaflakcemiilaaaGreatDoor
open Go.RowKit
set_option linter.unusedSimpArgs false
set_option linter.unusedVariables false
attribute [local go_sem ↓] Go.wp_at_zero Go.wp_at_succ
attribute [local go_sem ↓] eq_nat eq_nat_zero eq_int
set_option maxRecDepth 20000 in
set_option maxHeartbeats 4000000 in
theorem qsquare_any (a z : Rat) (va1 va2 : Value) (w : World) (HZ : Hid (a * a = z)) (hs : rz a ≤ 100000) (bx21 : Rn w va1 (Int.natAbs ((a).num))) (bx22 : Rn w va2 ((a).den - 1)) :
    Calls Tryz.prog 99 #[(Value.agg #[.bool (decide ((a).num < 0)), va1, va2])] w fun e w' => (∃ r1 r2 : Value, e = .returned (.agg #[.bool (decide ((z).num < 0)), r1, r2]) ∧ Rn w' r1 (Int.natAbs ((z).num)) ∧ Rn w' r2 ((z).den - 1)) ∧ Below w.heap.size w w' := by
  obtain ⟨ao_va1, n_va1, c_va1, rfl⟩ := Rn.sl bx21
  obtain ⟨ao_va2, n_va2, c_va2, rfl⟩ := Rn.sl bx22
  go_enter Tryz.func99, Tryz.ntmps99
  have HF := Lib.hid (hp0 w)
  replace HF := Lib.hid ((HF.out.ar bx21).ar bx22)
  simp only [lF, lG] at HF
  clear bx21 bx22
  refine kS fun K hK => ?_
  refine wp_region_lit ?_
  go_wp2
  refine hK.out _ _ ?_; clear hK K
  show Code.wp _ _ _ _ _
  refine fH (((HF.out).al (b := w.heap.size) (by first | rfl | simp) (by decide)).al (b := w.heap.size + 1) (by first | rfl | simp) (by decide)) fun Wx0 HG => ?_
  clear HF; have HF := HG; clear HG
  generalize w.heap.size + 1 = gx24 at *
  have HZ1 : Hid ((a) * (a) = z) := Lib.hid (HZ.out)
  have su1 : rz (z) ≤ 200000 := by have e := HZ1.out; first | omega | (rw [← e]; have := rz_mul (a) (a); omega)
  have lx23 := HF.out.c 2 rfl
  refine kS fun K hK => ?_
  have HG0 : Hid (Gr Wx0 Wx0) := Lib.hid (Gr.refl _)
  refine sq 3 [(true, 0), (true, 1), (false, 2)] fun T hT => ?_
  iterate 2 refine tk ?_
  refine wpPlan_callE rfl (by rfl) Tryz.call132 (by rfl) (fun w' hw => (qmul_any (a) (a) (z) _ _ _ _ _ HZ1.out (by omega) (by omega) (HF.out.r 0 rfl (HG0.out.trans hw)) (HF.out.r 1 rfl (HG0.out.trans hw)) (HF.out.r 0 rfl (HG0.out.trans hw)) (HF.out.r 1 rfl (HG0.out.trans hw))).mono ?_)
  rintro e vv26 ⟨⟨rv1, rv2, rfl, bx26, bx27⟩, hg0⟩
  obtain ⟨ao1, nn1, cc1, rfl⟩ := Rn.sl bx26
  obtain ⟨ao2, nn2, cc2, rfl⟩ := Rn.sl bx27
  refine ⟨_, rfl, hg0, ?_⟩
  replace hg0 := Gr.trans hw hg0; clear hw
  replace HG0 := Lib.hid (HG0.out.trans hg0)
  have HGS := Lib.hid hg0; clear hg0
  clear HGS
  have RN26 := Lib.hid bx26; clear bx26
  have RN27 := Lib.hid bx27; clear bx27
  clear lx23; have lx23 := fun w' (h : Gr _ w') => HF.out.c 2 rfl w' (HG0.out.trans h)
  simp only [Act.put, lA, lB, lC]
  refine wpPlan_nil (hT.out _ _ ?_)
  intro vw1 hg
  simp only [puts, Act.put, lA, lB, lC, lD, lE, ↓reduceIte, Nat.reduceEqDiff]
  have HG := Lib.hid (((HF.out.gr (HG0.out.trans hg)).ar (RN26.out.gr hg)).ar (RN27.out.gr hg))
  simp only [List.zip_cons_cons, List.zip_nil_right, List.map_cons, List.map_nil, lF, lG] at HG
  clear hT T HF hg HG0 RN26 RN27 lx23
  have lx24 := HG.out.c 3 rfl; have fx24 := HG.out.f 3 rfl
  have r0 := Gr.refl vw1
  go_wp2
  refine hK.out _ _ ?_; clear hK K
  show Code.wp _ _ _ _ _
  clear r0 lx24 fx24
  refine fH ((((((HG.out).put2 3 0 rfl).put 3 2 _ rfl).er 2).er 1).er 0) fun Wx1 HF => ?_
  clear HG
  refine wp_ret ?_
  try simp only [Exit.then, Exit.inBlock]
  have lx24 := HF.out.c 0 rfl
  have r0 := Gr.refl Wx1
  exact bodyPost_ret (v := .agg #[.bool (decide ((z).num < 0)), (.slice ao1 nn1 cc1), (.slice ao2 nn2 cc2)]) (by simp [results, Tryz.results99, go_sem, lx24 _ r0]) rfl ⟨⟨(.slice ao1 nn1 cc1), (.slice ao2 nn2 cc2), rfl, (HF.out.rn 1 rfl), (HF.out.rn 2 rfl)⟩, HF.out.1⟩

set_option maxRecDepth 20000 in
set_option maxHeartbeats 4000000 in
theorem qsame_y (a b : Rat) (va1 va2 vb1 vb2 : Value) (w : World) (HE : Hid (a = b)) (hs : rz a ≤ 100000) (hsb : rz b ≤ 100000) (bx21 : Rn w va1 (Int.natAbs ((a).num))) (bx22 : Rn w va2 ((a).den - 1)) (bx23 : Rn w vb1 (Int.natAbs ((b).num))) (bx24 : Rn w vb2 ((b).den - 1)) :
    Calls Tryz.prog 98 #[(Value.agg #[.bool (decide ((a).num < 0)), va1, va2]), (Value.agg #[.bool (decide ((b).num < 0)), vb1, vb2])] w fun e w' => e = .returned ((.bool true)) ∧ Below w.heap.size w w' := by
  obtain ⟨ao_va1, n_va1, c_va1, rfl⟩ := Rn.sl bx21
  obtain ⟨ao_va2, n_va2, c_va2, rfl⟩ := Rn.sl bx22
  obtain ⟨ao_vb1, n_vb1, c_vb1, rfl⟩ := Rn.sl bx23
  obtain ⟨ao_vb2, n_vb2, c_vb2, rfl⟩ := Rn.sl bx24
  go_enter Tryz.func98, Tryz.ntmps98
  have HF := Lib.hid (hp0 w)
  replace HF := Lib.hid ((((HF.out.ar bx21).ar bx22).ar bx23).ar bx24)
  simp only [lF, lG] at HF
  clear bx21 bx22 bx23 bx24
  refine kS fun K hK => ?_
  refine wp_region_lit ?_
  go_wp2
  refine hK.out _ _ ?_; clear hK K
  show Code.wp _ _ _ _ _
  refine fH (((HF.out).al (b := w.heap.size) (by first | rfl | simp) (by decide)).al (b := w.heap.size + 1) (by first | rfl | simp) (by decide)) fun Wx0 HG => ?_
  clear HF; have HF := HG; clear HG
  generalize w.heap.size + 1 = gx26 at *
  have lx25 := HF.out.c 4 rfl
  have lx26 := HF.out.c 5 rfl
  refine kS fun K hK => ?_
  refine sq 5 [(true, 0), (true, 1), (true, 2), (true, 3), (true, 4)] fun T hT => ?_
  iterate 2 refine tk ?_
  refine ck Tryz.call130 (fun w' hw => qcmp_any (a) (b) (0) _ _ _ _ _ (by have e9 : (a) - (b) = (0 : Rat) := (by first | exact ok | (rw [HE.out]; exact Rat.sub_self)); exact sgQ_zero' e9) (by omega) (by omega) (HF.out.r 0 rfl hw) (HF.out.r 1 rfl hw) (HF.out.r 2 rfl hw) (HF.out.r 3 rfl hw)) ?_
  iterate 2 refine tk ?_
  refine nlS hT HF fun vw1 HG => ?_
  clear hT T HF lx25 lx26
  go_wp2
  refine hK.out _ _ ?_; clear hK K
  show Code.wp _ _ _ _ _
  refine fH (((((((HG.out).er 5).er 4).er 3).er 2).er 1).er 0) fun Wx1 HF => ?_
  clear HG
  refine wp_ret ?_
  try simp only [Exit.then, Exit.inBlock]
  exact bodyPost_ret (v := .bool true) (by simp [results, Tryz.results98, go_sem]) rfl ⟨rfl, HF.out.1⟩

set_option maxRecDepth 20000 in
set_option maxHeartbeats 4000000 in
theorem qsame_n (a b : Rat) (c : Int) (va1 va2 vb1 vb2 : Value) (w : World) (HE : Hid (¬ a = b)) (hs : rz a ≤ 100000) (hsb : rz b ≤ 100000) (HC : Hid (sgQ (a - b) = c)) (hc : ¬ c = 0) (bx21 : Rn w va1 (Int.natAbs ((a).num))) (bx22 : Rn w va2 ((a).den - 1)) (bx23 : Rn w vb1 (Int.natAbs ((b).num))) (bx24 : Rn w vb2 ((b).den - 1)) :
    Calls Tryz.prog 98 #[(Value.agg #[.bool (decide ((a).num < 0)), va1, va2]), (Value.agg #[.bool (decide ((b).num < 0)), vb1, vb2])] w fun e w' => e = .returned ((.bool false)) ∧ Below w.heap.size w w' := by
  obtain ⟨ao_va1, n_va1, c_va1, rfl⟩ := Rn.sl bx21
  obtain ⟨ao_va2, n_va2, c_va2, rfl⟩ := Rn.sl bx22
  obtain ⟨ao_vb1, n_vb1, c_vb1, rfl⟩ := Rn.sl bx23
  obtain ⟨ao_vb2, n_vb2, c_vb2, rfl⟩ := Rn.sl bx24
  go_enter Tryz.func98, Tryz.ntmps98
  have HF := Lib.hid (hp0 w)
  replace HF := Lib.hid ((((HF.out.ar bx21).ar bx22).ar bx23).ar bx24)
  simp only [lF, lG] at HF
  clear bx21 bx22 bx23 bx24
  refine kS fun K hK => ?_
  refine wp_region_lit ?_
  go_wp2
  refine hK.out _ _ ?_; clear hK K
  show Code.wp _ _ _ _ _
  refine fH (((HF.out).al (b := w.heap.size) (by first | rfl | simp) (by decide)).al (b := w.heap.size + 1) (by first | rfl | simp) (by decide)) fun Wx0 HG => ?_
  clear HF; have HF := HG; clear HG
  generalize w.heap.size + 1 = gx26 at *
  have hd1 : ((c) == (0)) = false := by have : ¬ (c = 0) := (by first | exact ok | (rw [HE.out]; exact Rat.sub_self)); simpa using this
  have lx25 := HF.out.c 4 rfl
  have lx26 := HF.out.c 5 rfl
  refine kS fun K hK => ?_
  refine sq 5 [(true, 0), (true, 1), (true, 2), (true, 3), (true, 4)] fun T hT => ?_
  iterate 2 refine tk ?_
  refine ck Tryz.call130 (fun w' hw => qcmp_any (a) (b) (c) _ _ _ _ _ (HC.out) (by omega) (by omega) (HF.out.r 0 rfl hw) (HF.out.r 1 rfl hw) (HF.out.r 2 rfl hw) (HF.out.r 3 rfl hw)) ?_
  iterate 2 refine tk ?_
  refine nlS hT HF fun vw1 HG => ?_
  clear hT T HF lx25 lx26
  go_wp2
  refine hK.out _ _ ?_; clear hK K
  show Code.wp _ _ _ _ _
  refine fH (((((((HG.out).er 5).er 4).er 3).er 2).er 1).er 0) fun Wx1 HF => ?_
  clear HG
  clear hd1
  refine wp_ret ?_
  try simp only [Exit.then, Exit.inBlock]
  exact bodyPost_ret (v := .bool false) (by simp [results, Tryz.results98, go_sem]) rfl ⟨rfl, HF.out.1⟩

theorem qsame_no (a b : Rat) (va1 va2 vb1 vb2 : Value) (w : World) (h : ¬ a = b) (hs : rz a ≤ 100000) (hsb : rz b ≤ 100000) (h1 : Rn w va1 (Int.natAbs ((a).num))) (h2 : Rn w va2 ((a).den - 1)) (h3 : Rn w vb1 (Int.natAbs ((b).num))) (h4 : Rn w vb2 ((b).den - 1)) :
    Calls Tryz.prog 98 #[.agg #[.bool (decide ((a).num < 0)), va1, va2], .agg #[.bool (decide ((b).num < 0)), vb1, vb2]] w fun e w' => e = .returned (.bool false) ∧ Below w.heap.size w w' :=
  qsame_n a b _ va1 va2 vb1 vb2 w (Lib.hid h) hs hsb (Lib.hid rfl) (sgQ_dne h) h1 h2 h3 h4

theorem hq_succ (i : Nat) : hq (i + 1) = hq i * (1 / 2 : Rat) := by unfold hq; rw [Rat.pow_succ]
theorem hq_zero : hq 0 = 1 := by unfold hq; rw [Rat.pow_zero]
theorem hq_add (i j : Nat) : hq (i + j) = hq i * hq j := by
  induction j with
  | zero => rw [Nat.add_zero, hq_zero, Rat.mul_one]
  | succ j ih => rw [← Nat.add_assoc, hq_succ, ih, hq_succ, Rat.mul_assoc]
theorem rz_hq {k : Nat} (h : k ≤ 142) : rz (hq k) ≤ 12 := by
  unfold hq
  refine rz_of ?_ ?_
  · rw [Rat.num_pow, show (1 / 2 : Rat).num = 1 from by decide +kernel, Int.one_pow]; exact tw_le.2 (by decide +kernel)
  · rw [Rat.den_pow, show (1 / 2 : Rat).den = 2 from by decide +kernel]
    exact Nat.le_trans (tw_mono (Nat.pow_le_pow_right (by decide) h)) (tw_le.2 (by decide +kernel))
theorem rz_tq {k : Nat} (h : k ≤ 40) : rz (tq k) ≤ 4 := by
  unfold tq
  exact rz_of (by rw [show ((((2 ^ k : Nat) : Int) : Rat)).num = ((2 ^ k : Nat) : Int) from rfl, Int.natAbs_natCast]; exact Nat.le_trans (tw_mono (Nat.pow_le_pow_right (by decide) h)) (tw_le.2 (by decide +kernel))) (by show tw 1 ≤ 4; exact tw_le.2 (by decide +kernel))

set_option maxRecDepth 50000 in
set_option maxHeartbeats 8000000 in
theorem rstep_any (z : Rat) (k : Nat) (w : World) (HZ : Hid (hq k = z)) (hk : k ≤ 100)  :
    Calls Tryz.prog 101 #[.int .i64 (((k : Nat) : Int))] w fun e w' => (∃ r1 r2 : Value, e = .returned (.agg #[.bool (decide ((z).num < 0)), r1, r2]) ∧ Rn w' r1 (Int.natAbs ((z).num)) ∧ Rn w' r2 ((z).den - 1)) ∧ Below w.heap.size w w' := by
  go_enter Tryz.func101, Tryz.ntmps101
  have HF := Lib.hid (hp0 w)
  refine kS fun K hK => ?_
  refine wp_region_lit ?_
  go_wp2
  refine hK.out _ _ ?_; clear hK K
  show Code.wp _ _ _ _ _
  refine fH ((HF.out).al (b := w.heap.size) (by first | rfl | simp) (by decide)) fun Wx0 HG => ?_
  clear HF; have HF := HG; clear HG
  have HZ1 : Hid (((1 : Int) : Rat) = (1 : Rat)) := Lib.hid (by decide +kernel)
  have su1 : rz ((1 : Rat)) ≤ 5 := rz_of (tw_le.2 (by decide +kernel)) (tw_le.2 (by decide +kernel))
  refine kS fun K hK => ?_
  have HG0 : Hid (Gr Wx0 Wx0) := Lib.hid (Gr.refl _)
  refine sq 1 [(false, 0)] fun T hT => ?_
  refine wpPlan_callE rfl (by rfl) Tryz.call161 (by rfl) (fun w' hw => (qint_any (1) (1 : Rat) _ HZ1.out om om).mono ?_)
  rintro e vv2 ⟨⟨rv1, rv2, rfl, bx2, bx3⟩, hg0⟩
  obtain ⟨ao1, nn1, cc1, rfl⟩ := Rn.sl bx2
  obtain ⟨ao2, nn2, cc2, rfl⟩ := Rn.sl bx3
  refine ⟨_, rfl, hg0, ?_⟩
  replace hg0 := Gr.trans hw hg0; clear hw
  replace HG0 := Lib.hid (HG0.out.trans hg0)
  have HGS := Lib.hid hg0; clear hg0
  clear HGS
  have RN2 := Lib.hid bx2; clear bx2
  have RN3 := Lib.hid bx3; clear bx3
  simp only [Act.put, lA, lB, lC]
  refine wpPlan_nil (hT.out _ _ ?_)
  intro vw1 hg
  simp only [puts, Act.put, lA, lB, lC, lD, lE, ↓reduceIte, Nat.reduceEqDiff]
  have HG := Lib.hid (((HF.out.gr (HG0.out.trans hg)).ar (RN2.out.gr hg)).ar (RN3.out.gr hg))
  simp only [List.zip_cons_cons, List.zip_nil_right, List.map_cons, List.map_nil, lF, lG] at HG
  clear hT T HF hg HG0 RN2 RN3
  go_wp2
  refine hK.out _ _ ?_; clear hK K
  show Code.wp _ _ _ _ _
  refine fH ((HG.out).al (b := vw1.heap.size) (by first | rfl | simp) (by decide)) fun Wx1 HF => ?_
  clear HG
  generalize vw1.heap.size = gx4 at *
  refine wp_seq ?_
  refine kS fun K hK => ?_
  refine wp_region_lit ?_
  go_wp2
  refine hK.out _ _ ?_; clear hK K
  show Code.wp _ _ _ _ _
  refine fH (HF.out) fun Wx2 HG => ?_
  clear HF; have HF := HG; clear HG
  refine wp_block ?_
  replace HF := Lib.hid ((HF.out.er 1).ar (HF.out.rn 1 rfl))
  simp only [List.eraseIdx_cons_zero, List.eraseIdx_cons_succ, List.cons_append, List.nil_append] at HF
  replace HF := Lib.hid ((HF.out.er 1).ar (HF.out.rn 1 rfl))
  simp only [List.eraseIdx_cons_zero, List.eraseIdx_cons_succ, List.cons_append, List.nil_append] at HF
  go_loopg [4] k (fun kk iv wr => ∃ (i : Nat) (q : Rat) (vA1 vA2 : Value), iv = .int .i64 (i : Int) ∧ i + kk = k ∧ Hid (hq i = q) ∧ Hid (HP w wr [Sum.inl (w.heap.size, 47, #[.bool false, .slice none 0 0, .slice none 0 0]), Sum.inl (gx4, 47, #[.bool (decide ((q).num < 0)), vA1, vA2]), Sum.inr (vA1, Int.natAbs ((q).num)), Sum.inr (vA2, (q).den - 1)]))
  case atStart => exact ⟨0, 1, _, _, rfl, by omega, Lib.hid (by unfold hq; rw [Rat.pow_zero]), HF⟩
  case round =>
    rename_i J_ K_ hj1_ hj0_
    clear HF
    obtain ⟨i, q, vA1, vA2, rfl, hik, HQ, HF⟩ := hrel
    obtain ⟨aoA1, nnA1, ccA1, rfl⟩ := Rn.sl (HF.out.rn 2 rfl)
    obtain ⟨aoA2, nnA2, ccA2, rfl⟩ := Rn.sl (HF.out.rn 3 rfl)
    have hsq : rz q ≤ 12 := by rw [← HQ.out]; exact rz_hq (by omega)
    rcases gk with _ | kk
    · obtain rfl : k = i := by omega
      have HE : Hid (z = q) := Lib.hid (by rw [← HZ.out]; exact HQ.out)
      obtain rfl := HE.out
      clear HE
      refine wp_seq ?_
      have hlt9 : ¬ (k : Int) < (k : Int) := by omega
      refine kS fun K hK => ?_
      refine sq 3 [(true, 0), (true, 1), (true, 2)] fun T hT => ?_
      iterate 3 refine tk ?_
      refine nlS hT HF fun vw2 HG => ?_
      clear hT T HF
      go_wp2
      refine hK.out _ _ ?_; clear hK K
      show Code.wp _ _ _ _ _
      have HF := HG; clear HG
      clear hlt9
      refine wp_cond_false (by rfl) ?_
      refine wp_exit ?_
      show Code.wp _ _ _ _ _
      have lx4 := HF.out.c 1 rfl
      refine kS fun K hK => ?_
      refine sq 1 [(true, 0)] fun T hT => ?_
      refine tk ?_
      refine nlS hT HF fun vw3 HG => ?_
      clear hT T HF lx4
      have lx0 := HG.out.c 0 rfl; have fx0 := HG.out.f 0 rfl
      have r0 := Gr.refl vw3
      go_wp2
      refine hK.out _ _ ?_; clear hK K
      show Code.wp _ _ _ _ _
      clear r0 lx0 fx0
      refine fH ((((HG.out).put2 0 0 rfl).put 0 2 _ rfl).er 1) fun Wx6 HF => ?_
      clear HG
      refine wp_ret ?_
      try simp only [Exit.then, Exit.inBlock]
      have lx0 := HF.out.c 0 rfl
      have r0 := Gr.refl Wx6
      exact bodyPost_ret (v := .agg #[.bool (decide ((z).num < 0)), (.slice aoA1 nnA1 ccA1), (.slice aoA2 nnA2 ccA2)]) (by simp [results, Tryz.results101, go_sem, lx0 _ r0]) rfl ⟨⟨(.slice aoA1 nnA1 ccA1), (.slice aoA2 nnA2 ccA2), rfl, (HF.out.rn 1 rfl), (HF.out.rn 2 rfl)⟩, HF.out.1⟩
    · obtain ⟨q', HQ'⟩ : ∃ z, Hid (q * (1 / 2 : Rat) = z) := ⟨_, Lib.hid rfl⟩
      refine wp_seq ?_
      have hlt9 : (i : Int) < (k : Int) := by omega
      refine kS fun K hK => ?_
      refine sq 3 [(true, 0), (true, 1), (true, 2)] fun T hT => ?_
      iterate 3 refine tk ?_
      refine nlS hT HF fun vw2 HG => ?_
      clear hT T HF
      go_wp2
      refine hK.out _ _ ?_; clear hK K
      show Code.wp _ _ _ _ _
      have HF := HG; clear HG
      clear hlt9
      refine wp_cond_true (by rfl) ?_
      refine wp_skip ?_
      show Code.wp _ _ _ _ _
      refine wp_seq ?_
      refine wp_block ?_
      have HZ2 : Hid (((1 : Int) : Rat) / ((2 : Int) : Rat) = (1 / 2 : Rat)) := Lib.hid (by decide +kernel)
      have su2 : rz ((1 / 2 : Rat)) ≤ 10 := by have e := HZ2.out; first | omega | (rw [← e]; exact rz_quot (1) (2) om om om om)
      have HZ3 : Hid ((q) * ((1 / 2 : Rat)) = q') := Lib.hid (HQ'.out)
      have su3 : rz (q') ≤ 40 := by have e := HZ3.out; first | omega | (rw [← e]; have := rz_mul (q) ((1 / 2 : Rat)); omega)
      have lx4 := HF.out.c 1 rfl
      refine kL fun K hK => ?_
      have HG0 : Hid (Gr vw2 vw2) := Lib.hid (Gr.refl _)
      refine pd 3 [(true, 0), (false, 1), (false, 2)] fun T hT => ?_
      refine tk ?_
      refine wpPlan_callE rfl (by rfl) Tryz.call102 (by rfl) (fun w' hw => (qof_ref (1) (2) ((1 / 2 : Rat)) _ HZ2.out om om om om).mono ?_)
      rintro e vv5 ⟨⟨rv3, rv4, rfl, bx5, bx6⟩, hg0⟩
      obtain ⟨ao3, nn3, cc3, rfl⟩ := Rn.sl bx5
      obtain ⟨ao4, nn4, cc4, rfl⟩ := Rn.sl bx6
      refine ⟨_, rfl, hg0, ?_⟩
      replace hg0 := Gr.trans hw hg0; clear hw
      replace HG0 := Lib.hid (HG0.out.trans hg0)
      have HGS := Lib.hid hg0; clear hg0
      clear HGS
      have RN5 := Lib.hid bx5; clear bx5
      have RN6 := Lib.hid bx6; clear bx6
      clear lx4; have lx4 := fun w' (h : Gr _ w') => HF.out.c 1 rfl w' (HG0.out.trans h)
      simp only [Act.put, lA, lB, lC]
      refine wpPlan_callE rfl (by rfl) Tryz.call132 (by rfl) (fun w' hw => (qmul_any (q) ((1 / 2 : Rat)) (q') _ _ _ _ _ HZ3.out (by omega) (by omega) (HF.out.r 2 rfl (HG0.out.trans hw)) (HF.out.r 3 rfl (HG0.out.trans hw)) (RN5.out.gr hw) (RN6.out.gr hw)).mono ?_)
      rintro e vv7 ⟨⟨rv5, rv6, rfl, bx7, bx8⟩, hg0⟩
      obtain ⟨ao5, nn5, cc5, rfl⟩ := Rn.sl bx7
      obtain ⟨ao6, nn6, cc6, rfl⟩ := Rn.sl bx8
      refine ⟨_, rfl, hg0, ?_⟩
      replace hg0 := Gr.trans hw hg0; clear hw
      replace HG0 := Lib.hid (HG0.out.trans hg0)
      have HGS := Lib.hid hg0; clear hg0
      replace RN5 := Lib.hid (RN5.out.gr HGS.out)
      replace RN6 := Lib.hid (RN6.out.gr HGS.out)
      clear HGS
      have RN7 := Lib.hid bx7; clear bx7
      have RN8 := Lib.hid bx8; clear bx8
      clear lx4; have lx4 := fun w' (h : Gr _ w') => HF.out.c 1 rfl w' (HG0.out.trans h)
      simp only [Act.put, lA, lB, lC]
      refine wpPlan_nil (hT.out _ _ ?_)
      intro G vw3 hg hf
      simp only [puts, Act.put, lA, lB, lC, lD, lE, ↓reduceIte, Nat.reduceEqDiff]
      have HG := Lib.hid (((((HF.out.gr (HG0.out.trans hg)).ar (RN5.out.gr hg)).ar (RN6.out.gr hg)).ar (RN7.out.gr hg)).ar (RN8.out.gr hg))
      simp only [List.zip_cons_cons, List.zip_nil_right, List.map_cons, List.map_nil, lF, lG] at HG
      clear hT T HF hg hf HG0 RN5 RN6 RN7 RN8 lx4
      have lx4 := HG.out.c 1 rfl; have fx4 := HG.out.f 1 rfl
      have r0 := Gr.refl vw3
      go_wp2
      refine hK.out _ _ ?_; clear hK K
      show Code.wp _ _ _ _ _
      clear r0 lx4 fx4
      refine fH (((HG.out).put2 1 0 rfl).put 1 2 _ rfl) fun Wx5 HF => ?_
      clear HG
      have hwi : IntKind.i64.wrap ((i : Int) + 1) = (i : Int) + 1 := by rw [IntKind.wrap_i64]; omega
      refine kL fun K hK => ?_
      refine sq 3 [(true, 0), (true, 1), (true, 2)] fun T hT => ?_
      iterate 3 refine tk ?_
      refine nlS hT HF fun vw4 HG => ?_
      clear hT T HF
      go_wp2
      refine hK.out _ _ ?_; clear hK K
      try simp only [Exit.then, Exit.inBlock]
      have HF := Lib.hid (HG.out); clear HG
      clear hwi
      refine hj0_ _ _ ?_
      go_roundg kk
      case measure => omega
      case rel => exact ⟨i + 1, q', _, _, rfl, by omega, Lib.hid (by rw [← HQ'.out, ← HQ.out]; exact hq_succ i), Lib.hid (((((HF.out).er 5).er 4).er 3).er 2)⟩

set_option maxRecDepth 20000 in
set_option maxHeartbeats 4000000 in
theorem rmay_lo (a : Rat) (n : Int) (va1 va2 : Value) (w : World) (hn : n < 0) (bx21 : Rn w va1 (Int.natAbs ((a).num))) (bx22 : Rn w va2 ((a).den - 1)) :
    Calls Tryz.prog 96 #[(Value.agg #[.bool (decide ((a).num < 0)), va1, va2]), .int .i64 (n)] w fun e w' => e = .returned ((.int .i64 1)) ∧ Below w.heap.size w w' := by
  obtain ⟨ao_va1, n_va1, c_va1, rfl⟩ := Rn.sl bx21
  obtain ⟨ao_va2, n_va2, c_va2, rfl⟩ := Rn.sl bx22
  go_enter Tryz.func96, Tryz.ntmps96
  have HF := Lib.hid (hp0 w)
  replace HF := Lib.hid ((HF.out.ar bx21).ar bx22)
  simp only [lF, lG] at HF
  clear bx21 bx22
  refine kS fun K hK => ?_
  refine wp_region_lit ?_
  go_wp2
  refine hK.out _ _ ?_; clear hK K
  show Code.wp _ _ _ _ _
  refine fH ((HF.out).al (b := w.heap.size) (by first | rfl | simp) (by decide)) fun Wx0 HG => ?_
  clear HF; have HF := HG; clear HG
  refine wp_seq ?_
  have hd1 : n < 0 := by first | exact ok | exact HA.out
  refine kS fun K hK => ?_
  refine sq 2 [(true, 0), (true, 1)] fun T hT => ?_
  iterate 2 refine tk ?_
  refine nlS hT HF fun vw1 HG => ?_
  clear hT T HF
  go_wp2
  refine hK.out _ _ ?_; clear hK K
  show Code.wp _ _ _ _ _
  have HF := HG; clear HG
  clear hd1
  refine wp_cond_true (by rfl) ?_
  refine kS fun K hK => ?_
  refine wp_region_lit ?_
  go_wp2
  refine hK.out _ _ ?_; clear hK K
  show Code.wp _ _ _ _ _
  refine fH (HF.out) fun Wx2 HG => ?_
  clear HF; have HF := HG; clear HG
  refine wp_ret ?_
  try simp only [Exit.then, Exit.inBlock]
  exact bodyPost_ret (v := .int .i64 1) (by simp [results, Tryz.results96, go_sem]) rfl ⟨rfl, HF.out.1⟩

set_option maxRecDepth 20000 in
set_option maxHeartbeats 4000000 in
theorem rmay_far (a : Rat) (n : Int) (va1 va2 : Value) (w : World) (hn : 100 < n) (bx21 : Rn w va1 (Int.natAbs ((a).num))) (bx22 : Rn w va2 ((a).den - 1)) :
    Calls Tryz.prog 96 #[(Value.agg #[.bool (decide ((a).num < 0)), va1, va2]), .int .i64 (n)] w fun e w' => e = .returned ((.int .i64 3)) ∧ Below w.heap.size w w' := by
  obtain ⟨ao_va1, n_va1, c_va1, rfl⟩ := Rn.sl bx21
  obtain ⟨ao_va2, n_va2, c_va2, rfl⟩ := Rn.sl bx22
  go_enter Tryz.func96, Tryz.ntmps96
  have HF := Lib.hid (hp0 w)
  replace HF := Lib.hid ((HF.out.ar bx21).ar bx22)
  simp only [lF, lG] at HF
  clear bx21 bx22
  refine kS fun K hK => ?_
  refine wp_region_lit ?_
  go_wp2
  refine hK.out _ _ ?_; clear hK K
  show Code.wp _ _ _ _ _
  refine fH ((HF.out).al (b := w.heap.size) (by first | rfl | simp) (by decide)) fun Wx0 HG => ?_
  clear HF; have HF := HG; clear HG
  refine wp_seq ?_
  have hd1 : ¬ (n < 0) := by first | exact ok | exact HA.out
  refine kS fun K hK => ?_
  refine sq 2 [(true, 0), (true, 1)] fun T hT => ?_
  iterate 2 refine tk ?_
  refine nlS hT HF fun vw1 HG => ?_
  clear hT T HF
  go_wp2
  refine hK.out _ _ ?_; clear hK K
  show Code.wp _ _ _ _ _
  have HF := HG; clear HG
  clear hd1
  refine wp_cond_false (by rfl) ?_
  refine wp_skip ?_
  show Code.wp _ _ _ _ _
  refine wp_seq ?_
  have hd2 : 100 < n := by first | exact ok | exact HA.out
  refine kS fun K hK => ?_
  refine sq 2 [(true, 0), (true, 1)] fun T hT => ?_
  iterate 2 refine tk ?_
  refine nlS hT HF fun vw2 HG => ?_
  clear hT T HF
  go_wp2
  refine hK.out _ _ ?_; clear hK K
  show Code.wp _ _ _ _ _
  have HF := HG; clear HG
  clear hd2
  refine wp_cond_true (by rfl) ?_
  refine kS fun K hK => ?_
  refine wp_region_lit ?_
  go_wp2
  refine hK.out _ _ ?_; clear hK K
  show Code.wp _ _ _ _ _
  refine fH (HF.out) fun Wx4 HG => ?_
  clear HF; have HF := HG; clear HG
  refine wp_ret ?_
  try simp only [Exit.then, Exit.inBlock]
  exact bodyPost_ret (v := .int .i64 3) (by simp [results, Tryz.results96, go_sem]) rfl ⟨rfl, HF.out.1⟩

set_option maxRecDepth 20000 in
set_option maxHeartbeats 4000000 in
theorem rmay_neg (a : Rat) (k : Nat) (va1 va2 : Value) (w : World) (hk : k ≤ 100) (HA : Hid (a < 0)) (bx21 : Rn w va1 (Int.natAbs ((a).num))) (bx22 : Rn w va2 ((a).den - 1)) :
    Calls Tryz.prog 96 #[(Value.agg #[.bool (decide ((a).num < 0)), va1, va2]), .int .i64 (((k : Nat) : Int))] w fun e w' => e = .returned ((.int .i64 1)) ∧ Below w.heap.size w w' := by
  obtain ⟨ao_va1, n_va1, c_va1, rfl⟩ := Rn.sl bx21
  obtain ⟨ao_va2, n_va2, c_va2, rfl⟩ := Rn.sl bx22
  go_enter Tryz.func96, Tryz.ntmps96
  have HF := Lib.hid (hp0 w)
  replace HF := Lib.hid ((HF.out.ar bx21).ar bx22)
  simp only [lF, lG] at HF
  clear bx21 bx22
  refine kS fun K hK => ?_
  refine wp_region_lit ?_
  go_wp2
  refine hK.out _ _ ?_; clear hK K
  show Code.wp _ _ _ _ _
  refine fH ((HF.out).al (b := w.heap.size) (by first | rfl | simp) (by decide)) fun Wx0 HG => ?_
  clear HF; have HF := HG; clear HG
  refine wp_seq ?_
  have hd1 : ¬ ((((k : Nat) : Int)) < 0) := by first | exact ok | exact HA.out
  have hd2 : ¬ (k < 0) := by have e := hd1; omega
  refine kS fun K hK => ?_
  refine sq 2 [(true, 0), (true, 1)] fun T hT => ?_
  iterate 2 refine tk ?_
  refine nlS hT HF fun vw1 HG => ?_
  clear hT T HF
  go_wp2
  refine hK.out _ _ ?_; clear hK K
  show Code.wp _ _ _ _ _
  have HF := HG; clear HG
  clear hd1 hd2
  refine wp_cond_false (by rfl) ?_
  refine wp_skip ?_
  show Code.wp _ _ _ _ _
  refine wp_seq ?_
  have hd3 : ¬ (100 < (((k : Nat) : Int))) := by first | exact ok | exact HA.out
  refine kS fun K hK => ?_
  refine sq 2 [(true, 0), (true, 1)] fun T hT => ?_
  iterate 2 refine tk ?_
  refine nlS hT HF fun vw2 HG => ?_
  clear hT T HF
  go_wp2
  refine hK.out _ _ ?_; clear hK K
  show Code.wp _ _ _ _ _
  have HF := HG; clear HG
  clear hd3
  refine wp_cond_false (by rfl) ?_
  refine wp_skip ?_
  show Code.wp _ _ _ _ _
  refine wp_seq ?_
  have lx23 := HF.out.c 2 rfl
  refine kS fun K hK => ?_
  refine sq 3 [(true, 0), (true, 1), (true, 2)] fun T hT => ?_
  refine tk ?_
  refine ck Tryz.call81 (fun w' hw => qsign_any (a) (-1) _ _ _ (by have e9 : (a) < (0 : Rat) := (by first | exact ok | exact HA.out); exact sgQ_neg e9) (HF.out.r 0 rfl hw) (HF.out.r 1 rfl hw)) ?_
  refine tk ?_
  refine nlS hT HF fun vw3 HG => ?_
  clear hT T HF lx23
  go_wp2
  refine hK.out _ _ ?_; clear hK K
  show Code.wp _ _ _ _ _
  refine fH ((((HG.out).er 2).er 1).er 0) fun Wx5 HF => ?_
  clear HG
  refine wp_cond_true (by rfl) ?_
  refine kS fun K hK => ?_
  refine wp_region_lit ?_
  go_wp2
  refine hK.out _ _ ?_; clear hK K
  show Code.wp _ _ _ _ _
  refine fH (HF.out) fun Wx6 HG => ?_
  clear HF; have HF := HG; clear HG
  refine wp_ret ?_
  try simp only [Exit.then, Exit.inBlock]
  exact bodyPost_ret (v := .int .i64 1) (by simp [results, Tryz.results96, go_sem]) rfl ⟨rfl, HF.out.1⟩

set_option maxRecDepth 20000 in
set_option maxHeartbeats 4000000 in
theorem rmay_ok (a : Rat) (k : Nat) (s : Int) (va1 va2 : Value) (w : World) (hk : k ≤ 100) (HS : Hid (sgQ a = s)) (hs0 : ¬ s < 0) (bx21 : Rn w va1 (Int.natAbs ((a).num))) (bx22 : Rn w va2 ((a).den - 1)) :
    Calls Tryz.prog 96 #[(Value.agg #[.bool (decide ((a).num < 0)), va1, va2]), .int .i64 (((k : Nat) : Int))] w fun e w' => e = .returned ((.int .i64 0)) ∧ Below w.heap.size w w' := by
  obtain ⟨ao_va1, n_va1, c_va1, rfl⟩ := Rn.sl bx21
  obtain ⟨ao_va2, n_va2, c_va2, rfl⟩ := Rn.sl bx22
  go_enter Tryz.func96, Tryz.ntmps96
  have HF := Lib.hid (hp0 w)
  replace HF := Lib.hid ((HF.out.ar bx21).ar bx22)
  simp only [lF, lG] at HF
  clear bx21 bx22
  refine kS fun K hK => ?_
  refine wp_region_lit ?_
  go_wp2
  refine hK.out _ _ ?_; clear hK K
  show Code.wp _ _ _ _ _
  refine fH ((HF.out).al (b := w.heap.size) (by first | rfl | simp) (by decide)) fun Wx0 HG => ?_
  clear HF; have HF := HG; clear HG
  refine wp_seq ?_
  have hd1 : ¬ ((((k : Nat) : Int)) < 0) := by first | exact ok | exact HA.out
  have hd2 : ¬ (k < 0) := by have e := hd1; omega
  refine kS fun K hK => ?_
  refine sq 2 [(true, 0), (true, 1)] fun T hT => ?_
  iterate 2 refine tk ?_
  refine nlS hT HF fun vw1 HG => ?_
  clear hT T HF
  go_wp2
  refine hK.out _ _ ?_; clear hK K
  show Code.wp _ _ _ _ _
  have HF := HG; clear HG
  clear hd1 hd2
  refine wp_cond_false (by rfl) ?_
  refine wp_skip ?_
  show Code.wp _ _ _ _ _
  refine wp_seq ?_
  have hd3 : ¬ (100 < (((k : Nat) : Int))) := by first | exact ok | exact HA.out
  refine kS fun K hK => ?_
  refine sq 2 [(true, 0), (true, 1)] fun T hT => ?_
  iterate 2 refine tk ?_
  refine nlS hT HF fun vw2 HG => ?_
  clear hT T HF
  go_wp2
  refine hK.out _ _ ?_; clear hK K
  show Code.wp _ _ _ _ _
  have HF := HG; clear HG
  clear hd3
  refine wp_cond_false (by rfl) ?_
  refine wp_skip ?_
  show Code.wp _ _ _ _ _
  refine wp_seq ?_
  have hd4 : ¬ (s < 0) := by first | exact ok | exact HA.out
  have lx23 := HF.out.c 2 rfl
  refine kS fun K hK => ?_
  refine sq 3 [(true, 0), (true, 1), (true, 2)] fun T hT => ?_
  refine tk ?_
  refine ck Tryz.call81 (fun w' hw => qsign_any (a) (s) _ _ _ (HS.out) (HF.out.r 0 rfl hw) (HF.out.r 1 rfl hw)) ?_
  refine tk ?_
  refine nlS hT HF fun vw3 HG => ?_
  clear hT T HF lx23
  go_wp2
  refine hK.out _ _ ?_; clear hK K
  show Code.wp _ _ _ _ _
  refine fH ((((HG.out).er 2).er 1).er 0) fun Wx5 HF => ?_
  clear HG
  clear hd4
  refine wp_cond_false (by rfl) ?_
  refine wp_skip ?_
  show Code.wp _ _ _ _ _
  refine kS fun K hK => ?_
  refine wp_region_lit ?_
  go_wp2
  refine hK.out _ _ ?_; clear hK K
  show Code.wp _ _ _ _ _
  refine fH (HF.out) fun Wx7 HG => ?_
  clear HF; have HF := HG; clear HG
  refine wp_ret ?_
  try simp only [Exit.then, Exit.inBlock]
  exact bodyPost_ret (v := .int .i64 0) (by simp [results, Tryz.results96, go_sem]) rfl ⟨rfl, HF.out.1⟩

end Go.Proofs.YtaflakcemiilaaaGreatDoor

namespace Go.Proofs.YtaflakcemiilaaaGreatDoor
open Go.RowKit
set_option linter.unusedSimpArgs false
set_option linter.unusedVariables false
attribute [local go_sem ↓] Go.wp_at_zero Go.wp_at_succ
attribute [local go_sem ↓] eq_nat eq_nat_zero eq_int
theorem lw_e {i j : Nat} {e e' : Rat} (h : tq i * hq j = e) (h2 : e * (1 / 2 : Rat) = e') : tq i * hq (j + 1) = e' := by rw [hq_succ, ← Rat.mul_assoc, h, h2]
theorem lw_o1 {m : Nat} {e e' o n : Rat} (h : (((m : Nat) : Int) : Rat) * (2 * e) = o) (h2 : o + e = n) (h3 : e * (1 / 2 : Rat) = e') : (((2 * m + 1 : Nat) : Int) : Rat) * (2 * e') = n := by
  have e1 : (((2 * m + 1 : Nat) : Int) : Rat) = 2 * (((m : Nat) : Int) : Rat) + 1 := by
    rw [Int.natCast_add, Rat.intCast_add, Int.natCast_mul, Rat.intCast_mul]; rfl
  rw [e1, ← h3, ← h2, ← h]; grind
theorem lw_o2 {m : Nat} {e e' o : Rat} (h : (((m : Nat) : Int) : Rat) * (2 * e) = o) (h3 : e * (1 / 2 : Rat) = e') : (((2 * m : Nat) : Int) : Rat) * (2 * e') = o := by
  have e1 : (((2 * m : Nat) : Int) : Rat) = 2 * (((m : Nat) : Int) : Rat) := by rw [Int.natCast_mul, Rat.intCast_mul]; rfl
  rw [e1, ← h3, ← h]; grind
theorem lw_a1 {a e e' o n : Rat} (h : a < (o + 2 * e) * (o + 2 * e)) (h2 : o + e = n) (h3 : e * (1 / 2 : Rat) = e') : a < (n + 2 * e') * (n + 2 * e') := by
  have e1 : n + 2 * e' = o + 2 * e := by grind
  rw [e1]; exact h
theorem lw_a2 {a e e' o n : Rat} (h : ¬ n * n ≤ a) (h2 : o + e = n) (h3 : e * (1 / 2 : Rat) = e') : a < (o + 2 * e') * (o + 2 * e') := by
  have e1 : o + 2 * e' = n := by grind
  rw [e1]; grind
theorem tq_hq (i j : Nat) : tq i * hq (i + j) = hq j := by
  have := hq_tq i
  rw [hq_add]
  generalize hq i = x at *
  generalize tq i = y at *
  generalize hq j = z
  grind
theorem hq_le (d : Nat) : hq d ≤ 1 := by
  induction d with
  | zero => rw [hq_zero]; exact Rat.le_refl
  | succ d ih => rw [hq_succ]; have := hq_pos d; grind
theorem lw_go {i j k : Nat} (h : j ≤ i + k) : ¬ tq i * hq j - hq k < 0 := by
  obtain ⟨d, hd⟩ : ∃ d, i + k = j + d := ⟨i + k - j, by omega⟩
  have h1 := tq_hq i k
  rw [hd, hq_add] at h1
  rw [← h1]
  have h2 := Rat.mul_pos (tq_pos i) (hq_pos j)
  have h3 := hq_le d
  have h4 : tq i * (hq j * hq d) = tq i * hq j * hq d := by rw [Rat.mul_assoc]
  rw [h4]
  generalize tq i * hq j = x at *
  have h5 := Rat.mul_le_mul_of_nonneg_left h3 (Rat.le_of_lt h2)
  grind
theorem lw_end {i k : Nat} : tq i * hq (i + k + 1) - hq k < 0 := by
  rw [Nat.add_assoc, tq_hq, hq_succ]
  have := hq_pos k
  grind
theorem lw_two {i k : Nat} : 2 * (tq i * hq (i + k + 1)) = hq k := by
  rw [Nat.add_assoc, tq_hq, hq_succ]; grind
theorem rlo_uniq {a o : Rat} {k : Nat} {m : Nat} (h : 0 ≤ a) (ho : o * tq k = (((m : Nat) : Int) : Rat)) (h1 : o * o ≤ a) (h2 : a < (o + hq k) * (o + hq k)) : rlo a k = o := by
  have h3 := le_rlo (m := ((m : Nat) : Int)) h ho h1
  have o0 : 0 ≤ o := le_tq (k := k) (by rw [Rat.zero_mul, ho]; exact nat_nn m)
  have h4 : rlo a k < o + hq k := qsq_lt (rlo_nn a k) (by have := hq_pos k; grind) (by have := rlo_le h k; grind)
  have h5 := lt_tq k h4
  rw [Rat.add_mul, hq_tq, rlo_tq, ho] at h5
  have h6 : (((rbn a k : Nat) : Int) : Rat) < ((((m : Nat) : Int) + 1 : Int) : Rat) := by rw [Rat.intCast_add]; exact h5
  rw [Rat.intCast_lt_intCast] at h6
  have h7 : (((rbn a k : Nat) : Int) : Rat) ≤ (((m : Nat) : Int) : Rat) := Rat.intCast_le_intCast.2 (by omega)
  rw [← rlo_tq, ← ho] at h7
  have h8 := le_tq h7
  grind
theorem lw_uniq {a o e z : Rat} {i k m : Nat} (ha : 0 ≤ a) (he : tq i * hq (i + k + 1) = e) (ho : (((m : Nat) : Int) : Rat) * (2 * e) = o) (h1 : o * o ≤ a) (h2 : a < (o + 2 * e) * (o + 2 * e)) (hz : rlo a k = z) : z = o := by
  rw [← he, lw_two] at ho h2
  rw [← hz]
  refine rlo_uniq (m := m) ha ?_ h1 h2
  rw [← ho, Rat.mul_assoc, hq_tq, Rat.mul_one]
theorem lw_m1 {m j : Nat} (h : m < 2 ^ j) : 2 * m + 1 < 2 ^ (j + 1) := by rw [Nat.pow_succ]; omega
theorem lw_m2 {m j : Nat} (h : m < 2 ^ j) : 2 * m < 2 ^ (j + 1) := by rw [Nat.pow_succ]; omega
theorem rz_lwe {i j : Nat} {e : Rat} (h : tq i * hq j = e) (hi : i ≤ 40) (hj : j ≤ 142) : rz e ≤ 16 := by
  rw [← h]; have h1 := rz_mul (tq i) (hq j); have h2 := rz_tq hi; have h3 := rz_hq hj; omega
theorem rz_lwo {m j : Nat} {e o : Rat} (h : (((m : Nat) : Int) : Rat) * (2 * e) = o) (hm : m < 2 ^ j) (hj : j ≤ 142) (he : rz e ≤ 16) : rz o ≤ 30 := by
  have h1 := rz_mul (((m : Nat) : Int) : Rat) (2 * e)
  have h2 := rz_mul 2 e
  have h3 : rz (2 : Rat) ≤ 1 := rz_of (tw_le.2 (by decide +kernel)) (tw_le.2 (by decide +kernel))
  have h4 : rz (((m : Nat) : Int) : Rat) ≤ 12 := rz_of (by
    rw [show ((((m : Nat) : Int) : Rat)).num = ((m : Nat) : Int) from rfl, Int.natAbs_natCast]
    exact Nat.le_trans (tw_mono (Nat.le_of_lt (Nat.lt_of_lt_of_le hm (Nat.pow_le_pow_right (by decide) hj)))) (tw_le.2 (by decide +kernel))) (by show tw 1 ≤ 12; exact tw_le.2 (by decide +kernel))
  rw [h] at h1
  omega
theorem sgQ_nn1 {a : Rat} (h : ¬ a < 0) : 0 ≤ sgQ a := sgQ_nn0 (by grind)
theorem sgQ_le0 {x y : Rat} (h : x ≤ y) : sgQ (x - y) ≤ 0 := by
  rcases sgQ_cases (x - y) with ⟨_, e⟩ | ⟨_, e⟩ | ⟨h1, _⟩
  · rw [e]; decide
  · rw [e]; decide
  · exfalso; grind

theorem tq_dbl (i : Nat) : tq (i + 1) = tq i + tq i := by
  rw [tq_add i 1]
  have e : tq 1 = 2 := by unfold tq; decide +kernel
  rw [e]; grind

set_option maxRecDepth 50000 in
set_option maxHeartbeats 8000000 in
theorem rbelow05 (a st z : Rat) (k N : Nat) (va1 va2 : Value) (w : World) (HA : Hid (0 ≤ a)) (HAN : Hid (a < tq N * tq N)) (hN : N ≤ 40) (HST : Hid (hq k = st)) (HZ : Hid (rlo a k = z)) (hk : k ≤ 100) (hs : rz a ≤ 1000) (bx21 : Rn w va1 (Int.natAbs ((a).num))) (bx22 : Rn w va2 ((a).den - 1)) :
    Calls Tryz.prog 97 #[(Value.agg #[.bool (decide ((a).num < 0)), va1, va2]), .int .i64 (((k : Nat) : Int))] w fun e w' => (∃ r1 r2 : Value, e = .returned (.agg #[.bool (decide ((z).num < 0)), r1, r2]) ∧ Rn w' r1 (Int.natAbs ((z).num)) ∧ Rn w' r2 ((z).den - 1)) ∧ Below w.heap.size w w' := by
  obtain ⟨ao_va1, n_va1, c_va1, rfl⟩ := Rn.sl bx21
  obtain ⟨ao_va2, n_va2, c_va2, rfl⟩ := Rn.sl bx22
  go_enter Tryz.func97, Tryz.ntmps97
  have HF := Lib.hid (hp0 w)
  replace HF := Lib.hid ((HF.out.ar bx21).ar bx22)
  simp only [lF, lG] at HF
  clear bx21 bx22
  refine kS fun K hK => ?_
  refine wp_region_lit ?_
  go_wp2
  refine hK.out _ _ ?_; clear hK K
  show Code.wp _ _ _ _ _
  refine fH (((HF.out).al (b := w.heap.size) (by first | rfl | simp) (by decide)).al (b := w.heap.size + 1) (by first | rfl | simp) (by decide)) fun Wx0 HG => ?_
  clear HF; have HF := HG; clear HG
  generalize w.heap.size + 1 = gx24 at *
  refine kS fun K hK => ?_
  refine wp_region_lit ?_
  go_wp2
  refine hK.out _ _ ?_; clear hK K
  show Code.wp _ _ _ _ _
  refine fH ((HF.out).al (b := Wx0.heap.size) (by first | rfl | simp) (by decide)) fun Wx1 HG => ?_
  clear HF; have HF := HG; clear HG
  generalize Wx0.heap.size = gx25 at *
  have HZ1 : Hid (((1 : Int) : Rat) = (1 : Rat)) := Lib.hid (by decide +kernel)
  have su1 : rz ((1 : Rat)) ≤ 5 := rz_of (tw_le.2 (by decide +kernel)) (tw_le.2 (by decide +kernel))
  refine kS fun K hK => ?_
  have HG0 : Hid (Gr Wx1 Wx1) := Lib.hid (Gr.refl _)
  refine sq 1 [(false, 0)] fun T hT => ?_
  refine wpPlan_callE rfl (by rfl) Tryz.call161 (by rfl) (fun w' hw => (qint_any (1) (1 : Rat) _ HZ1.out om om).mono ?_)
  rintro e vv27 ⟨⟨rv1, rv2, rfl, bx27, bx28⟩, hg0⟩
  obtain ⟨ao1, nn1, cc1, rfl⟩ := Rn.sl bx27
  obtain ⟨ao2, nn2, cc2, rfl⟩ := Rn.sl bx28
  refine ⟨_, rfl, hg0, ?_⟩
  replace hg0 := Gr.trans hw hg0; clear hw
  replace HG0 := Lib.hid (HG0.out.trans hg0)
  have HGS := Lib.hid hg0; clear hg0
  clear HGS
  have RN27 := Lib.hid bx27; clear bx27
  have RN28 := Lib.hid bx28; clear bx28
  simp only [Act.put, lA, lB, lC]
  refine wpPlan_nil (hT.out _ _ ?_)
  intro vw1 hg
  simp only [puts, Act.put, lA, lB, lC, lD, lE, ↓reduceIte, Nat.reduceEqDiff]
  have HG := Lib.hid (((HF.out.gr (HG0.out.trans hg)).ar (RN27.out.gr hg)).ar (RN28.out.gr hg))
  simp only [List.zip_cons_cons, List.zip_nil_right, List.map_cons, List.map_nil, lF, lG] at HG
  clear hT T HF hg HG0 RN27 RN28
  go_wp2
  refine hK.out _ _ ?_; clear hK K
  show Code.wp _ _ _ _ _
  refine fH ((HG.out).al (b := vw1.heap.size) (by first | rfl | simp) (by decide)) fun Wx2 HF => ?_
  clear HG
  generalize vw1.heap.size = gx29 at *
  refine wp_seq ?_
  refine wp_block ?_
  replace HF := Lib.hid ((HF.out.er 5).ar (HF.out.rn 5 rfl))
  simp only [List.eraseIdx_cons_zero, List.eraseIdx_cons_succ, List.cons_append, List.nil_append] at HF
  replace HF := Lib.hid ((HF.out.er 5).ar (HF.out.rn 5 rfl))
  simp only [List.eraseIdx_cons_zero, List.eraseIdx_cons_succ, List.cons_append, List.nil_append] at HF
  go_loopg [] N (fun kk wr => ∃ (i : Nat) (q : Rat) (vA1 vA2 : Value), i + kk = N ∧ Hid (tq i = q) ∧ Hid (HP w wr [Sum.inr ((.slice ao_va1 n_va1 c_va1), Int.natAbs ((a).num)), Sum.inr ((.slice ao_va2 n_va2 c_va2), (a).den - 1), Sum.inl (w.heap.size, 47, #[.bool (decide ((a).num < 0)), (.slice ao_va1 n_va1 c_va1), (.slice ao_va2 n_va2 c_va2)]), Sum.inl (gx24, 47, #[.bool false, .slice none 0 0, .slice none 0 0]), Sum.inl (gx25, 47, #[.bool false, .slice none 0 0, .slice none 0 0]), Sum.inl (gx29, 47, #[.bool (decide ((q).num < 0)), vA1, vA2]), Sum.inr (vA1, Int.natAbs ((q).num)), Sum.inr (vA2, (q).den - 1)]))
  case atStart => exact ⟨0, 1, _, _, by omega, Lib.hid (by unfold tq; decide +kernel), HF⟩
  case round =>
    rename_i J_ K_ hj1_ hj0_
    clear HF
    obtain ⟨i, q, vA1, vA2, hik, HQ, HF⟩ := hrel
    obtain ⟨aoA1, nnA1, ccA1, rfl⟩ := Rn.sl (HF.out.rn 6 rfl)
    obtain ⟨aoA2, nnA2, ccA2, rfl⟩ := Rn.sl (HF.out.rn 7 rfl)
    have hi : i ≤ 40 := by omega
    have hsq : rz q ≤ 4 := by rw [← HQ.out]; exact rz_tq hi
    obtain ⟨c, HC⟩ : ∃ z, Hid (sgQ (q * q - a) = z) := ⟨_, Lib.hid rfl⟩
    by_cases hle : q * q ≤ a
    · have hne : ¬ i = N := fun e => by
        have h9 := HAN.out
        rw [← e, HQ.out] at h9
        exact absurd hle (Rat.not_le.2 h9)
      obtain ⟨kk, rfl⟩ : ∃ kk, gk = kk + 1 := ⟨gk - 1, by omega⟩
      obtain ⟨q', HQ'⟩ : ∃ z, Hid (q + q = z) := ⟨_, Lib.hid rfl⟩
      have hc : c ≤ 0 := by rw [← HC.out]; exact sgQ_le0 hle
      clear hle hne
      refine wp_seq ?_
      obtain ⟨u2, HZ2⟩ : ∃ z, Hid ((q) * (q) = z) := ⟨_, Lib.hid rfl⟩
      have su2 : rz (u2) ≤ 8 := by rw [← HZ2.out]; have := rz_mul (q) (q); omega
      have lx23 := HF.out.c 2 rfl
      have lx29 := HF.out.c 5 rfl
      refine kS fun K hK => ?_
      have HG0 : Hid (Gr wr wr) := Lib.hid (Gr.refl _)
      refine pd 4 [(true, 0), (true, 2), (false, 1), (true, 3)] fun T hT => ?_
      iterate 2 refine tk ?_
      refine wpPlan_callE rfl (by rfl) Tryz.call99 (by rfl) (fun w' hw => (qsquare_any (q) (u2) _ _ _ (Lib.hid HZ2.out) (by omega) (HF.out.r 6 rfl (HG0.out.trans hw)) (HF.out.r 7 rfl (HG0.out.trans hw))).mono ?_)
      rintro e vv30 ⟨⟨rv3, rv4, rfl, bx30, bx31⟩, hg0⟩
      obtain ⟨ao3, nn3, cc3, rfl⟩ := Rn.sl bx30
      obtain ⟨ao4, nn4, cc4, rfl⟩ := Rn.sl bx31
      refine ⟨_, rfl, hg0, ?_⟩
      replace hg0 := Gr.trans hw hg0; clear hw
      replace HG0 := Lib.hid (HG0.out.trans hg0)
      have HGS := Lib.hid hg0; clear hg0
      clear HGS
      have RN30 := Lib.hid bx30; clear bx30
      have RN31 := Lib.hid bx31; clear bx31
      clear lx23; have lx23 := fun w' (h : Gr _ w') => HF.out.c 2 rfl w' (HG0.out.trans h)
      clear lx29; have lx29 := fun w' (h : Gr _ w') => HF.out.c 5 rfl w' (HG0.out.trans h)
      simp only [Act.put, lA, lB, lC]
      refine ck Tryz.call130 (fun w' hw => qcmp_any (u2) (a) (c) _ _ _ _ _ (by simp only [← HZ2.out]; exact HC.out) (by omega) (by omega) (RN30.out.gr hw) (RN31.out.gr hw) (HF.out.r 0 rfl (HG0.out.trans hw)) (HF.out.r 1 rfl (HG0.out.trans hw))) ?_
      refine wpPlan_nil (hT.out _ _ ?_)
      intro G vw2 hg hf
      simp only [puts, Act.put, lA, lB, lC, lD, lE, ↓reduceIte, Nat.reduceEqDiff]
      have HG := Lib.hid (((HF.out.gr (HG0.out.trans hg)).ar (RN30.out.gr hg)).ar (RN31.out.gr hg))
      simp only [List.zip_cons_cons, List.zip_nil_right, List.map_cons, List.map_nil, lF, lG] at HG
      clear hT T HF hg hf HG0 RN30 RN31 lx23 lx29
      have hcc : c ≤ 0 := by omega
      go_wp2
      refine hK.out _ _ ?_; clear hK K
      show Code.wp _ _ _ _ _
      have HF := HG; clear HG
      clear hcc
      refine wp_cond_true (by rfl) ?_
      refine wp_skip ?_
      show Code.wp _ _ _ _ _
      refine wp_block ?_
      have HZ3 : Hid ((q) + (q) = q') := Lib.hid (HQ'.out)
      have su3 : rz (q') ≤ 10 := by have e := HZ3.out; first | omega | (rw [← e]; have := rz_add (q) (q); omega)
      have lx29 := HF.out.c 5 rfl
      refine kL fun K hK => ?_
      have HG0 : Hid (Gr vw2 vw2) := Lib.hid (Gr.refl _)
      refine sq 3 [(true, 0), (true, 1), (false, 2)] fun T hT => ?_
      iterate 2 refine tk ?_
      refine wpPlan_callE rfl (by rfl) Tryz.call100 (by rfl) (fun w' hw => (qadd_any (q) (q) (q') _ _ _ _ _ HZ3.out (by omega) (by omega) (HF.out.r 6 rfl (HG0.out.trans hw)) (HF.out.r 7 rfl (HG0.out.trans hw)) (HF.out.r 6 rfl (HG0.out.trans hw)) (HF.out.r 7 rfl (HG0.out.trans hw))).mono ?_)
      rintro e vv32 ⟨⟨rv5, rv6, rfl, bx32, bx33⟩, hg0⟩
      obtain ⟨ao5, nn5, cc5, rfl⟩ := Rn.sl bx32
      obtain ⟨ao6, nn6, cc6, rfl⟩ := Rn.sl bx33
      refine ⟨_, rfl, hg0, ?_⟩
      replace hg0 := Gr.trans hw hg0; clear hw
      replace HG0 := Lib.hid (HG0.out.trans hg0)
      have HGS := Lib.hid hg0; clear hg0
      clear HGS
      have RN32 := Lib.hid bx32; clear bx32
      have RN33 := Lib.hid bx33; clear bx33
      clear lx29; have lx29 := fun w' (h : Gr _ w') => HF.out.c 5 rfl w' (HG0.out.trans h)
      simp only [Act.put, lA, lB, lC]
      refine wpPlan_nil (hT.out _ _ ?_)
      intro vw3 hg
      simp only [puts, Act.put, lA, lB, lC, lD, lE, ↓reduceIte, Nat.reduceEqDiff]
      have HG := Lib.hid (((HF.out.gr (HG0.out.trans hg)).ar (RN32.out.gr hg)).ar (RN33.out.gr hg))
      simp only [List.zip_cons_cons, List.zip_nil_right, List.map_cons, List.map_nil, lF, lG] at HG
      clear hT T HF hg HG0 RN32 RN33 lx29
      have lx29 := HG.out.c 5 rfl; have fx29 := HG.out.f 5 rfl
      have r0 := Gr.refl vw3
      go_wp2
      refine hK.out _ _ ?_; clear hK K
      try simp only [Exit.then, Exit.inBlock]
      clear r0 lx29 fx29
      have HF := Lib.hid (((HG.out).put2 (u1 := .bool (decide ((q').num < 0))) (u2 := (.slice ao5 nn5 cc5)) 5 0 rfl).put 5 2 ((.slice ao6 nn6 cc6)) rfl); clear HG
      refine hj0_ _ _ ?_
      go_roundg kk
      case measure => omega
      case rel => exact ⟨i + 1, q', _, _, by omega, Lib.hid (by rw [← HQ'.out, ← HQ.out]; exact tq_dbl i), Lib.hid (((((HF.out).er 9).er 8).er 7).er 6)⟩
    · have HLT : Hid (a < q * q) := Lib.hid (Rat.not_le.1 hle)
      have hc : ¬ c ≤ 0 := by rw [← HC.out, sgQ_pos (by have := HLT.out; grind)]; decide
      clear hle hik
      refine wp_seq ?_
      obtain ⟨u2, HZ2⟩ : ∃ z, Hid ((q) * (q) = z) := ⟨_, Lib.hid rfl⟩
      have su2 : rz (u2) ≤ 8 := by rw [← HZ2.out]; have := rz_mul (q) (q); omega
      have lx23 := HF.out.c 2 rfl
      have lx29 := HF.out.c 5 rfl
      refine kS fun K hK => ?_
      have HG0 : Hid (Gr wr wr) := Lib.hid (Gr.refl _)
      refine pd 4 [(true, 0), (true, 2), (false, 1), (true, 3)] fun T hT => ?_
      iterate 2 refine tk ?_
      refine wpPlan_callE rfl (by rfl) Tryz.call99 (by rfl) (fun w' hw => (qsquare_any (q) (u2) _ _ _ (Lib.hid HZ2.out) (by omega) (HF.out.r 6 rfl (HG0.out.trans hw)) (HF.out.r 7 rfl (HG0.out.trans hw))).mono ?_)
      rintro e vv30 ⟨⟨rv3, rv4, rfl, bx30, bx31⟩, hg0⟩
      obtain ⟨ao3, nn3, cc3, rfl⟩ := Rn.sl bx30
      obtain ⟨ao4, nn4, cc4, rfl⟩ := Rn.sl bx31
      refine ⟨_, rfl, hg0, ?_⟩
      replace hg0 := Gr.trans hw hg0; clear hw
      replace HG0 := Lib.hid (HG0.out.trans hg0)
      have HGS := Lib.hid hg0; clear hg0
      clear HGS
      have RN30 := Lib.hid bx30; clear bx30
      have RN31 := Lib.hid bx31; clear bx31
      clear lx23; have lx23 := fun w' (h : Gr _ w') => HF.out.c 2 rfl w' (HG0.out.trans h)
      clear lx29; have lx29 := fun w' (h : Gr _ w') => HF.out.c 5 rfl w' (HG0.out.trans h)
      simp only [Act.put, lA, lB, lC]
      refine ck Tryz.call130 (fun w' hw => qcmp_any (u2) (a) (c) _ _ _ _ _ (by simp only [← HZ2.out]; exact HC.out) (by omega) (by omega) (RN30.out.gr hw) (RN31.out.gr hw) (HF.out.r 0 rfl (HG0.out.trans hw)) (HF.out.r 1 rfl (HG0.out.trans hw))) ?_
      refine wpPlan_nil (hT.out _ _ ?_)
      intro G vw2 hg hf
      simp only [puts, Act.put, lA, lB, lC, lD, lE, ↓reduceIte, Nat.reduceEqDiff]
      have HG := Lib.hid (((HF.out.gr (HG0.out.trans hg)).ar (RN30.out.gr hg)).ar (RN31.out.gr hg))
      simp only [List.zip_cons_cons, List.zip_nil_right, List.map_cons, List.map_nil, lF, lG] at HG
      clear hT T HF hg hf HG0 RN30 RN31 lx23 lx29
      have hcc : ¬ c ≤ 0 := by omega
      go_wp2
      refine hK.out _ _ ?_; clear hK K
      show Code.wp _ _ _ _ _
      have HF := HG; clear HG
      clear hcc
      refine wp_cond_false (by rfl) ?_
      refine wp_exit ?_
      show Code.wp _ _ _ _ _
      have HZ3 : Hid (hq k = st) := Lib.hid (HST.out)
      have su3 : rz (st) ≤ 12 := by have e := HZ3.out; first | omega | (rw [← e]; exact rz_hq (by omega))
      refine kS fun K hK => ?_
      have HG0 : Hid (Gr vw2 vw2) := Lib.hid (Gr.refl _)
      refine sq 2 [(true, 0), (false, 1)] fun T hT => ?_
      refine tk ?_
      refine wpPlan_callE rfl (by rfl) Tryz.call101 (by rfl) (fun w' hw => (rstep_any (st) k _ (Lib.hid HZ3.out) (by omega)).mono ?_)
      rintro e vv32 ⟨⟨rv5, rv6, rfl, bx32, bx33⟩, hg0⟩
      obtain ⟨ao5, nn5, cc5, rfl⟩ := Rn.sl bx32
      obtain ⟨ao6, nn6, cc6, rfl⟩ := Rn.sl bx33
      refine ⟨_, rfl, hg0, ?_⟩
      replace hg0 := Gr.trans hw hg0; clear hw
      replace HG0 := Lib.hid (HG0.out.trans hg0)
      have HGS := Lib.hid hg0; clear hg0
      clear HGS
      have RN32 := Lib.hid bx32; clear bx32
      have RN33 := Lib.hid bx33; clear bx33
      simp only [Act.put, lA, lB, lC]
      refine wpPlan_nil (hT.out _ _ ?_)
      intro vw3 hg
      simp only [puts, Act.put, lA, lB, lC, lD, lE, ↓reduceIte, Nat.reduceEqDiff]
      have HG := Lib.hid (((HF.out.gr (HG0.out.trans hg)).ar (RN32.out.gr hg)).ar (RN33.out.gr hg))
      simp only [List.zip_cons_cons, List.zip_nil_right, List.map_cons, List.map_nil, lF, lG] at HG
      clear hT T HF hg HG0 RN32 RN33
      go_wp2
      refine hK.out _ _ ?_; clear hK K
      show Code.wp _ _ _ _ _
      refine fH ((((HG.out).al (b := vw3.heap.size) (by first | rfl | simp) (by decide)).er 9).er 8) fun Wx5 HF => ?_
      clear HG
      generalize vw3.heap.size = gx34 at *
      refine wp_seq ?_
      refine wp_block ?_
      replace HF := Lib.hid ((HF.out.ar (Rn.zero _)).ar (Rn.zero _))
      simp only [List.eraseIdx_cons_zero, List.eraseIdx_cons_succ, List.cons_append, List.nil_append] at HF
      replace HF := Lib.hid ((HF.out.er 6).ar (HF.out.rn 6 rfl))
      simp only [List.eraseIdx_cons_zero, List.eraseIdx_cons_succ, List.cons_append, List.nil_append] at HF
      replace HF := Lib.hid ((HF.out.er 6).ar (HF.out.rn 6 rfl))
      simp only [List.eraseIdx_cons_zero, List.eraseIdx_cons_succ, List.cons_append, List.nil_append] at HF
      go_loopg [] (i + k + 1) (fun kk wr => ∃ (j m : Nat) (o ee : Rat) (vB1 vB2 vD1 vD2 : Value), j + kk = i + k + 1 ∧ m < 2 ^ j ∧ Hid (tq i * hq j = ee) ∧ Hid ((((m : Nat) : Int) : Rat) * (2 * ee) = o) ∧ Hid (o * o ≤ a) ∧ Hid (a < (o + 2 * ee) * (o + 2 * ee)) ∧ Hid (HP w wr [Sum.inr ((.slice ao_va1 n_va1 c_va1), Int.natAbs ((a).num)), Sum.inr ((.slice ao_va2 n_va2 c_va2), (a).den - 1), Sum.inl (w.heap.size, 47, #[.bool (decide ((a).num < 0)), (.slice ao_va1 n_va1 c_va1), (.slice ao_va2 n_va2 c_va2)]), Sum.inl (gx24, 47, #[.bool false, .slice none 0 0, .slice none 0 0]), Sum.inl (gx25, 47, #[.bool (decide ((o).num < 0)), vB1, vB2]), Sum.inl (gx29, 47, #[.bool (decide ((ee).num < 0)), vD1, vD2]), Sum.inr ((.slice ao5 nn5 cc5), Int.natAbs ((st).num)), Sum.inr ((.slice ao6 nn6 cc6), (st).den - 1), Sum.inl (gx34, 47, #[.bool (decide ((st).num < 0)), (.slice ao5 nn5 cc5), (.slice ao6 nn6 cc6)]), Sum.inr (vB1, Int.natAbs ((o).num)), Sum.inr (vB2, (o).den - 1), Sum.inr (vD1, Int.natAbs ((ee).num)), Sum.inr (vD2, (ee).den - 1)]))
      case atStart => exact ⟨0, 0, 0, q, _, _, _, _, by omega, by decide, Lib.hid (by rw [hq_zero, Rat.mul_one]; exact HQ.out), Lib.hid (Rat.zero_mul _), Lib.hid (by rw [Rat.zero_mul]; exact HA.out), Lib.hid (by have h9 := HLT.out; have h8 := sq_nn q; grind), HF⟩
      case round =>
        rename_i J_ K_ hm1_ hm0_
        clear HF
        obtain ⟨j, m, o, ee, vB1, vB2, vD1, vD2, hjk, hmj, HE, HO, HO2, HOA, HF⟩ := hrel
        obtain ⟨aoB1, nnB1, ccB1, rfl⟩ := Rn.sl (HF.out.rn 9 rfl)
        obtain ⟨aoB2, nnB2, ccB2, rfl⟩ := Rn.sl (HF.out.rn 10 rfl)
        obtain ⟨aoD1, nnD1, ccD1, rfl⟩ := Rn.sl (HF.out.rn 11 rfl)
        obtain ⟨aoD2, nnD2, ccD2, rfl⟩ := Rn.sl (HF.out.rn 12 rfl)
        have hj : j ≤ 142 := by omega
        have hse : rz ee ≤ 16 := rz_lwe HE.out hi hj
        have hso : rz o ≤ 30 := rz_lwo HO.out hmj hj hse
        obtain ⟨c1, HC1⟩ : ∃ z, Hid (sgQ (ee - st) = z) := ⟨_, Lib.hid rfl⟩
        rcases gk with _ | kk
        · obtain rfl : j = i + k + 1 := by omega
          have hc1 : c1 < 0 := by rw [← HC1.out, ← HE.out, ← HST.out, sgQ_neg lw_end]; decide
          have HEQ : Hid (z = o) := Lib.hid (lw_uniq HA.out HE.out HO.out HO2.out HOA.out HZ.out)
          obtain rfl := HEQ.out
          clear HEQ
          refine wp_seq ?_
          have hcc1 : ¬ 0 ≤ c1 := by omega
          have lx29 := HF.out.c 5 rfl
          have lx34 := HF.out.c 8 rfl
          refine kS fun K hK => ?_
          refine sq 4 [(true, 0), (true, 1), (true, 2), (true, 3)] fun T hT => ?_
          iterate 2 refine tk ?_
          refine ck Tryz.call130 (fun w' hw => qcmp_any (ee) (st) (c1) _ _ _ _ _ (HC1.out) (by omega) (by omega) (HF.out.r 11 rfl hw) (HF.out.r 12 rfl hw) (HF.out.r 6 rfl hw) (HF.out.r 7 rfl hw)) ?_
          refine tk ?_
          refine nlS hT HF fun vw4 HG => ?_
          clear hT T HF lx29 lx34
          go_wp2
          refine hK.out _ _ ?_; clear hK K
          show Code.wp _ _ _ _ _
          have HF := HG; clear HG
          clear hcc1
          refine wp_cond_false (by rfl) ?_
          refine wp_exit ?_
          show Code.wp _ _ _ _ _
          have lx25 := HF.out.c 4 rfl
          refine kS fun K hK => ?_
          refine sq 1 [(true, 0)] fun T hT => ?_
          refine tk ?_
          refine nlS hT HF fun vw5 HG => ?_
          clear hT T HF lx25
          have lx24 := HG.out.c 3 rfl; have fx24 := HG.out.f 3 rfl
          have r0 := Gr.refl vw5
          go_wp2
          refine hK.out _ _ ?_; clear hK K
          show Code.wp _ _ _ _ _
          clear r0 lx24 fx24
          refine fH (((((((((((((HG.out).put2 3 0 rfl).put 3 2 _ rfl).er 12).er 11).er 8).er 7).er 6).er 5).er 4).er 2).er 1).er 0) fun Wx11 HF => ?_
          clear HG
          refine wp_ret ?_
          try simp only [Exit.then, Exit.inBlock]
          have lx24 := HF.out.c 0 rfl
          have r0 := Gr.refl Wx11
          exact bodyPost_ret (v := .agg #[.bool (decide ((z).num < 0)), (.slice aoB1 nnB1 ccB1), (.slice aoB2 nnB2 ccB2)]) (by simp [results, Tryz.results97, go_sem, lx24 _ r0]) rfl ⟨⟨(.slice aoB1 nnB1 ccB1), (.slice aoB2 nnB2 ccB2), rfl, (HF.out.rn 1 rfl), (HF.out.rn 2 rfl)⟩, HF.out.1⟩
        · have hc1 : ¬ c1 < 0 := by rw [← HC1.out, ← HE.out, ← HST.out]; have h9 := sgQ_nn1 (lw_go (i := i) (j := j) (k := k) (by omega)); omega
          obtain ⟨n, HN⟩ : ∃ z, Hid (o + ee = z) := ⟨_, Lib.hid rfl⟩
          obtain ⟨ee', HE'⟩ : ∃ z, Hid (ee * (1 / 2 : Rat) = z) := ⟨_, Lib.hid rfl⟩
          obtain ⟨c2, HC2⟩ : ∃ z, Hid (sgQ (n * n - a) = z) := ⟨_, Lib.hid rfl⟩
          by_cases hle : n * n ≤ a
          · have hc2 : c2 ≤ 0 := by rw [← HC2.out]; exact sgQ_le0 hle
            have HNA := Lib.hid hle
            clear hle
            refine wp_seq ?_
            have hcc1 : 0 ≤ c1 := by omega
            have lx29 := HF.out.c 5 rfl
            have lx34 := HF.out.c 8 rfl
            refine kS fun K hK => ?_
            refine sq 4 [(true, 0), (true, 1), (true, 2), (true, 3)] fun T hT => ?_
            iterate 2 refine tk ?_
            refine ck Tryz.call130 (fun w' hw => qcmp_any (ee) (st) (c1) _ _ _ _ _ (HC1.out) (by omega) (by omega) (HF.out.r 11 rfl hw) (HF.out.r 12 rfl hw) (HF.out.r 6 rfl hw) (HF.out.r 7 rfl hw)) ?_
            refine tk ?_
            refine nlS hT HF fun vw4 HG => ?_
            clear hT T HF lx29 lx34
            go_wp2
            refine hK.out _ _ ?_; clear hK K
            show Code.wp _ _ _ _ _
            have HF := HG; clear HG
            clear hcc1
            refine wp_cond_true (by rfl) ?_
            refine wp_skip ?_
            show Code.wp _ _ _ _ _
            refine wp_block ?_
            have HZ4 : Hid ((o) + (ee) = n) := Lib.hid (HN.out)
            have su4 : rz (n) ≤ 60 := by have e := HZ4.out; first | omega | (rw [← e]; have := rz_add (o) (ee); omega)
            have lx25 := HF.out.c 4 rfl
            have lx29 := HF.out.c 5 rfl
            refine kS fun K hK => ?_
            have HG0 : Hid (Gr vw4 vw4) := Lib.hid (Gr.refl _)
            refine sq 3 [(true, 0), (true, 1), (false, 2)] fun T hT => ?_
            iterate 2 refine tk ?_
            refine wpPlan_callE rfl (by rfl) Tryz.call100 (by rfl) (fun w' hw => (qadd_any (o) (ee) (n) _ _ _ _ _ HZ4.out (by omega) (by omega) (HF.out.r 9 rfl (HG0.out.trans hw)) (HF.out.r 10 rfl (HG0.out.trans hw)) (HF.out.r 11 rfl (HG0.out.trans hw)) (HF.out.r 12 rfl (HG0.out.trans hw))).mono ?_)
            rintro e vv37 ⟨⟨rv7, rv8, rfl, bx37, bx38⟩, hg0⟩
            obtain ⟨ao7, nn7, cc7, rfl⟩ := Rn.sl bx37
            obtain ⟨ao8, nn8, cc8, rfl⟩ := Rn.sl bx38
            refine ⟨_, rfl, hg0, ?_⟩
            replace hg0 := Gr.trans hw hg0; clear hw
            replace HG0 := Lib.hid (HG0.out.trans hg0)
            have HGS := Lib.hid hg0; clear hg0
            clear HGS
            have RN37 := Lib.hid bx37; clear bx37
            have RN38 := Lib.hid bx38; clear bx38
            clear lx25; have lx25 := fun w' (h : Gr _ w') => HF.out.c 4 rfl w' (HG0.out.trans h)
            clear lx29; have lx29 := fun w' (h : Gr _ w') => HF.out.c 5 rfl w' (HG0.out.trans h)
            simp only [Act.put, lA, lB, lC]
            refine wpPlan_nil (hT.out _ _ ?_)
            intro vw5 hg
            simp only [puts, Act.put, lA, lB, lC, lD, lE, ↓reduceIte, Nat.reduceEqDiff]
            have HG := Lib.hid (((HF.out.gr (HG0.out.trans hg)).ar (RN37.out.gr hg)).ar (RN38.out.gr hg))
            simp only [List.zip_cons_cons, List.zip_nil_right, List.map_cons, List.map_nil, lF, lG] at HG
            clear hT T HF hg HG0 RN37 RN38 lx25 lx29
            go_wp2
            refine hK.out _ _ ?_; clear hK K
            show Code.wp _ _ _ _ _
            refine fH ((HG.out).al (b := vw5.heap.size) (by first | rfl | simp) (by decide)) fun Wx7 HF => ?_
            clear HG
            generalize vw5.heap.size = gx39 at *
            refine wp_seq ?_
            obtain ⟨u5, HZ5⟩ : ∃ z, Hid ((n) * (n) = z) := ⟨_, Lib.hid rfl⟩
            have su5 : rz (u5) ≤ 120 := by rw [← HZ5.out]; have := rz_mul (n) (n); omega
            have lx23 := HF.out.c 2 rfl
            have lx39 := HF.out.c 15 rfl
            refine kS fun K hK => ?_
            have HG0 : Hid (Gr Wx7 Wx7) := Lib.hid (Gr.refl _)
            refine pd 4 [(true, 0), (true, 2), (false, 1), (true, 3)] fun T hT => ?_
            iterate 2 refine tk ?_
            refine wpPlan_callE rfl (by rfl) Tryz.call99 (by rfl) (fun w' hw => (qsquare_any (n) (u5) _ _ _ (Lib.hid HZ5.out) (by omega) (HF.out.r 13 rfl (HG0.out.trans hw)) (HF.out.r 14 rfl (HG0.out.trans hw))).mono ?_)
            rintro e vv40 ⟨⟨rv9, rv10, rfl, bx40, bx41⟩, hg0⟩
            obtain ⟨ao9, nn9, cc9, rfl⟩ := Rn.sl bx40
            obtain ⟨ao10, nn10, cc10, rfl⟩ := Rn.sl bx41
            refine ⟨_, rfl, hg0, ?_⟩
            replace hg0 := Gr.trans hw hg0; clear hw
            replace HG0 := Lib.hid (HG0.out.trans hg0)
            have HGS := Lib.hid hg0; clear hg0
            clear HGS
            have RN40 := Lib.hid bx40; clear bx40
            have RN41 := Lib.hid bx41; clear bx41
            clear lx23; have lx23 := fun w' (h : Gr _ w') => HF.out.c 2 rfl w' (HG0.out.trans h)
            clear lx39; have lx39 := fun w' (h : Gr _ w') => HF.out.c 15 rfl w' (HG0.out.trans h)
            simp only [Act.put, lA, lB, lC]
            refine ck Tryz.call130 (fun w' hw => qcmp_any (u5) (a) (c2) _ _ _ _ _ (by simp only [← HZ5.out, ← HZ2.out]; exact HC2.out) (by omega) (by omega) (RN40.out.gr hw) (RN41.out.gr hw) (HF.out.r 0 rfl (HG0.out.trans hw)) (HF.out.r 1 rfl (HG0.out.trans hw))) ?_
            refine wpPlan_nil (hT.out _ _ ?_)
            intro G vw6 hg hf
            simp only [puts, Act.put, lA, lB, lC, lD, lE, ↓reduceIte, Nat.reduceEqDiff]
            have HG := Lib.hid (((HF.out.gr (HG0.out.trans hg)).ar (RN40.out.gr hg)).ar (RN41.out.gr hg))
            simp only [List.zip_cons_cons, List.zip_nil_right, List.map_cons, List.map_nil, lF, lG] at HG
            clear hT T HF hg hf HG0 RN40 RN41 lx23 lx39
            have hcc2 : c2 ≤ 0 := by omega
            go_wp2
            refine hK.out _ _ ?_; clear hK K
            show Code.wp _ _ _ _ _
            have HF := HG; clear HG
            clear hcc2
            refine wp_cond_true (by rfl) ?_
            have lx39 := HF.out.c 15 rfl
            refine kL fun K hK => ?_
            refine sq 1 [(true, 0)] fun T hT => ?_
            refine tk ?_
            refine nlS hT HF fun vw7 HG => ?_
            clear hT T HF lx39
            have lx25 := HG.out.c 4 rfl; have fx25 := HG.out.f 4 rfl
            have r0 := Gr.refl vw7
            go_wp2
            refine hK.out _ _ ?_; clear hK K
            show Code.wp _ _ _ _ _
            clear r0 lx25 fx25
            refine fH (((HG.out).put2 4 0 rfl).put 4 2 _ rfl) fun Wx9 HF => ?_
            clear HG
            have HZ6 : Hid (((1 : Int) : Rat) / ((2 : Int) : Rat) = (1 / 2 : Rat)) := Lib.hid (by decide +kernel)
            have su6 : rz ((1 / 2 : Rat)) ≤ 10 := by have e := HZ6.out; first | omega | (rw [← e]; exact rz_quot (1) (2) om om om om)
            have HZ7 : Hid ((ee) * ((1 / 2 : Rat)) = ee') := Lib.hid (HE'.out)
            have su7 : rz (ee') ≤ 40 := by have e := HZ7.out; first | omega | (rw [← e]; have := rz_mul (ee) ((1 / 2 : Rat)); omega)
            have lx29 := HF.out.c 5 rfl
            refine kL fun K hK => ?_
            have HG0 : Hid (Gr Wx9 Wx9) := Lib.hid (Gr.refl _)
            refine pd 3 [(true, 0), (false, 1), (false, 2)] fun T hT => ?_
            refine tk ?_
            refine wpPlan_callE rfl (by rfl) Tryz.call102 (by rfl) (fun w' hw => (qof_ref (1) (2) ((1 / 2 : Rat)) _ HZ6.out om om om om).mono ?_)
            rintro e vv42 ⟨⟨rv11, rv12, rfl, bx42, bx43⟩, hg0⟩
            obtain ⟨ao11, nn11, cc11, rfl⟩ := Rn.sl bx42
            obtain ⟨ao12, nn12, cc12, rfl⟩ := Rn.sl bx43
            refine ⟨_, rfl, hg0, ?_⟩
            replace hg0 := Gr.trans hw hg0; clear hw
            replace HG0 := Lib.hid (HG0.out.trans hg0)
            have HGS := Lib.hid hg0; clear hg0
            clear HGS
            have RN42 := Lib.hid bx42; clear bx42
            have RN43 := Lib.hid bx43; clear bx43
            clear lx29; have lx29 := fun w' (h : Gr _ w') => HF.out.c 5 rfl w' (HG0.out.trans h)
            simp only [Act.put, lA, lB, lC]
            refine wpPlan_callE rfl (by rfl) Tryz.call132 (by rfl) (fun w' hw => (qmul_any (ee) ((1 / 2 : Rat)) (ee') _ _ _ _ _ HZ7.out (by omega) (by omega) (HF.out.r 11 rfl (HG0.out.trans hw)) (HF.out.r 12 rfl (HG0.out.trans hw)) (RN42.out.gr hw) (RN43.out.gr hw)).mono ?_)
            rintro e vv44 ⟨⟨rv13, rv14, rfl, bx44, bx45⟩, hg0⟩
            obtain ⟨ao13, nn13, cc13, rfl⟩ := Rn.sl bx44
            obtain ⟨ao14, nn14, cc14, rfl⟩ := Rn.sl bx45
            refine ⟨_, rfl, hg0, ?_⟩
            replace hg0 := Gr.trans hw hg0; clear hw
            replace HG0 := Lib.hid (HG0.out.trans hg0)
            have HGS := Lib.hid hg0; clear hg0
            replace RN42 := Lib.hid (RN42.out.gr HGS.out)
            replace RN43 := Lib.hid (RN43.out.gr HGS.out)
            clear HGS
            have RN44 := Lib.hid bx44; clear bx44
            have RN45 := Lib.hid bx45; clear bx45
            clear lx29; have lx29 := fun w' (h : Gr _ w') => HF.out.c 5 rfl w' (HG0.out.trans h)
            simp only [Act.put, lA, lB, lC]
            refine wpPlan_nil (hT.out _ _ ?_)
            intro G vw8 hg hf
            simp only [puts, Act.put, lA, lB, lC, lD, lE, ↓reduceIte, Nat.reduceEqDiff]
            have HG := Lib.hid (((((HF.out.gr (HG0.out.trans hg)).ar (RN42.out.gr hg)).ar (RN43.out.gr hg)).ar (RN44.out.gr hg)).ar (RN45.out.gr hg))
            simp only [List.zip_cons_cons, List.zip_nil_right, List.map_cons, List.map_nil, lF, lG] at HG
            clear hT T HF hg hf HG0 RN42 RN43 RN44 RN45 lx29
            have lx29 := HG.out.c 5 rfl; have fx29 := HG.out.f 5 rfl
            have r0 := Gr.refl vw8
            go_wp2
            refine hK.out _ _ ?_; clear hK K
            try simp only [Exit.then, Exit.inBlock]
            clear r0 lx29 fx29
            have HF := Lib.hid (((HG.out).put2 (u1 := .bool (decide ((ee').num < 0))) (u2 := (.slice ao13 nn13 cc13)) 5 0 rfl).put 5 2 ((.slice ao14 nn14 cc14)) rfl); clear HG
            refine hm0_ _ _ ?_
            go_roundg kk
            case measure => omega
            case rel => exact ⟨j + 1, 2 * m + 1, n, ee', _, _, _, _, by omega, lw_m1 hmj, Lib.hid (lw_e HE.out HE'.out), Lib.hid (lw_o1 HO.out HN.out HE'.out), HNA, Lib.hid (lw_a1 HOA.out HN.out HE'.out), Lib.hid ((((((((((HF.out).er 19).er 18).er 17).er 16).er 15).er 12).er 11).er 10).er 9)⟩
          · have hc2 : ¬ c2 ≤ 0 := by rw [← HC2.out, sgQ_pos (by have := Rat.not_le.1 hle; grind)]; decide
            have HNA := Lib.hid hle
            clear hle
            refine wp_seq ?_
            have hcc1 : 0 ≤ c1 := by omega
            have lx29 := HF.out.c 5 rfl
            have lx34 := HF.out.c 8 rfl
            refine kS fun K hK => ?_
            refine sq 4 [(true, 0), (true, 1), (true, 2), (true, 3)] fun T hT => ?_
            iterate 2 refine tk ?_
            refine ck Tryz.call130 (fun w' hw => qcmp_any (ee) (st) (c1) _ _ _ _ _ (HC1.out) (by omega) (by omega) (HF.out.r 11 rfl hw) (HF.out.r 12 rfl hw) (HF.out.r 6 rfl hw) (HF.out.r 7 rfl hw)) ?_
            refine tk ?_
            refine nlS hT HF fun vw4 HG => ?_
            clear hT T HF lx29 lx34
            go_wp2
            refine hK.out _ _ ?_; clear hK K
            show Code.wp _ _ _ _ _
            have HF := HG; clear HG
            clear hcc1
            refine wp_cond_true (by rfl) ?_
            refine wp_skip ?_
            show Code.wp _ _ _ _ _
            refine wp_block ?_
            have HZ4 : Hid ((o) + (ee) = n) := Lib.hid (HN.out)
            have su4 : rz (n) ≤ 60 := by have e := HZ4.out; first | omega | (rw [← e]; have := rz_add (o) (ee); omega)
            have lx25 := HF.out.c 4 rfl
            have lx29 := HF.out.c 5 rfl
            refine kS fun K hK => ?_
            have HG0 : Hid (Gr vw4 vw4) := Lib.hid (Gr.refl _)
            refine sq 3 [(true, 0), (true, 1), (false, 2)] fun T hT => ?_
            iterate 2 refine tk ?_
            refine wpPlan_callE rfl (by rfl) Tryz.call100 (by rfl) (fun w' hw => (qadd_any (o) (ee) (n) _ _ _ _ _ HZ4.out (by omega) (by omega) (HF.out.r 9 rfl (HG0.out.trans hw)) (HF.out.r 10 rfl (HG0.out.trans hw)) (HF.out.r 11 rfl (HG0.out.trans hw)) (HF.out.r 12 rfl (HG0.out.trans hw))).mono ?_)
            rintro e vv37 ⟨⟨rv7, rv8, rfl, bx37, bx38⟩, hg0⟩
            obtain ⟨ao7, nn7, cc7, rfl⟩ := Rn.sl bx37
            obtain ⟨ao8, nn8, cc8, rfl⟩ := Rn.sl bx38
            refine ⟨_, rfl, hg0, ?_⟩
            replace hg0 := Gr.trans hw hg0; clear hw
            replace HG0 := Lib.hid (HG0.out.trans hg0)
            have HGS := Lib.hid hg0; clear hg0
            clear HGS
            have RN37 := Lib.hid bx37; clear bx37
            have RN38 := Lib.hid bx38; clear bx38
            clear lx25; have lx25 := fun w' (h : Gr _ w') => HF.out.c 4 rfl w' (HG0.out.trans h)
            clear lx29; have lx29 := fun w' (h : Gr _ w') => HF.out.c 5 rfl w' (HG0.out.trans h)
            simp only [Act.put, lA, lB, lC]
            refine wpPlan_nil (hT.out _ _ ?_)
            intro vw5 hg
            simp only [puts, Act.put, lA, lB, lC, lD, lE, ↓reduceIte, Nat.reduceEqDiff]
            have HG := Lib.hid (((HF.out.gr (HG0.out.trans hg)).ar (RN37.out.gr hg)).ar (RN38.out.gr hg))
            simp only [List.zip_cons_cons, List.zip_nil_right, List.map_cons, List.map_nil, lF, lG] at HG
            clear hT T HF hg HG0 RN37 RN38 lx25 lx29
            go_wp2
            refine hK.out _ _ ?_; clear hK K
            show Code.wp _ _ _ _ _
            refine fH ((HG.out).al (b := vw5.heap.size) (by first | rfl | simp) (by decide)) fun Wx7 HF => ?_
            clear HG
            generalize vw5.heap.size = gx39 at *
            refine wp_seq ?_
            obtain ⟨u5, HZ5⟩ : ∃ z, Hid ((n) * (n) = z) := ⟨_, Lib.hid rfl⟩
            have su5 : rz (u5) ≤ 120 := by rw [← HZ5.out]; have := rz_mul (n) (n); omega
            have lx23 := HF.out.c 2 rfl
            have lx39 := HF.out.c 15 rfl
            refine kS fun K hK => ?_
            have HG0 : Hid (Gr Wx7 Wx7) := Lib.hid (Gr.refl _)
            refine pd 4 [(true, 0), (true, 2), (false, 1), (true, 3)] fun T hT => ?_
            iterate 2 refine tk ?_
            refine wpPlan_callE rfl (by rfl) Tryz.call99 (by rfl) (fun w' hw => (qsquare_any (n) (u5) _ _ _ (Lib.hid HZ5.out) (by omega) (HF.out.r 13 rfl (HG0.out.trans hw)) (HF.out.r 14 rfl (HG0.out.trans hw))).mono ?_)
            rintro e vv40 ⟨⟨rv9, rv10, rfl, bx40, bx41⟩, hg0⟩
            obtain ⟨ao9, nn9, cc9, rfl⟩ := Rn.sl bx40
            obtain ⟨ao10, nn10, cc10, rfl⟩ := Rn.sl bx41
            refine ⟨_, rfl, hg0, ?_⟩
            replace hg0 := Gr.trans hw hg0; clear hw
            replace HG0 := Lib.hid (HG0.out.trans hg0)
            have HGS := Lib.hid hg0; clear hg0
            clear HGS
            have RN40 := Lib.hid bx40; clear bx40
            have RN41 := Lib.hid bx41; clear bx41
            clear lx23; have lx23 := fun w' (h : Gr _ w') => HF.out.c 2 rfl w' (HG0.out.trans h)
            clear lx39; have lx39 := fun w' (h : Gr _ w') => HF.out.c 15 rfl w' (HG0.out.trans h)
            simp only [Act.put, lA, lB, lC]
            refine ck Tryz.call130 (fun w' hw => qcmp_any (u5) (a) (c2) _ _ _ _ _ (by simp only [← HZ5.out, ← HZ2.out]; exact HC2.out) (by omega) (by omega) (RN40.out.gr hw) (RN41.out.gr hw) (HF.out.r 0 rfl (HG0.out.trans hw)) (HF.out.r 1 rfl (HG0.out.trans hw))) ?_
            refine wpPlan_nil (hT.out _ _ ?_)
            intro G vw6 hg hf
            simp only [puts, Act.put, lA, lB, lC, lD, lE, ↓reduceIte, Nat.reduceEqDiff]
            have HG := Lib.hid (((HF.out.gr (HG0.out.trans hg)).ar (RN40.out.gr hg)).ar (RN41.out.gr hg))
            simp only [List.zip_cons_cons, List.zip_nil_right, List.map_cons, List.map_nil, lF, lG] at HG
            clear hT T HF hg hf HG0 RN40 RN41 lx23 lx39
            have hcc2 : ¬ c2 ≤ 0 := by omega
            go_wp2
            refine hK.out _ _ ?_; clear hK K
            show Code.wp _ _ _ _ _
            have HF := HG; clear HG
            clear hcc2
            refine wp_cond_false (by rfl) ?_
            refine wp_skip ?_
            show Code.wp _ _ _ _ _
            have HZ6 : Hid (((1 : Int) : Rat) / ((2 : Int) : Rat) = (1 / 2 : Rat)) := Lib.hid (by decide +kernel)
            have su6 : rz ((1 / 2 : Rat)) ≤ 10 := by have e := HZ6.out; first | omega | (rw [← e]; exact rz_quot (1) (2) om om om om)
            have HZ7 : Hid ((ee) * ((1 / 2 : Rat)) = ee') := Lib.hid (HE'.out)
            have su7 : rz (ee') ≤ 40 := by have e := HZ7.out; first | omega | (rw [← e]; have := rz_mul (ee) ((1 / 2 : Rat)); omega)
            have lx29 := HF.out.c 5 rfl
            refine kL fun K hK => ?_
            have HG0 : Hid (Gr vw6 vw6) := Lib.hid (Gr.refl _)
            refine pd 3 [(true, 0), (false, 1), (false, 2)] fun T hT => ?_
            refine tk ?_
            refine wpPlan_callE rfl (by rfl) Tryz.call102 (by rfl) (fun w' hw => (qof_ref (1) (2) ((1 / 2 : Rat)) _ HZ6.out om om om om).mono ?_)
            rintro e vv42 ⟨⟨rv11, rv12, rfl, bx42, bx43⟩, hg0⟩
            obtain ⟨ao11, nn11, cc11, rfl⟩ := Rn.sl bx42
            obtain ⟨ao12, nn12, cc12, rfl⟩ := Rn.sl bx43
            refine ⟨_, rfl, hg0, ?_⟩
            replace hg0 := Gr.trans hw hg0; clear hw
            replace HG0 := Lib.hid (HG0.out.trans hg0)
            have HGS := Lib.hid hg0; clear hg0
            clear HGS
            have RN42 := Lib.hid bx42; clear bx42
            have RN43 := Lib.hid bx43; clear bx43
            clear lx29; have lx29 := fun w' (h : Gr _ w') => HF.out.c 5 rfl w' (HG0.out.trans h)
            simp only [Act.put, lA, lB, lC]
            refine wpPlan_callE rfl (by rfl) Tryz.call132 (by rfl) (fun w' hw => (qmul_any (ee) ((1 / 2 : Rat)) (ee') _ _ _ _ _ HZ7.out (by omega) (by omega) (HF.out.r 11 rfl (HG0.out.trans hw)) (HF.out.r 12 rfl (HG0.out.trans hw)) (RN42.out.gr hw) (RN43.out.gr hw)).mono ?_)
            rintro e vv44 ⟨⟨rv13, rv14, rfl, bx44, bx45⟩, hg0⟩
            obtain ⟨ao13, nn13, cc13, rfl⟩ := Rn.sl bx44
            obtain ⟨ao14, nn14, cc14, rfl⟩ := Rn.sl bx45
            refine ⟨_, rfl, hg0, ?_⟩
            replace hg0 := Gr.trans hw hg0; clear hw
            replace HG0 := Lib.hid (HG0.out.trans hg0)
            have HGS := Lib.hid hg0; clear hg0
            replace RN42 := Lib.hid (RN42.out.gr HGS.out)
            replace RN43 := Lib.hid (RN43.out.gr HGS.out)
            clear HGS
            have RN44 := Lib.hid bx44; clear bx44
            have RN45 := Lib.hid bx45; clear bx45
            clear lx29; have lx29 := fun w' (h : Gr _ w') => HF.out.c 5 rfl w' (HG0.out.trans h)
            simp only [Act.put, lA, lB, lC]
            refine wpPlan_nil (hT.out _ _ ?_)
            intro G vw7 hg hf
            simp only [puts, Act.put, lA, lB, lC, lD, lE, ↓reduceIte, Nat.reduceEqDiff]
            have HG := Lib.hid (((((HF.out.gr (HG0.out.trans hg)).ar (RN42.out.gr hg)).ar (RN43.out.gr hg)).ar (RN44.out.gr hg)).ar (RN45.out.gr hg))
            simp only [List.zip_cons_cons, List.zip_nil_right, List.map_cons, List.map_nil, lF, lG] at HG
            clear hT T HF hg hf HG0 RN42 RN43 RN44 RN45 lx29
            have lx29 := HG.out.c 5 rfl; have fx29 := HG.out.f 5 rfl
            have r0 := Gr.refl vw7
            go_wp2
            refine hK.out _ _ ?_; clear hK K
            try simp only [Exit.then, Exit.inBlock]
            clear r0 lx29 fx29
            have HF := Lib.hid (((HG.out).put2 (u1 := .bool (decide ((ee').num < 0))) (u2 := (.slice ao13 nn13 cc13)) 5 0 rfl).put 5 2 ((.slice ao14 nn14 cc14)) rfl); clear HG
            refine hm0_ _ _ ?_
            go_roundg kk
            case measure => omega
            case rel => exact ⟨j + 1, 2 * m, o, ee', _, _, _, _, by omega, lw_m2 hmj, Lib.hid (lw_e HE.out HE'.out), Lib.hid (lw_o2 HO.out HE'.out), HO2, Lib.hid (lw_a2 HNA.out HN.out HE'.out), Lib.hid ((((((((((HF.out).er 19).er 18).er 17).er 16).er 15).er 14).er 13).er 12).er 11)⟩

end Go.Proofs.YtaflakcemiilaaaGreatDoor

namespace Go.Proofs.YtaflakcemiilaaaGreatDoor
open Go.RowKit
set_option linter.unusedSimpArgs false
set_option linter.unusedVariables false
attribute [local go_sem ↓] Go.wp_at_zero Go.wp_at_succ
attribute [local go_sem ↓] eq_nat eq_nat_zero eq_int
set_option maxRecDepth 20000 in
set_option maxHeartbeats 4000000 in
theorem rboth_lo (a : Rat) (n : Int) (va1 va2 : Value) (w : World) (hn : n < 0) (bx21 : Rn w va1 (Int.natAbs ((a).num))) (bx22 : Rn w va2 ((a).den - 1)) :
    Calls Tryz.prog 26 #[(Value.agg #[.bool (decide ((a).num < 0)), va1, va2]), .int .i64 (n)] w fun e w' => e = .returned ((.tuple #[(.agg #[.bool false, .slice none 0 0, .slice none 0 0]), (.agg #[.bool false, .slice none 0 0, .slice none 0 0]), .int .i64 1])) ∧ Below w.heap.size w w' := by
  obtain ⟨ao_va1, n_va1, c_va1, rfl⟩ := Rn.sl bx21
  obtain ⟨ao_va2, n_va2, c_va2, rfl⟩ := Rn.sl bx22
  go_enter Tryz.func26, Tryz.ntmps26
  have HF := Lib.hid (hp0 w)
  replace HF := Lib.hid ((HF.out.ar bx21).ar bx22)
  simp only [lF, lG] at HF
  clear bx21 bx22
  refine kS fun K hK => ?_
  refine wp_region_lit ?_
  go_wp2
  refine hK.out _ _ ?_; clear hK K
  show Code.wp _ _ _ _ _
  refine fH ((((HF.out).al (b := w.heap.size) (by first | rfl | simp) (by decide)).al (b := w.heap.size + 1) (by first | rfl | simp) (by decide)).al (b := w.heap.size + 1 + 1) (by first | rfl | simp) (by decide)) fun Wx0 HG => ?_
  clear HF; have HF := HG; clear HG
  generalize w.heap.size + 1 + 1 = gx25 at *
  generalize w.heap.size + 1 = gx24 at *
  refine kS fun K hK => ?_
  refine wp_region_lit ?_
  go_wp2
  refine hK.out _ _ ?_; clear hK K
  show Code.wp _ _ _ _ _
  refine fH ((HF.out).al (b := Wx0.heap.size) (by first | rfl | simp) (by decide)) fun Wx1 HG => ?_
  clear HF; have HF := HG; clear HG
  generalize Wx0.heap.size = gx26 at *
  have lx23 := HF.out.c 2 rfl
  refine kS fun K hK => ?_
  refine sq 4 [(true, 0), (true, 1), (true, 2), (true, 3)] fun T hT => ?_
  iterate 2 refine tk ?_
  refine ck Tryz.call96 (fun w' hw => rmay_lo (a) (n) _ _ _ (by omega) (HF.out.r 0 rfl hw) (HF.out.r 1 rfl hw)) ?_
  refine tk ?_
  refine nlS hT HF fun vw1 HG => ?_
  clear hT T HF lx23
  go_wp2
  refine hK.out _ _ ?_; clear hK K
  show Code.wp _ _ _ _ _
  have HF := HG; clear HG
  refine wp_seq ?_
  refine kS fun K hK => ?_
  refine sq 2 [(true, 0), (true, 1)] fun T hT => ?_
  iterate 2 refine tk ?_
  refine nlS hT HF fun vw2 HG => ?_
  clear hT T HF
  go_wp2
  refine hK.out _ _ ?_; clear hK K
  show Code.wp _ _ _ _ _
  have HF := HG; clear HG
  refine wp_cond_true (by rfl) ?_
  have lx24 := HF.out.c 3 rfl; have fx24 := HF.out.f 3 rfl
  have lx25 := HF.out.c 4 rfl; have fx25 := HF.out.f 4 rfl
  have lx26 := HF.out.c 5 rfl; have fx26 := HF.out.f 5 rfl
  have r0 := Gr.refl vw2
  obtain ⟨d24_25, d25_24⟩ := HF.out.ne 3 4 rfl rfl (by decide)
  obtain ⟨d24_26, d26_24⟩ := HF.out.ne 3 5 rfl rfl (by decide)
  obtain ⟨d25_26, d26_25⟩ := HF.out.ne 4 5 rfl rfl (by decide)
  refine kS fun K hK => ?_
  go_region
  go_wp2
  refine hK.out _ _ ?_; clear hK K
  show Code.wp _ _ _ _ _
  clear r0 lx24 fx24 lx25 fx25 lx26 fx26 d24_25 d25_24 d24_26 d26_24 d25_26 d26_25
  refine fH (((((((HF.out).put2 3 0 rfl).put 3 2 _ rfl).put2 4 0 rfl).put 4 2 _ rfl).er 5).gr ((Below.refl _ _).drew)) fun Wx4 HG => ?_
  clear HF; have HF := HG; clear HG
  refine wp_ret ?_
  try simp only [Exit.then, Exit.inBlock]
  have lx24 := HF.out.c 3 rfl
  have lx25 := HF.out.c 4 rfl
  have r0 := Gr.refl Wx4
  exact bodyPost_ret (v := .tuple #[(.agg #[.bool false, .slice none 0 0, .slice none 0 0]), (.agg #[.bool false, .slice none 0 0, .slice none 0 0]), .int .i64 1]) (by simp [results, Tryz.results26, go_sem, lx24 _ r0, lx25 _ r0]) rfl ⟨rfl, HF.out.1⟩

set_option maxRecDepth 20000 in
set_option maxHeartbeats 4000000 in
theorem rboth_far (a : Rat) (n : Int) (va1 va2 : Value) (w : World) (hn : 100 < n) (bx21 : Rn w va1 (Int.natAbs ((a).num))) (bx22 : Rn w va2 ((a).den - 1)) :
    Calls Tryz.prog 26 #[(Value.agg #[.bool (decide ((a).num < 0)), va1, va2]), .int .i64 (n)] w fun e w' => e = .returned ((.tuple #[(.agg #[.bool false, .slice none 0 0, .slice none 0 0]), (.agg #[.bool false, .slice none 0 0, .slice none 0 0]), .int .i64 3])) ∧ Below w.heap.size w w' := by
  obtain ⟨ao_va1, n_va1, c_va1, rfl⟩ := Rn.sl bx21
  obtain ⟨ao_va2, n_va2, c_va2, rfl⟩ := Rn.sl bx22
  go_enter Tryz.func26, Tryz.ntmps26
  have HF := Lib.hid (hp0 w)
  replace HF := Lib.hid ((HF.out.ar bx21).ar bx22)
  simp only [lF, lG] at HF
  clear bx21 bx22
  refine kS fun K hK => ?_
  refine wp_region_lit ?_
  go_wp2
  refine hK.out _ _ ?_; clear hK K
  show Code.wp _ _ _ _ _
  refine fH ((((HF.out).al (b := w.heap.size) (by first | rfl | simp) (by decide)).al (b := w.heap.size + 1) (by first | rfl | simp) (by decide)).al (b := w.heap.size + 1 + 1) (by first | rfl | simp) (by decide)) fun Wx0 HG => ?_
  clear HF; have HF := HG; clear HG
  generalize w.heap.size + 1 + 1 = gx25 at *
  generalize w.heap.size + 1 = gx24 at *
  refine kS fun K hK => ?_
  refine wp_region_lit ?_
  go_wp2
  refine hK.out _ _ ?_; clear hK K
  show Code.wp _ _ _ _ _
  refine fH ((HF.out).al (b := Wx0.heap.size) (by first | rfl | simp) (by decide)) fun Wx1 HG => ?_
  clear HF; have HF := HG; clear HG
  generalize Wx0.heap.size = gx26 at *
  have lx23 := HF.out.c 2 rfl
  refine kS fun K hK => ?_
  refine sq 4 [(true, 0), (true, 1), (true, 2), (true, 3)] fun T hT => ?_
  iterate 2 refine tk ?_
  refine ck Tryz.call96 (fun w' hw => rmay_far (a) (n) _ _ _ (by omega) (HF.out.r 0 rfl hw) (HF.out.r 1 rfl hw)) ?_
  refine tk ?_
  refine nlS hT HF fun vw1 HG => ?_
  clear hT T HF lx23
  go_wp2
  refine hK.out _ _ ?_; clear hK K
  show Code.wp _ _ _ _ _
  have HF := HG; clear HG
  refine wp_seq ?_
  refine kS fun K hK => ?_
  refine sq 2 [(true, 0), (true, 1)] fun T hT => ?_
  iterate 2 refine tk ?_
  refine nlS hT HF fun vw2 HG => ?_
  clear hT T HF
  go_wp2
  refine hK.out _ _ ?_; clear hK K
  show Code.wp _ _ _ _ _
  have HF := HG; clear HG
  refine wp_cond_true (by rfl) ?_
  have lx24 := HF.out.c 3 rfl; have fx24 := HF.out.f 3 rfl
  have lx25 := HF.out.c 4 rfl; have fx25 := HF.out.f 4 rfl
  have lx26 := HF.out.c 5 rfl; have fx26 := HF.out.f 5 rfl
  have r0 := Gr.refl vw2
  obtain ⟨d24_25, d25_24⟩ := HF.out.ne 3 4 rfl rfl (by decide)
  obtain ⟨d24_26, d26_24⟩ := HF.out.ne 3 5 rfl rfl (by decide)
  obtain ⟨d25_26, d26_25⟩ := HF.out.ne 4 5 rfl rfl (by decide)
  refine kS fun K hK => ?_
  go_region
  go_wp2
  refine hK.out _ _ ?_; clear hK K
  show Code.wp _ _ _ _ _
  clear r0 lx24 fx24 lx25 fx25 lx26 fx26 d24_25 d25_24 d24_26 d26_24 d25_26 d26_25
  refine fH (((((((HF.out).put2 3 0 rfl).put 3 2 _ rfl).put2 4 0 rfl).put 4 2 _ rfl).er 5).gr ((Below.refl _ _).drew)) fun Wx4 HG => ?_
  clear HF; have HF := HG; clear HG
  refine wp_ret ?_
  try simp only [Exit.then, Exit.inBlock]
  have lx24 := HF.out.c 3 rfl
  have lx25 := HF.out.c 4 rfl
  have r0 := Gr.refl Wx4
  exact bodyPost_ret (v := .tuple #[(.agg #[.bool false, .slice none 0 0, .slice none 0 0]), (.agg #[.bool false, .slice none 0 0, .slice none 0 0]), .int .i64 3]) (by simp [results, Tryz.results26, go_sem, lx24 _ r0, lx25 _ r0]) rfl ⟨rfl, HF.out.1⟩

set_option maxRecDepth 20000 in
set_option maxHeartbeats 4000000 in
theorem rboth_neg (a : Rat) (k : Nat) (va1 va2 : Value) (w : World) (hk : k ≤ 100) (HA : Hid (a < 0)) (bx21 : Rn w va1 (Int.natAbs ((a).num))) (bx22 : Rn w va2 ((a).den - 1)) :
    Calls Tryz.prog 26 #[(Value.agg #[.bool (decide ((a).num < 0)), va1, va2]), .int .i64 (((k : Nat) : Int))] w fun e w' => e = .returned ((.tuple #[(.agg #[.bool false, .slice none 0 0, .slice none 0 0]), (.agg #[.bool false, .slice none 0 0, .slice none 0 0]), .int .i64 1])) ∧ Below w.heap.size w w' := by
  obtain ⟨ao_va1, n_va1, c_va1, rfl⟩ := Rn.sl bx21
  obtain ⟨ao_va2, n_va2, c_va2, rfl⟩ := Rn.sl bx22
  go_enter Tryz.func26, Tryz.ntmps26
  have HF := Lib.hid (hp0 w)
  replace HF := Lib.hid ((HF.out.ar bx21).ar bx22)
  simp only [lF, lG] at HF
  clear bx21 bx22
  refine kS fun K hK => ?_
  refine wp_region_lit ?_
  go_wp2
  refine hK.out _ _ ?_; clear hK K
  show Code.wp _ _ _ _ _
  refine fH ((((HF.out).al (b := w.heap.size) (by first | rfl | simp) (by decide)).al (b := w.heap.size + 1) (by first | rfl | simp) (by decide)).al (b := w.heap.size + 1 + 1) (by first | rfl | simp) (by decide)) fun Wx0 HG => ?_
  clear HF; have HF := HG; clear HG
  generalize w.heap.size + 1 + 1 = gx25 at *
  generalize w.heap.size + 1 = gx24 at *
  refine kS fun K hK => ?_
  refine wp_region_lit ?_
  go_wp2
  refine hK.out _ _ ?_; clear hK K
  show Code.wp _ _ _ _ _
  refine fH ((HF.out).al (b := Wx0.heap.size) (by first | rfl | simp) (by decide)) fun Wx1 HG => ?_
  clear HF; have HF := HG; clear HG
  generalize Wx0.heap.size = gx26 at *
  have lx23 := HF.out.c 2 rfl
  refine kS fun K hK => ?_
  refine sq 4 [(true, 0), (true, 1), (true, 2), (true, 3)] fun T hT => ?_
  iterate 2 refine tk ?_
  refine ck Tryz.call96 (fun w' hw => rmay_neg (a) k _ _ _ (by omega) (Lib.hid (by first | exact ok | exact HA.out)) (HF.out.r 0 rfl hw) (HF.out.r 1 rfl hw)) ?_
  refine tk ?_
  refine nlS hT HF fun vw1 HG => ?_
  clear hT T HF lx23
  go_wp2
  refine hK.out _ _ ?_; clear hK K
  show Code.wp _ _ _ _ _
  have HF := HG; clear HG
  refine wp_seq ?_
  refine kS fun K hK => ?_
  refine sq 2 [(true, 0), (true, 1)] fun T hT => ?_
  iterate 2 refine tk ?_
  refine nlS hT HF fun vw2 HG => ?_
  clear hT T HF
  go_wp2
  refine hK.out _ _ ?_; clear hK K
  show Code.wp _ _ _ _ _
  have HF := HG; clear HG
  refine wp_cond_true (by rfl) ?_
  have lx24 := HF.out.c 3 rfl; have fx24 := HF.out.f 3 rfl
  have lx25 := HF.out.c 4 rfl; have fx25 := HF.out.f 4 rfl
  have lx26 := HF.out.c 5 rfl; have fx26 := HF.out.f 5 rfl
  have r0 := Gr.refl vw2
  obtain ⟨d24_25, d25_24⟩ := HF.out.ne 3 4 rfl rfl (by decide)
  obtain ⟨d24_26, d26_24⟩ := HF.out.ne 3 5 rfl rfl (by decide)
  obtain ⟨d25_26, d26_25⟩ := HF.out.ne 4 5 rfl rfl (by decide)
  refine kS fun K hK => ?_
  go_region
  go_wp2
  refine hK.out _ _ ?_; clear hK K
  show Code.wp _ _ _ _ _
  clear r0 lx24 fx24 lx25 fx25 lx26 fx26 d24_25 d25_24 d24_26 d26_24 d25_26 d26_25
  refine fH (((((((HF.out).put2 3 0 rfl).put 3 2 _ rfl).put2 4 0 rfl).put 4 2 _ rfl).er 5).gr ((Below.refl _ _).drew)) fun Wx4 HG => ?_
  clear HF; have HF := HG; clear HG
  refine wp_ret ?_
  try simp only [Exit.then, Exit.inBlock]
  have lx24 := HF.out.c 3 rfl
  have lx25 := HF.out.c 4 rfl
  have r0 := Gr.refl Wx4
  exact bodyPost_ret (v := .tuple #[(.agg #[.bool false, .slice none 0 0, .slice none 0 0]), (.agg #[.bool false, .slice none 0 0, .slice none 0 0]), .int .i64 1]) (by simp [results, Tryz.results26, go_sem, lx24 _ r0, lx25 _ r0]) rfl ⟨rfl, HF.out.1⟩

set_option maxRecDepth 20000 in
set_option maxHeartbeats 4000000 in
theorem rboth_e (a l : Rat) (k N : Nat) (va1 va2 : Value) (w : World) (HA : Hid (0 ≤ a)) (HAN : Hid (a < tq N * tq N)) (hN : N ≤ 40) (hk : k ≤ 100) (hs : rz a ≤ 300) (HL : Hid (rlo a k = l)) (hsl : rz l ≤ 200) (HSQ : Hid (l * l = a)) (bx21 : Rn w va1 (Int.natAbs ((a).num))) (bx22 : Rn w va2 ((a).den - 1)) :
    Calls Tryz.prog 26 #[(Value.agg #[.bool (decide ((a).num < 0)), va1, va2]), .int .i64 (((k : Nat) : Int))] w fun e w' => (∃ r1 r2 r3 r4 : Value, e = .returned (.tuple #[(.agg #[.bool (decide ((l).num < 0)), r1, r2]), (.agg #[.bool (decide ((l).num < 0)), r3, r4]), .int .i64 0]) ∧ Rn w' r1 (Int.natAbs ((l).num)) ∧ Rn w' r2 ((l).den - 1) ∧ Rn w' r3 (Int.natAbs ((l).num)) ∧ Rn w' r4 ((l).den - 1)) ∧ Below w.heap.size w w' := by
  obtain ⟨ao_va1, n_va1, c_va1, rfl⟩ := Rn.sl bx21
  obtain ⟨ao_va2, n_va2, c_va2, rfl⟩ := Rn.sl bx22
  go_enter Tryz.func26, Tryz.ntmps26
  have HF := Lib.hid (hp0 w)
  replace HF := Lib.hid ((HF.out.ar bx21).ar bx22)
  simp only [lF, lG] at HF
  clear bx21 bx22
  refine kS fun K hK => ?_
  refine wp_region_lit ?_
  go_wp2
  refine hK.out _ _ ?_; clear hK K
  show Code.wp _ _ _ _ _
  refine fH ((((HF.out).al (b := w.heap.size) (by first | rfl | simp) (by decide)).al (b := w.heap.size + 1) (by first | rfl | simp) (by decide)).al (b := w.heap.size + 1 + 1) (by first | rfl | simp) (by decide)) fun Wx0 HG => ?_
  clear HF; have HF := HG; clear HG
  generalize w.heap.size + 1 + 1 = gx25 at *
  generalize w.heap.size + 1 = gx24 at *
  refine kS fun K hK => ?_
  refine wp_region_lit ?_
  go_wp2
  refine hK.out _ _ ?_; clear hK K
  show Code.wp _ _ _ _ _
  refine fH ((HF.out).al (b := Wx0.heap.size) (by first | rfl | simp) (by decide)) fun Wx1 HG => ?_
  clear HF; have HF := HG; clear HG
  generalize Wx0.heap.size = gx26 at *
  have lx23 := HF.out.c 2 rfl
  refine kS fun K hK => ?_
  refine sq 4 [(true, 0), (true, 1), (true, 2), (true, 3)] fun T hT => ?_
  iterate 2 refine tk ?_
  refine ck Tryz.call96 (fun w' hw => rmay_ok (a) k _ _ _ _ (by omega) (Lib.hid rfl) (by have e9 := sgQ_nn0 (a := (a)) (by first | exact ok | exact HA.out | exact HNE.out); omega) (HF.out.r 0 rfl hw) (HF.out.r 1 rfl hw)) ?_
  refine tk ?_
  refine nlS hT HF fun vw1 HG => ?_
  clear hT T HF lx23
  go_wp2
  refine hK.out _ _ ?_; clear hK K
  show Code.wp _ _ _ _ _
  have HF := HG; clear HG
  refine wp_seq ?_
  refine kS fun K hK => ?_
  refine sq 2 [(true, 0), (true, 1)] fun T hT => ?_
  iterate 2 refine tk ?_
  refine nlS hT HF fun vw2 HG => ?_
  clear hT T HF
  go_wp2
  refine hK.out _ _ ?_; clear hK K
  show Code.wp _ _ _ _ _
  have HF := HG; clear HG
  refine wp_cond_false (by rfl) ?_
  refine wp_skip ?_
  show Code.wp _ _ _ _ _
  have HZ1 : Hid (rlo (a) k = l) := Lib.hid (HL.out)
  have su1 : rz (l) ≤ 200 := by have e := HZ1.out; first | omega | (rw [← e]; omega)
  have lx23 := HF.out.c 2 rfl
  refine kS fun K hK => ?_
  have HG0 : Hid (Gr vw2 vw2) := Lib.hid (Gr.refl _)
  refine sq 3 [(true, 0), (true, 1), (false, 2)] fun T hT => ?_
  iterate 2 refine tk ?_
  refine wpPlan_callE rfl (by rfl) Tryz.call97 (by rfl) (fun w' hw => (rbelow05 (a) _ (l) k N _ _ _ (Lib.hid (by first | exact ok | exact HA.out | exact HNE.out)) HAN hN (Lib.hid rfl) (Lib.hid HZ1.out) (by omega) (by omega) (HF.out.r 0 rfl (HG0.out.trans hw)) (HF.out.r 1 rfl (HG0.out.trans hw))).mono ?_)
  rintro e vv28 ⟨⟨rv1, rv2, rfl, bx28, bx29⟩, hg0⟩
  obtain ⟨ao1, nn1, cc1, rfl⟩ := Rn.sl bx28
  obtain ⟨ao2, nn2, cc2, rfl⟩ := Rn.sl bx29
  refine ⟨_, rfl, hg0, ?_⟩
  replace hg0 := Gr.trans hw hg0; clear hw
  replace HG0 := Lib.hid (HG0.out.trans hg0)
  have HGS := Lib.hid hg0; clear hg0
  clear HGS
  have RN28 := Lib.hid bx28; clear bx28
  have RN29 := Lib.hid bx29; clear bx29
  clear lx23; have lx23 := fun w' (h : Gr _ w') => HF.out.c 2 rfl w' (HG0.out.trans h)
  simp only [Act.put, lA, lB, lC]
  refine wpPlan_nil (hT.out _ _ ?_)
  intro vw3 hg
  simp only [puts, Act.put, lA, lB, lC, lD, lE, ↓reduceIte, Nat.reduceEqDiff]
  have HG := Lib.hid (((HF.out.gr (HG0.out.trans hg)).ar (RN28.out.gr hg)).ar (RN29.out.gr hg))
  simp only [List.zip_cons_cons, List.zip_nil_right, List.map_cons, List.map_nil, lF, lG] at HG
  clear hT T HF hg HG0 RN28 RN29 lx23
  go_wp2
  refine hK.out _ _ ?_; clear hK K
  show Code.wp _ _ _ _ _
  refine fH (((HG.out).al (b := vw3.heap.size) (by first | rfl | simp) (by decide)).er 5) fun Wx5 HF => ?_
  clear HG
  generalize vw3.heap.size = gx30 at *
  refine wp_seq ?_
  have HZ2 : Hid ((l) * (l) = a) := Lib.hid (HSQ.out)
  have su2 : rz (a) ≤ 400 := by have e := HZ2.out; first | omega | (rw [← e]; have := rz_mul (l) (l); omega)
  have lx23 := HF.out.c 2 rfl
  have lx30 := HF.out.c 7 rfl
  refine kS fun K hK => ?_
  have HG0 : Hid (Gr Wx5 Wx5) := Lib.hid (Gr.refl _)
  refine pd 3 [(true, 0), (true, 2), (false, 1)] fun T hT => ?_
  iterate 2 refine tk ?_
  refine wpPlan_callE rfl (by rfl) Tryz.call99 (by rfl) (fun w' hw => (qsquare_any (l) (a) _ _ _ (Lib.hid HZ2.out) (by omega) (HF.out.r 5 rfl (HG0.out.trans hw)) (HF.out.r 6 rfl (HG0.out.trans hw))).mono ?_)
  rintro e vv31 ⟨⟨rv3, rv4, rfl, bx31, bx32⟩, hg0⟩
  obtain ⟨ao3, nn3, cc3, rfl⟩ := Rn.sl bx31
  obtain ⟨ao4, nn4, cc4, rfl⟩ := Rn.sl bx32
  refine ⟨_, rfl, hg0, ?_⟩
  replace hg0 := Gr.trans hw hg0; clear hw
  replace HG0 := Lib.hid (HG0.out.trans hg0)
  have HGS := Lib.hid hg0; clear hg0
  clear HGS
  have RN31 := Lib.hid bx31; clear bx31
  have RN32 := Lib.hid bx32; clear bx32
  clear lx23; have lx23 := fun w' (h : Gr _ w') => HF.out.c 2 rfl w' (HG0.out.trans h)
  clear lx30; have lx30 := fun w' (h : Gr _ w') => HF.out.c 7 rfl w' (HG0.out.trans h)
  simp only [Act.put, lA, lB, lC]
  refine wpPlan_nil (hT.out _ _ ?_)
  intro G vw4 hg hf
  simp only [puts, Act.put, lA, lB, lC, lD, lE, ↓reduceIte, Nat.reduceEqDiff]
  have HG := Lib.hid (((HF.out.gr (HG0.out.trans hg)).ar (RN31.out.gr hg)).ar (RN32.out.gr hg))
  simp only [List.zip_cons_cons, List.zip_nil_right, List.map_cons, List.map_nil, lF, lG] at HG
  clear hT T HF hg hf HG0 RN31 RN32 lx23 lx30
  have hw := Gr.refl vw4
  have HF := HG
  go_wp2_with fail
  refine (qsame_y (a) (a) _ _ _ _ _ (Lib.hid (by first | exact ok | exact HA.out | exact HNE.out)) (by omega) (by omega) (HF.out.r 8 rfl hw) (HF.out.r 9 rfl hw) (HF.out.r 0 rfl hw) (HF.out.r 1 rfl hw)).mono ?_
  rintro e vw4t ⟨rfl, hbt⟩
  replace HG := Lib.hid (HG.out.gr hbt); clear hbt hw HF
  go_wp2
  refine hK.out _ _ ?_; clear hK K
  show Code.wp _ _ _ _ _
  refine fH ((((((HG.out).er 9).er 8).er 2).er 1).er 0) fun Wx6 HF => ?_
  clear HG
  refine wp_cond_true (by rfl) ?_
  have lx24 := HF.out.c 0 rfl; have fx24 := HF.out.f 0 rfl
  have lx25 := HF.out.c 1 rfl; have fx25 := HF.out.f 1 rfl
  have lx30 := HF.out.c 4 rfl; have fx30 := HF.out.f 4 rfl
  have r0 := Gr.refl Wx6
  obtain ⟨d24_25, d25_24⟩ := HF.out.ne 0 1 rfl rfl (by decide)
  obtain ⟨d24_30, d30_24⟩ := HF.out.ne 0 4 rfl rfl (by decide)
  obtain ⟨d25_30, d30_25⟩ := HF.out.ne 1 4 rfl rfl (by decide)
  refine kS fun K hK => ?_
  go_region
  go_wp2
  refine hK.out _ _ ?_; clear hK K
  show Code.wp _ _ _ _ _
  clear r0 lx24 fx24 lx25 fx25 lx30 fx30 d24_25 d25_24 d24_30 d30_24 d25_30 d30_25
  refine fH ((((((HF.out).put2 0 0 rfl).put 0 2 _ rfl).put2 1 0 rfl).put 1 2 _ rfl).gr ((Below.refl _ _).drew)) fun Wx7 HG => ?_
  clear HF; have HF := HG; clear HG
  refine wp_ret ?_
  try simp only [Exit.then, Exit.inBlock]
  have lx24 := HF.out.c 0 rfl
  have lx25 := HF.out.c 1 rfl
  have r0 := Gr.refl Wx7
  exact bodyPost_ret (v := .tuple #[(.agg #[.bool (decide ((l).num < 0)), (.slice ao1 nn1 cc1), (.slice ao2 nn2 cc2)]), (.agg #[.bool (decide ((l).num < 0)), (.slice ao1 nn1 cc1), (.slice ao2 nn2 cc2)]), .int .i64 0]) (by simp [results, Tryz.results26, go_sem, lx24 _ r0, lx25 _ r0]) rfl ⟨⟨(.slice ao1 nn1 cc1), (.slice ao2 nn2 cc2), (.slice ao1 nn1 cc1), (.slice ao2 nn2 cc2), rfl, (HF.out.rn 2 rfl), (HF.out.rn 3 rfl), (HF.out.rn 2 rfl), (HF.out.rn 3 rfl)⟩, HF.out.1⟩

set_option maxRecDepth 20000 in
set_option maxHeartbeats 4000000 in
theorem rboth_n (a l : Rat) (k N : Nat) (st h : Rat) (va1 va2 : Value) (w : World) (HA : Hid (0 ≤ a)) (HAN : Hid (a < tq N * tq N)) (hN : N ≤ 40) (hk : k ≤ 100) (hs : rz a ≤ 300) (HL : Hid (rlo a k = l)) (hsl : rz l ≤ 200) (HNE : Hid (¬ l * l = a)) (HST : Hid (hq k = st)) (HADD : Hid (l + st = h)) (bx21 : Rn w va1 (Int.natAbs ((a).num))) (bx22 : Rn w va2 ((a).den - 1)) :
    Calls Tryz.prog 26 #[(Value.agg #[.bool (decide ((a).num < 0)), va1, va2]), .int .i64 (((k : Nat) : Int))] w fun e w' => (∃ r1 r2 r3 r4 : Value, e = .returned (.tuple #[(.agg #[.bool (decide ((l).num < 0)), r1, r2]), (.agg #[.bool (decide ((h).num < 0)), r3, r4]), .int .i64 0]) ∧ Rn w' r1 (Int.natAbs ((l).num)) ∧ Rn w' r2 ((l).den - 1) ∧ Rn w' r3 (Int.natAbs ((h).num)) ∧ Rn w' r4 ((h).den - 1)) ∧ Below w.heap.size w w' := by
  obtain ⟨ao_va1, n_va1, c_va1, rfl⟩ := Rn.sl bx21
  obtain ⟨ao_va2, n_va2, c_va2, rfl⟩ := Rn.sl bx22
  go_enter Tryz.func26, Tryz.ntmps26
  have HF := Lib.hid (hp0 w)
  replace HF := Lib.hid ((HF.out.ar bx21).ar bx22)
  simp only [lF, lG] at HF
  clear bx21 bx22
  refine kS fun K hK => ?_
  refine wp_region_lit ?_
  go_wp2
  refine hK.out _ _ ?_; clear hK K
  show Code.wp _ _ _ _ _
  refine fH ((((HF.out).al (b := w.heap.size) (by first | rfl | simp) (by decide)).al (b := w.heap.size + 1) (by first | rfl | simp) (by decide)).al (b := w.heap.size + 1 + 1) (by first | rfl | simp) (by decide)) fun Wx0 HG => ?_
  clear HF; have HF := HG; clear HG
  generalize w.heap.size + 1 + 1 = gx25 at *
  generalize w.heap.size + 1 = gx24 at *
  refine kS fun K hK => ?_
  refine wp_region_lit ?_
  go_wp2
  refine hK.out _ _ ?_; clear hK K
  show Code.wp _ _ _ _ _
  refine fH ((HF.out).al (b := Wx0.heap.size) (by first | rfl | simp) (by decide)) fun Wx1 HG => ?_
  clear HF; have HF := HG; clear HG
  generalize Wx0.heap.size = gx26 at *
  have lx23 := HF.out.c 2 rfl
  refine kS fun K hK => ?_
  refine sq 4 [(true, 0), (true, 1), (true, 2), (true, 3)] fun T hT => ?_
  iterate 2 refine tk ?_
  refine ck Tryz.call96 (fun w' hw => rmay_ok (a) k _ _ _ _ (by omega) (Lib.hid rfl) (by have e9 := sgQ_nn0 (a := (a)) (by first | exact ok | exact HA.out | exact HNE.out); omega) (HF.out.r 0 rfl hw) (HF.out.r 1 rfl hw)) ?_
  refine tk ?_
  refine nlS hT HF fun vw1 HG => ?_
  clear hT T HF lx23
  go_wp2
  refine hK.out _ _ ?_; clear hK K
  show Code.wp _ _ _ _ _
  have HF := HG; clear HG
  refine wp_seq ?_
  refine kS fun K hK => ?_
  refine sq 2 [(true, 0), (true, 1)] fun T hT => ?_
  iterate 2 refine tk ?_
  refine nlS hT HF fun vw2 HG => ?_
  clear hT T HF
  go_wp2
  refine hK.out _ _ ?_; clear hK K
  show Code.wp _ _ _ _ _
  have HF := HG; clear HG
  refine wp_cond_false (by rfl) ?_
  refine wp_skip ?_
  show Code.wp _ _ _ _ _
  have HZ1 : Hid (rlo (a) k = l) := Lib.hid (HL.out)
  have su1 : rz (l) ≤ 200 := by have e := HZ1.out; first | omega | (rw [← e]; omega)
  have lx23 := HF.out.c 2 rfl
  refine kS fun K hK => ?_
  have HG0 : Hid (Gr vw2 vw2) := Lib.hid (Gr.refl _)
  refine sq 3 [(true, 0), (true, 1), (false, 2)] fun T hT => ?_
  iterate 2 refine tk ?_
  refine wpPlan_callE rfl (by rfl) Tryz.call97 (by rfl) (fun w' hw => (rbelow05 (a) _ (l) k N _ _ _ (Lib.hid (by first | exact ok | exact HA.out | exact HNE.out)) HAN hN (Lib.hid rfl) (Lib.hid HZ1.out) (by omega) (by omega) (HF.out.r 0 rfl (HG0.out.trans hw)) (HF.out.r 1 rfl (HG0.out.trans hw))).mono ?_)
  rintro e vv28 ⟨⟨rv1, rv2, rfl, bx28, bx29⟩, hg0⟩
  obtain ⟨ao1, nn1, cc1, rfl⟩ := Rn.sl bx28
  obtain ⟨ao2, nn2, cc2, rfl⟩ := Rn.sl bx29
  refine ⟨_, rfl, hg0, ?_⟩
  replace hg0 := Gr.trans hw hg0; clear hw
  replace HG0 := Lib.hid (HG0.out.trans hg0)
  have HGS := Lib.hid hg0; clear hg0
  clear HGS
  have RN28 := Lib.hid bx28; clear bx28
  have RN29 := Lib.hid bx29; clear bx29
  clear lx23; have lx23 := fun w' (h : Gr _ w') => HF.out.c 2 rfl w' (HG0.out.trans h)
  simp only [Act.put, lA, lB, lC]
  refine wpPlan_nil (hT.out _ _ ?_)
  intro vw3 hg
  simp only [puts, Act.put, lA, lB, lC, lD, lE, ↓reduceIte, Nat.reduceEqDiff]
  have HG := Lib.hid (((HF.out.gr (HG0.out.trans hg)).ar (RN28.out.gr hg)).ar (RN29.out.gr hg))
  simp only [List.zip_cons_cons, List.zip_nil_right, List.map_cons, List.map_nil, lF, lG] at HG
  clear hT T HF hg HG0 RN28 RN29 lx23
  go_wp2
  refine hK.out _ _ ?_; clear hK K
  show Code.wp _ _ _ _ _
  refine fH (((HG.out).al (b := vw3.heap.size) (by first | rfl | simp) (by decide)).er 5) fun Wx5 HF => ?_
  clear HG
  generalize vw3.heap.size = gx30 at *
  refine wp_seq ?_
  obtain ⟨u2, HZ2⟩ : ∃ z, Hid ((l) * (l) = z) := ⟨_, Lib.hid rfl⟩
  have su2 : rz (u2) ≤ 400 := by rw [← HZ2.out]; have := rz_mul (l) (l); omega
  have lx23 := HF.out.c 2 rfl
  have lx30 := HF.out.c 7 rfl
  refine kS fun K hK => ?_
  have HG0 : Hid (Gr Wx5 Wx5) := Lib.hid (Gr.refl _)
  refine pd 3 [(true, 0), (true, 2), (false, 1)] fun T hT => ?_
  iterate 2 refine tk ?_
  refine wpPlan_callE rfl (by rfl) Tryz.call99 (by rfl) (fun w' hw => (qsquare_any (l) (u2) _ _ _ (Lib.hid HZ2.out) (by omega) (HF.out.r 5 rfl (HG0.out.trans hw)) (HF.out.r 6 rfl (HG0.out.trans hw))).mono ?_)
  rintro e vv31 ⟨⟨rv3, rv4, rfl, bx31, bx32⟩, hg0⟩
  obtain ⟨ao3, nn3, cc3, rfl⟩ := Rn.sl bx31
  obtain ⟨ao4, nn4, cc4, rfl⟩ := Rn.sl bx32
  refine ⟨_, rfl, hg0, ?_⟩
  replace hg0 := Gr.trans hw hg0; clear hw
  replace HG0 := Lib.hid (HG0.out.trans hg0)
  have HGS := Lib.hid hg0; clear hg0
  clear HGS
  have RN31 := Lib.hid bx31; clear bx31
  have RN32 := Lib.hid bx32; clear bx32
  clear lx23; have lx23 := fun w' (h : Gr _ w') => HF.out.c 2 rfl w' (HG0.out.trans h)
  clear lx30; have lx30 := fun w' (h : Gr _ w') => HF.out.c 7 rfl w' (HG0.out.trans h)
  simp only [Act.put, lA, lB, lC]
  refine wpPlan_nil (hT.out _ _ ?_)
  intro G vw4 hg hf
  simp only [puts, Act.put, lA, lB, lC, lD, lE, ↓reduceIte, Nat.reduceEqDiff]
  have HG := Lib.hid (((HF.out.gr (HG0.out.trans hg)).ar (RN31.out.gr hg)).ar (RN32.out.gr hg))
  simp only [List.zip_cons_cons, List.zip_nil_right, List.map_cons, List.map_nil, lF, lG] at HG
  clear hT T HF hg hf HG0 RN31 RN32 lx23 lx30
  have hw := Gr.refl vw4
  have HF := HG
  go_wp2_with fail
  refine (qsame_no (u2) (a) _ _ _ _ _ (by first | exact ok | exact HA.out | exact HNE.out | (simp only [← HZ2.out] <;> first | exact ok | exact HA.out | exact HNE.out)) (by omega) (by omega) (HF.out.r 8 rfl hw) (HF.out.r 9 rfl hw) (HF.out.r 0 rfl hw) (HF.out.r 1 rfl hw)).mono ?_
  rintro e vw4t ⟨rfl, hbt⟩
  replace HG := Lib.hid (HG.out.gr hbt); clear hbt hw HF
  go_wp2
  refine hK.out _ _ ?_; clear hK K
  show Code.wp _ _ _ _ _
  refine fH ((((((HG.out).er 9).er 8).er 2).er 1).er 0) fun Wx6 HF => ?_
  clear HG
  refine wp_cond_false (by rfl) ?_
  refine wp_skip ?_
  show Code.wp _ _ _ _ _
  have HZ3 : Hid (hq k = st) := Lib.hid (HST.out)
  have su3 : rz (st) ≤ 12 := by have e := HZ3.out; first | omega | (rw [← e]; exact rz_hq (by omega))
  have HZ4 : Hid ((l) + (st) = h) := Lib.hid (HADD.out)
  have su4 : rz (h) ≤ 213 := by have e := HZ4.out; first | omega | (rw [← e]; have := rz_add (l) (st); omega)
  have lx30 := HF.out.c 4 rfl
  refine kS fun K hK => ?_
  have HG0 : Hid (Gr Wx6 Wx6) := Lib.hid (Gr.refl _)
  refine pd 5 [(true, 0), (true, 1), (true, 2), (false, 3), (false, 4)] fun T hT => ?_
  iterate 3 refine tk ?_
  refine wpPlan_callE rfl (by rfl) Tryz.call101 (by rfl) (fun w' hw => (rstep_any (st) k _ (Lib.hid HZ3.out) (by omega)).mono ?_)
  rintro e vv33 ⟨⟨rv5, rv6, rfl, bx33, bx34⟩, hg0⟩
  obtain ⟨ao5, nn5, cc5, rfl⟩ := Rn.sl bx33
  obtain ⟨ao6, nn6, cc6, rfl⟩ := Rn.sl bx34
  refine ⟨_, rfl, hg0, ?_⟩
  replace hg0 := Gr.trans hw hg0; clear hw
  replace HG0 := Lib.hid (HG0.out.trans hg0)
  have HGS := Lib.hid hg0; clear hg0
  clear HGS
  have RN33 := Lib.hid bx33; clear bx33
  have RN34 := Lib.hid bx34; clear bx34
  clear lx30; have lx30 := fun w' (h : Gr _ w') => HF.out.c 4 rfl w' (HG0.out.trans h)
  simp only [Act.put, lA, lB, lC]
  refine wpPlan_callE rfl (by rfl) Tryz.call100 (by rfl) (fun w' hw => (qadd_any (l) (st) (h) _ _ _ _ _ HZ4.out (by omega) (by omega) (HF.out.r 2 rfl (HG0.out.trans hw)) (HF.out.r 3 rfl (HG0.out.trans hw)) (RN33.out.gr hw) (RN34.out.gr hw)).mono ?_)
  rintro e vv35 ⟨⟨rv7, rv8, rfl, bx35, bx36⟩, hg0⟩
  obtain ⟨ao7, nn7, cc7, rfl⟩ := Rn.sl bx35
  obtain ⟨ao8, nn8, cc8, rfl⟩ := Rn.sl bx36
  refine ⟨_, rfl, hg0, ?_⟩
  replace hg0 := Gr.trans hw hg0; clear hw
  replace HG0 := Lib.hid (HG0.out.trans hg0)
  have HGS := Lib.hid hg0; clear hg0
  replace RN33 := Lib.hid (RN33.out.gr HGS.out)
  replace RN34 := Lib.hid (RN34.out.gr HGS.out)
  clear HGS
  have RN35 := Lib.hid bx35; clear bx35
  have RN36 := Lib.hid bx36; clear bx36
  clear lx30; have lx30 := fun w' (h : Gr _ w') => HF.out.c 4 rfl w' (HG0.out.trans h)
  simp only [Act.put, lA, lB, lC]
  refine wpPlan_nil (hT.out _ _ ?_)
  intro G vw5 hg hf
  simp only [puts, Act.put, lA, lB, lC, lD, lE, ↓reduceIte, Nat.reduceEqDiff]
  have HG := Lib.hid (((((HF.out.gr (HG0.out.trans hg)).ar (RN33.out.gr hg)).ar (RN34.out.gr hg)).ar (RN35.out.gr hg)).ar (RN36.out.gr hg))
  simp only [List.zip_cons_cons, List.zip_nil_right, List.map_cons, List.map_nil, lF, lG] at HG
  clear hT T HF hg hf HG0 RN33 RN34 RN35 RN36 lx30
  have lx24 := HG.out.c 0 rfl; have fx24 := HG.out.f 0 rfl
  have lx25 := HG.out.c 1 rfl; have fx25 := HG.out.f 1 rfl
  have r0 := Gr.refl vw5
  obtain ⟨d24_25, d25_24⟩ := HG.out.ne 0 1 rfl rfl (by decide)
  go_wp2
  refine hK.out _ _ ?_; clear hK K
  show Code.wp _ _ _ _ _
  clear r0 lx24 fx24 lx25 fx25 d24_25 d25_24
  refine fH ((((((((HG.out).put2 0 0 rfl).put 0 2 _ rfl).put2 1 0 rfl).put 1 2 _ rfl).er 6).er 5).er 4) fun Wx8 HF => ?_
  clear HG
  refine wp_ret ?_
  try simp only [Exit.then, Exit.inBlock]
  have lx24 := HF.out.c 0 rfl
  have lx25 := HF.out.c 1 rfl
  have r0 := Gr.refl Wx8
  exact bodyPost_ret (v := .tuple #[(.agg #[.bool (decide ((l).num < 0)), (.slice ao1 nn1 cc1), (.slice ao2 nn2 cc2)]), (.agg #[.bool (decide ((h).num < 0)), (.slice ao7 nn7 cc7), (.slice ao8 nn8 cc8)]), .int .i64 0]) (by simp [results, Tryz.results26, go_sem, lx24 _ r0, lx25 _ r0]) rfl ⟨⟨(.slice ao1 nn1 cc1), (.slice ao2 nn2 cc2), (.slice ao7 nn7 cc7), (.slice ao8 nn8 cc8), rfl, (HF.out.rn 2 rfl), (HF.out.rn 3 rfl), (HF.out.rn 4 rfl), (HF.out.rn 5 rfl)⟩, HF.out.1⟩

theorem rboth (a l h : Rat) (k N : Nat) (va1 va2 : Value) (w : World) (ha : 0 ≤ a) (hN1 : a < tq N * tq N) (hN : N ≤ 40) (hl : rlo a k = l) (hh : rhi a k = h) (hk : k ≤ 100) (hs : rz a ≤ 300) (hsl : rz l ≤ 200) (h1 : Rn w va1 (Int.natAbs ((a).num))) (h2 : Rn w va2 ((a).den - 1)) :
    Calls Tryz.prog 26 #[.agg #[.bool (decide ((a).num < 0)), va1, va2], .int .i64 ((k : Nat) : Int)] w fun e w' => (∃ r1 r2 r3 r4 : Value, e = .returned (.tuple #[(.agg #[.bool (decide ((l).num < 0)), r1, r2]), (.agg #[.bool (decide ((h).num < 0)), r3, r4]), .int .i64 0]) ∧ Rn w' r1 (Int.natAbs ((l).num)) ∧ Rn w' r2 ((l).den - 1) ∧ Rn w' r3 (Int.natAbs ((h).num)) ∧ Rn w' r4 ((h).den - 1)) ∧ Below w.heap.size w w' := by
  by_cases he : l * l = a
  · obtain rfl : l = h := by rw [← hh, ← hl]; rw [← hl] at he; exact (rhi_ex he).symm
    exact rboth_e a l k N va1 va2 w (Lib.hid ha) (Lib.hid hN1) hN hk hs (Lib.hid hl) hsl (Lib.hid he) h1 h2
  · exact rboth_n a l k N _ h va1 va2 w (Lib.hid ha) (Lib.hid hN1) hN hk hs (Lib.hid hl) hsl (Lib.hid he) (Lib.hid rfl) (Lib.hid (by rw [← hh, ← hl]; rw [← hl] at he; exact (rhi_st he).symm)) h1 h2
theorem rbothz_lo (a z : Rat) (n : Int) (va1 va2 : Value) (w : World) (hn : n < 0) (hz : (0 : Rat) = z) (h1 : Rn w va1 (Int.natAbs ((a).num))) (h2 : Rn w va2 ((a).den - 1)) :
    Calls Tryz.prog 26 #[.agg #[.bool (decide ((a).num < 0)), va1, va2], .int .i64 n] w fun e w' => (∃ r1 r2 r3 r4 : Value, e = .returned (.tuple #[(.agg #[.bool (decide ((z).num < 0)), r1, r2]), (.agg #[.bool (decide ((z).num < 0)), r3, r4]), .int .i64 1]) ∧ Rn w' r1 (Int.natAbs ((z).num)) ∧ Rn w' r2 ((z).den - 1) ∧ Rn w' r3 (Int.natAbs ((z).num)) ∧ Rn w' r4 ((z).den - 1)) ∧ Below w.heap.size w w' := by
  subst hz
  refine (rboth_lo a n va1 va2 w hn h1 h2).mono ?_
  rintro e w' ⟨rfl, hb⟩
  exact ⟨⟨_, _, _, _, rfl, Rn.zero _, Rn.zero _, Rn.zero _, Rn.zero _⟩, hb⟩
theorem rbothz_far (a z : Rat) (n : Int) (va1 va2 : Value) (w : World) (hn : 100 < n) (hz : (0 : Rat) = z) (h1 : Rn w va1 (Int.natAbs ((a).num))) (h2 : Rn w va2 ((a).den - 1)) :
    Calls Tryz.prog 26 #[.agg #[.bool (decide ((a).num < 0)), va1, va2], .int .i64 n] w fun e w' => (∃ r1 r2 r3 r4 : Value, e = .returned (.tuple #[(.agg #[.bool (decide ((z).num < 0)), r1, r2]), (.agg #[.bool (decide ((z).num < 0)), r3, r4]), .int .i64 3]) ∧ Rn w' r1 (Int.natAbs ((z).num)) ∧ Rn w' r2 ((z).den - 1) ∧ Rn w' r3 (Int.natAbs ((z).num)) ∧ Rn w' r4 ((z).den - 1)) ∧ Below w.heap.size w w' := by
  subst hz
  refine (rboth_far a n va1 va2 w hn h1 h2).mono ?_
  rintro e w' ⟨rfl, hb⟩
  exact ⟨⟨_, _, _, _, rfl, Rn.zero _, Rn.zero _, Rn.zero _, Rn.zero _⟩, hb⟩
theorem rbothz_neg (a z : Rat) (k : Nat) (va1 va2 : Value) (w : World) (hk : k ≤ 100) (ha : a < 0) (hz : (0 : Rat) = z) (h1 : Rn w va1 (Int.natAbs ((a).num))) (h2 : Rn w va2 ((a).den - 1)) :
    Calls Tryz.prog 26 #[.agg #[.bool (decide ((a).num < 0)), va1, va2], .int .i64 ((k : Nat) : Int)] w fun e w' => (∃ r1 r2 r3 r4 : Value, e = .returned (.tuple #[(.agg #[.bool (decide ((z).num < 0)), r1, r2]), (.agg #[.bool (decide ((z).num < 0)), r3, r4]), .int .i64 1]) ∧ Rn w' r1 (Int.natAbs ((z).num)) ∧ Rn w' r2 ((z).den - 1) ∧ Rn w' r3 (Int.natAbs ((z).num)) ∧ Rn w' r4 ((z).den - 1)) ∧ Below w.heap.size w w' := by
  subst hz
  refine (rboth_neg a k va1 va2 w hk (Lib.hid ha) h1 h2).mono ?_
  rintro e w' ⟨rfl, hb⟩
  exact ⟨⟨_, _, _, _, rfl, Rn.zero _, Rn.zero _, Rn.zero _, Rn.zero _⟩, hb⟩
theorem zzBelow_lo (a z : Rat) (n : Int) (w : World) (hn : n < 0) (hz : (0 : Rat) = z) :
    Calls Tryz.prog 23 #[(Value.agg #[.int .u64 ((lo (Int.natAbs ((a).num)) : Nat) : Int), .string (bg (Int.natAbs ((a).num))), .bool (decide (((a).num) < 0)), .int .u64 ((lo ((a).den - 1) : Nat) : Int), .string (bg ((a).den - 1))]), .int .i64 n] w fun e w' => e = .returned (.tuple #[(Value.agg #[.int .u64 ((lo (Int.natAbs ((z).num)) : Nat) : Int), .string (bg (Int.natAbs ((z).num))), .bool (decide (((z).num) < 0)), .int .u64 ((lo ((z).den - 1) : Nat) : Int), .string (bg ((z).den - 1))]), .int .i64 1]) ∧ Below w.heap.size w w' := hz ▸ zBelow_lo a n w hn
theorem zzBelow_far (a z : Rat) (n : Int) (w : World) (hn : 100 < n) (hz : (0 : Rat) = z) :
    Calls Tryz.prog 23 #[(Value.agg #[.int .u64 ((lo (Int.natAbs ((a).num)) : Nat) : Int), .string (bg (Int.natAbs ((a).num))), .bool (decide (((a).num) < 0)), .int .u64 ((lo ((a).den - 1) : Nat) : Int), .string (bg ((a).den - 1))]), .int .i64 n] w fun e w' => e = .returned (.tuple #[(Value.agg #[.int .u64 ((lo (Int.natAbs ((z).num)) : Nat) : Int), .string (bg (Int.natAbs ((z).num))), .bool (decide (((z).num) < 0)), .int .u64 ((lo ((z).den - 1) : Nat) : Int), .string (bg ((z).den - 1))]), .int .i64 3]) ∧ Below w.heap.size w w' := hz ▸ zBelow_far a n w hn
theorem zzBelow_neg (a z : Rat) (k : Nat) (w : World) (ha : a < 0) (hk : k ≤ 100) (hz : (0 : Rat) = z) :
    Calls Tryz.prog 23 #[(Value.agg #[.int .u64 ((lo (Int.natAbs ((a).num)) : Nat) : Int), .string (bg (Int.natAbs ((a).num))), .bool (decide (((a).num) < 0)), .int .u64 ((lo ((a).den - 1) : Nat) : Int), .string (bg ((a).den - 1))]), .int .i64 ((k : Nat) : Int)] w fun e w' => e = .returned (.tuple #[(Value.agg #[.int .u64 ((lo (Int.natAbs ((z).num)) : Nat) : Int), .string (bg (Int.natAbs ((z).num))), .bool (decide (((z).num) < 0)), .int .u64 ((lo ((z).den - 1) : Nat) : Int), .string (bg ((z).den - 1))]), .int .i64 1]) ∧ Below w.heap.size w w' := hz ▸ zBelow_neg a k w ha hk
theorem zzAbove_lo (a z : Rat) (n : Int) (w : World) (hn : n < 0) (hz : (0 : Rat) = z) :
    Calls Tryz.prog 25 #[(Value.agg #[.int .u64 ((lo (Int.natAbs ((a).num)) : Nat) : Int), .string (bg (Int.natAbs ((a).num))), .bool (decide (((a).num) < 0)), .int .u64 ((lo ((a).den - 1) : Nat) : Int), .string (bg ((a).den - 1))]), .int .i64 n] w fun e w' => e = .returned (.tuple #[(Value.agg #[.int .u64 ((lo (Int.natAbs ((z).num)) : Nat) : Int), .string (bg (Int.natAbs ((z).num))), .bool (decide (((z).num) < 0)), .int .u64 ((lo ((z).den - 1) : Nat) : Int), .string (bg ((z).den - 1))]), .int .i64 1]) ∧ Below w.heap.size w w' := hz ▸ zAbove_lo a n w hn
theorem zzAbove_far (a z : Rat) (n : Int) (w : World) (hn : 100 < n) (hz : (0 : Rat) = z) :
    Calls Tryz.prog 25 #[(Value.agg #[.int .u64 ((lo (Int.natAbs ((a).num)) : Nat) : Int), .string (bg (Int.natAbs ((a).num))), .bool (decide (((a).num) < 0)), .int .u64 ((lo ((a).den - 1) : Nat) : Int), .string (bg ((a).den - 1))]), .int .i64 n] w fun e w' => e = .returned (.tuple #[(Value.agg #[.int .u64 ((lo (Int.natAbs ((z).num)) : Nat) : Int), .string (bg (Int.natAbs ((z).num))), .bool (decide (((z).num) < 0)), .int .u64 ((lo ((z).den - 1) : Nat) : Int), .string (bg ((z).den - 1))]), .int .i64 3]) ∧ Below w.heap.size w w' := hz ▸ zAbove_far a n w hn
theorem zzAbove_neg (a z : Rat) (k : Nat) (w : World) (ha : a < 0) (hk : k ≤ 100) (hz : (0 : Rat) = z) :
    Calls Tryz.prog 25 #[(Value.agg #[.int .u64 ((lo (Int.natAbs ((a).num)) : Nat) : Int), .string (bg (Int.natAbs ((a).num))), .bool (decide (((a).num) < 0)), .int .u64 ((lo ((a).den - 1) : Nat) : Int), .string (bg ((a).den - 1))]), .int .i64 ((k : Nat) : Int)] w fun e w' => e = .returned (.tuple #[(Value.agg #[.int .u64 ((lo (Int.natAbs ((z).num)) : Nat) : Int), .string (bg (Int.natAbs ((z).num))), .bool (decide (((z).num) < 0)), .int .u64 ((lo ((z).den - 1) : Nat) : Int), .string (bg ((z).den - 1))]), .int .i64 1]) ∧ Below w.heap.size w w' := hz ▸ zAbove_neg a k w ha hk
theorem rz_rlo {a : Rat} {k M : Nat} (hk : k ≤ 100) (h : sz a ≤ M) : rz (rlo a k) ≤ 3 * (M + 9) := by
  have h1 := sz_rlo hk h
  have h2 := sz_num (rlo a k)
  have h3 := sz_den (rlo a k)
  have h4 := tw_wl (Int.natAbs (rlo a k).num)
  have h5 := tw_wl (rlo a k).den
  exact rz_of (by omega) (by omega)
theorem rz_rhi {a : Rat} {k M : Nat} (hk : k ≤ 100) (h : sz a ≤ M) : rz (rhi a k) ≤ 3 * (M + 10) := by
  have h1 := sz_rhi hk h
  have h2 := sz_num (rhi a k)
  have h3 := sz_den (rhi a k)
  have h4 := tw_wl (Int.natAbs (rhi a k).num)
  have h5 := tw_wl (rhi a k).den
  exact rz_of (by omega) (by omega)
theorem qv_lt (n d : Int) (h2 : n ≤ 9223372036854775807) (h3 : 0 ≤ d) : qv n d < tq 32 * tq 32 := by
  have e : tq 32 * tq 32 = ((18446744073709551616 : Int) : Rat) := by unfold tq; decide +kernel
  have hm : (0 : Rat) < ((max d 1 : Int) : Rat) := Rat.intCast_pos.2 (by omega)
  unfold qv
  rw [e, Rat.div_lt_iff hm, ← Rat.intCast_mul, Rat.intCast_lt_intCast]
  have : (18446744073709551616 : Int) * 1 ≤ 18446744073709551616 * max d 1 := Int.mul_le_mul_of_nonneg_left (by omega) (by decide)
  omega

end Go.Proofs.YtaflakcemiilaaaGreatDoor
