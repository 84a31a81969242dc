
/- RootsRefused: the law's walk. -/
import Derived.Test.YtaflakcemiilaaaGreatDoorRot6
import Derived.Test.YtaflakcemiilaaaGreatDoorPL
import Derived.Test.YtaflakcemiilaaaGreatDoorEarly
namespace Go.Proofs.YtaflakcemiilaaaGreatDoor
open Go.RowKit
set_option linter.unusedSimpArgs false
set_option linter.unusedVariables false
attribute [local go_sem ↓] Go.wp_at_zero Go.wp_at_succ
attribute [local go_sem ↓] eq_nat eq_nat_zero eq_int eq_frac eq_frac_zero
attribute [local go_sem] Instr.field asAgg
theorem one_nn : (0 : Rat) ≤ (1 : Rat) := by decide +kernel
theorem minus_neg (a : Rat) : -(qabs a + (1 : Rat)) < 0 := by have := qabs_nn a; grind
theorem exq_neg {m : Rat} (h : m < 0) : ¬ exq m * exq m = m := fun e => by have := sq_nn (exq m); rw [e] at this; grind
theorem sz_minus {a : Rat} {M : Nat} (h : sz a ≤ M) : sz (-(qabs a + (1 : Rat))) ≤ M + 2 := by
  rw [sz_neg]
  have e1 := sz_add (qabs a) 1
  rw [sz_qabs] at e1
  have e2 : sz (1 : Rat) ≤ 1 := sz_of (wl_le.2 (by decide +kernel)) (wl_le.2 (by decide +kernel))
  omega

set_option maxRecDepth 100000 in
set_option maxHeartbeats 8000000 in
theorem refuse_lo (n d : Int) (a ab mn : Rat) (p : Int) (w : World) (HA0 : Hid (qv n d = a)) (HAB : Hid (qabs a = ab)) (HAB0 : Hid (0 ≤ ab)) (hsab : sz ab ≤ 10) (HMN : Hid (-(ab + (1 : Rat)) = mn)) (HMN0 : Hid (mn < 0)) (HXN : Hid (¬ exq mn * exq mn = mn)) (hsm : sz mn ≤ 20) (h1 : -9223372036854775808 ≤ n) (h2 : n ≤ 9223372036854775807) (h3 : 0 ≤ d) (h4 : d ≤ 4294967295) (hp : p < 0) (HT : Hid (Tab w)) :
    Calls Tryz.prog 5 #[(Value.agg #[.int .i64 (n), .int .u32 (d)]), .int .i64 (p)] w fun e w' => e = .returned (.bool true) ∧ Below w.heap.size w w' := by
  go_enter Tryz.func5, Tryz.ntmps5
  have HF := Lib.hid (hp0 w)
  refine kS fun K hK => ?_
  refine wp_region_lit ?_
  go_wp2
  refine hK.out _ _ ?_; clear hK K
  show Code.wp _ _ _ _ _
  refine fH ((HF.out).al (b := w.heap.size) (by first | rfl | simp) (by decide)) fun Wx0 HG => ?_
  clear HF; have HF := HG; clear HG
  have HZ1 : Hid (qv (n) (d) = a) := Lib.hid (HA0.out)
  have su1 : sz (a) ≤ 4 := by have e := HZ1.out; first | omega | (rw [← e]; exact sz_qv (n) (d) om om om om)
  have lx0 := HF.out.c 0 rfl
  refine kS fun K hK => ?_
  refine sq 2 [(true, 0), (true, 1)] fun T hT => ?_
  refine tk ?_
  refine ck Tryz.call24 (fun w' hw => qv_any (n) (d) (a) _ HZ1.out om om om om) ?_
  refine nlS hT HF fun vw1 HG => ?_
  clear hT T HF lx0
  go_wp2
  refine hK.out _ _ ?_; clear hK K
  show Code.wp _ _ _ _ _
  refine fH (((HG.out).al (b := vw1.heap.size) (by first | rfl | simp) (by decide)).er 0) fun Wx1 HF => ?_
  clear HG
  generalize vw1.heap.size = gx2 at *
  have HZ2 : Hid (qabs (a) = ab) := Lib.hid (HAB.out)
  have su2 : sz (ab) ≤ 4 := by have e := HZ2.out; first | omega | (rw [← e]; rw [sz_qabs]; omega)
  have HZ3 : Hid (((1 : Int) : Rat) = (1 : Rat)) := Lib.hid (by decide +kernel)
  have su3 : sz ((1 : Rat)) ≤ 2 := sz_of (wl_le.2 (by decide +kernel)) (wl_le.2 (by decide +kernel))
  obtain ⟨u4, HZ4⟩ : ∃ z, Hid ((ab) + (1 : Rat) = z) := ⟨_, Lib.hid rfl⟩
  have su4 : sz (u4) ≤ 7 := by rw [← HZ4.out]; have := sz_add (ab) (1 : Rat); omega
  have HZ5 : Hid (-(u4) = mn) := Lib.hid (by rw [← HMN.out]; simp only [← HZ4.out])
  have su5 : sz (mn) ≤ 20 := by have e := HZ5.out; first | omega | (rw [← e]; rw [sz_neg]; omega)
  have lx2 := HF.out.c 0 rfl
  refine kS fun K hK => ?_
  refine sq 5 [(true, 0), (true, 1), (true, 2), (true, 3), (true, 4)] fun T hT => ?_
  refine tk ?_
  refine ck Tryz.call31 (fun w' hw => fabs_any (a) (ab) _ HZ2.out) ?_
  refine ck Tryz.call32 (fun w' hw => fint_any (1) (1 : Rat) _ HZ3.out om om) ?_
  refine ck Tryz.call30 (fun w' hw => fadd_any (ab) (1 : Rat) (u4) _ HZ4.out om om) ?_
  refine ck Tryz.call29 (fun w' hw => fneg_any (u4) (mn) _ HZ5.out) ?_
  refine nlS hT HF fun vw2 HG => ?_
  clear hT T HF lx2
  go_wp2
  refine hK.out _ _ ?_; clear hK K
  show Code.wp _ _ _ _ _
  refine fH ((HG.out).al (b := vw2.heap.size) (by first | rfl | simp) (by decide)) fun Wx2 HF => ?_
  clear HG
  generalize vw2.heap.size = gx3 at *
  have lx3 := HF.out.c 1 rfl
  refine kS fun K hK => ?_
  refine sq 6 [(true, 0), (true, 1), (true, 2), (true, 3), (true, 4), (true, 5)] fun T hT => ?_
  iterate 2 refine tk ?_
  refine ck Tryz.call23 (fun w' hw => zBelow_lo (mn) (p) _ (by omega)) ?_
  iterate 3 refine tk ?_
  refine nlS hT HF fun vw3 HG => ?_
  clear hT T HF lx3
  go_wp2
  refine hK.out _ _ ?_; clear hK K
  show Code.wp _ _ _ _ _
  refine fH ((HG.out).al (b := vw3.heap.size) (by first | rfl | simp) (by decide)) fun Wx3 HF => ?_
  clear HG
  generalize vw3.heap.size = gx4 at *
  have lx2 := HF.out.c 0 rfl
  refine kS fun K hK => ?_
  refine sq 6 [(true, 0), (true, 1), (true, 2), (true, 3), (true, 4), (true, 5)] fun T hT => ?_
  iterate 2 refine tk ?_
  refine ck Tryz.call25 (fun w' hw => zAbove_lo (a) (p) _ (by omega)) ?_
  iterate 3 refine tk ?_
  refine nlS hT HF fun vw4 HG => ?_
  clear hT T HF lx2
  go_wp2
  refine hK.out _ _ ?_; clear hK K
  show Code.wp _ _ _ _ _
  refine fH ((HG.out).al (b := vw4.heap.size) (by first | rfl | simp) (by decide)) fun Wx4 HF => ?_
  clear HG
  generalize vw4.heap.size = gx5 at *
  refine kS fun K hK => ?_
  refine wp_region_lit ?_
  go_wp2
  refine hK.out _ _ ?_; clear hK K
  show Code.wp _ _ _ _ _
  refine fH (HF.out) fun Wx5 HG => ?_
  clear HF; have HF := HG; clear HG
  refine wp_seq ?_
  have hd1 : ¬ (100 < p) := by first | exact ok | exact HMN0.out | exact HXN.out | exact HAN.out | exact HAB.out | exact HAB0.out | exact one_nn | (simp only [← HZ4.out] <;> first | exact ok | exact HMN0.out | exact HXN.out | exact HAN.out | exact HAB.out | exact HAB0.out | exact one_nn)
  refine kS fun K hK => ?_
  refine sq 2 [(true, 0), (true, 1)] fun T hT => ?_
  iterate 2 refine tk ?_
  refine nlS hT HF fun vw5 HG => ?_
  clear hT T HF
  go_wp2
  refine hK.out _ _ ?_; clear hK K
  show Code.wp _ _ _ _ _
  have HF := HG; clear HG
  clear hd1
  refine wp_cond_false (by rfl) ?_
  refine wp_skip ?_
  show Code.wp _ _ _ _ _
  have lx3 := HF.out.c 1 rfl
  refine kS fun K hK => ?_
  refine sq 5 [(true, 0), (true, 1), (true, 2), (true, 3), (true, 4)] fun T hT => ?_
  refine tk ?_
  refine ck Tryz.call33 (fun w' hw => zexact_n (mn) _ _ rfl (by first | exact ok | exact HMN0.out | exact HXN.out | exact HAN.out | exact HAB.out | exact HAB0.out | exact one_nn | (simp only [← HZ4.out] <;> first | exact ok | exact HMN0.out | exact HXN.out | exact HAN.out | exact HAB.out | exact HAB0.out | exact one_nn)) om) ?_
  iterate 3 refine tk ?_
  refine nlS hT HF fun vw6 HG => ?_
  clear hT T HF lx3
  go_wp2
  refine hK.out _ _ ?_; clear hK K
  show Code.wp _ _ _ _ _
  refine fH ((HG.out).al (b := vw6.heap.size) (by first | rfl | simp) (by decide)) fun Wx8 HF => ?_
  clear HG
  generalize vw6.heap.size = gx6 at *
  have lx2 := HF.out.c 0 rfl
  have lx3 := HF.out.c 1 rfl
  refine kS fun K hK => ?_
  refine sq 8 [(true, 0), (true, 1), (true, 2), (true, 3), (true, 4), (true, 5), (true, 6), (true, 7)] fun T hT => ?_
  iterate 2 refine tk ?_
  refine ck Tryz.call34 (fun w' hw => rorder_a (mn) (a) (0 : Rat) _ 0 (fun _ => 0) _ (Lib.hid (fs0 _ _)) (by omega) (Lib.hid (fsz0 _)) (Lib.hid rfl) (by first | omega | exact sz_of (wl_le.2 (by decide +kernel)) (wl_le.2 (by decide +kernel))) om om (Lib.hid (by first | exact ok | exact HMN0.out | exact HXN.out | exact HAN.out | exact HAB.out | exact HAB0.out | exact one_nn | (simp only [← HZ4.out] <;> first | exact ok | exact HMN0.out | exact HXN.out | exact HAN.out | exact HAB.out | exact HAB0.out | exact one_nn)))) ?_
  iterate 5 refine tk ?_
  refine nlS hT HF fun vw7 HG => ?_
  clear hT T HF lx2 lx3
  go_wp2
  refine hK.out _ _ ?_; clear hK K
  show Code.wp _ _ _ _ _
  have HF := HG; clear HG
  have HZ6 : Hid (qabs (a) = ab) := Lib.hid (by first | exact ok | exact HMN0.out | exact HXN.out | exact HAN.out | exact HAB.out | exact HAB0.out | exact one_nn | (simp only [← HZ4.out] <;> first | exact ok | exact HMN0.out | exact HXN.out | exact HAN.out | exact HAB.out | exact HAB0.out | exact one_nn))
  have su6 : sz (ab) ≤ 4 := by have e := HZ6.out; first | omega | (rw [← e]; rw [sz_qabs]; omega)
  have HZ7 : Hid (((1 : Int) : Rat) = (1 : Rat)) := Lib.hid (by decide +kernel)
  have su7 : sz ((1 : Rat)) ≤ 2 := sz_of (wl_le.2 (by decide +kernel)) (wl_le.2 (by decide +kernel))
  have lx2 := HF.out.c 0 rfl
  have lx3 := HF.out.c 1 rfl
  refine kS fun K hK => ?_
  have HG0 : Hid (Gr vw7 vw7) := Lib.hid (Gr.refl _)
  refine wp_region_early 10 [] [] (fun _ => 0) (fun _ => .cells #[] 0) (fun i => (1, #[.int .u64 ((lo (Int.natAbs ((mn).num)) : Nat) : Int), .string (bg (Int.natAbs ((mn).num))), .bool (decide (((mn).num) < 0)), .int .u64 ((lo ((mn).den - 1) : Nat) : Int), .string (bg ((mn).den - 1))], 36)) [(0, 0), (0, 3), (1, 4), (0, 1), (0, 2), (2, 4), (0, 5), (0, 6), (0, 7), (0, 8), (0, 9)] (by kernel_rfl) (by kernel_rfl) (fun i hi => by cases hi) (fun i hi => by cases hi) (fun _ _ _ _ _ h => h) (fun T hT => ?_)
  iterate 2 (refine wpEarly_takeL (v := ?_) rfl (by rfl) (fun w' hw => ?_) ?_; rotate_left; go_simp; with_reducible rfl; simp only [Act.put, lA, lB, lC])
  refine wpEarly_mk rfl (by rfl) (fun w' => ?_) ?_
  · go_simp
  refine wpEarly_callL rfl (by rfl) Tryz.call31 (fun w' hw => fabs_any (a) (ab) _ HZ6.out) (by rfl) ?_
  simp only [Act.put, lA, lB, lC]
  refine wpEarly_callL rfl (by rfl) Tryz.call32 (fun w' hw => fint_any (1) (1 : Rat) _ HZ7.out om om) (by rfl) ?_
  simp only [Act.put, lA, lB, lC]
  refine wpEarly_use rfl (by rfl) (fun gx7 vv7 hg0 yx7 bx7 => ?_)
  clear yx7
  replace HG0 := Lib.hid (HG0.out.trans hg0)
  have HGS := Lib.hid hg0; clear hg0
  clear HGS
  have BX7 := Lib.hid bx7; clear bx7
  clear lx2; have lx2 := fun w' (h : Gr _ w') => HF.out.c 0 rfl w' (HG0.out.trans h)
  clear lx3; have lx3 := fun w' (h : Gr _ w') => HF.out.c 1 rfl w' (HG0.out.trans h)
  simp only [Act.put, lA, lB, lC]
  refine wpEarly_callL rfl (by rfl) Tryz.call34 (fun w' hw => rorder_s (ab) (1 : Rat) (mn) _ 1 (f1_ (mn)) _ (Lib.hid (fs1 BX7.out hw)) (by omega) (Lib.hid (fsz1 om)) (Lib.hid (qsum1 _)) (by first | omega | exact sz_of (wl_le.2 (by decide +kernel)) (wl_le.2 (by decide +kernel))) om om (Lib.hid (by first | exact ok | exact HMN0.out | exact HXN.out | exact HAN.out | exact HAB.out | exact HAB0.out | exact one_nn | (simp only [← HZ4.out] <;> first | exact ok | exact HMN0.out | exact HXN.out | exact HAN.out | exact HAB.out | exact HAB0.out | exact one_nn))) (Lib.hid (by first | exact ok | exact HMN0.out | exact HXN.out | exact HAN.out | exact HAB.out | exact HAB0.out | exact one_nn | (simp only [← HZ4.out] <;> first | exact ok | exact HMN0.out | exact HXN.out | exact HAN.out | exact HAB.out | exact HAB0.out | exact one_nn))) (Lib.hid (by first | exact ok | exact HMN0.out | exact HXN.out | exact HAN.out | exact HAB.out | exact HAB0.out | exact one_nn | (simp only [← HZ4.out] <;> first | exact ok | exact HMN0.out | exact HXN.out | exact HAN.out | exact HAB.out | exact HAB0.out | exact one_nn)))) (by rfl) ?_
  simp only [Act.put, lA, lB, lC]
  iterate 4 (refine wpEarly_takeL (v := ?_) rfl (by rfl) (fun w' hw => ?_) ?_; rotate_left; go_simp; with_reducible rfl; simp only [Act.put, lA, lB, lC])
  refine wpEarly_nil (hT.out _ _ ?_)
  intro G vw8 hg hf
  simp only [puts, Act.put, lA, lB, lC, lD, lE, ↓reduceIte, Nat.reduceEqDiff]
  have HG := Lib.hid (HF.out.gr (HG0.out.trans hg))
  clear hT T HF hg hf HG0 BX7 lx2 lx3
  go_wp2
  refine hK.out _ _ ?_; clear hK K
  show Code.wp _ _ _ _ _
  refine fH ((HG.out).er 1) fun Wx10 HF => ?_
  clear HG
  refine wp_seq ?_
  have lx4 := HF.out.c 1 rfl
  have lx6 := HF.out.c 3 rfl
  refine kS fun K hK => ?_
  refine sq 24 [(true, 0), (true, 1), (true, 2), (true, 3), (true, 4), (true, 5), (true, 6), (true, 7), (true, 8), (true, 9), (true, 10), (true, 11), (true, 12), (true, 13), (true, 14), (true, 15), (true, 16), (true, 17), (true, 18), (true, 19), (true, 20), (true, 21), (true, 22), (true, 23)] fun T hT => ?_
  iterate 24 refine tk ?_
  refine nlS hT HF fun vw9 HG => ?_
  clear hT T HF lx4 lx6
  go_wp2
  refine hK.out _ _ ?_; clear hK K
  show Code.wp _ _ _ _ _
  refine fH ((HG.out).er 3) fun Wx11 HF => ?_
  clear HG
  refine wp_cond_false (by rfl) ?_
  refine wp_skip ?_
  show Code.wp _ _ _ _ _
  refine wp_seq ?_
  have hd2 : p < 0 := by first | exact ok | exact HMN0.out | exact HXN.out | exact HAN.out | exact HAB.out | exact HAB0.out | exact one_nn | (simp only [← HZ4.out] <;> first | exact ok | exact HMN0.out | exact HXN.out | exact HAN.out | exact HAB.out | exact HAB0.out | exact one_nn)
  have lx2 := HF.out.c 0 rfl
  refine kS fun K hK => ?_
  refine sq 11 [(true, 0), (true, 1), (true, 2), (true, 3), (true, 4), (true, 5), (true, 6), (true, 7), (true, 8), (true, 9), (true, 10)] fun T hT => ?_
  iterate 3 refine tk ?_
  iterate 2 refine sk ?_
  iterate 2 refine tk ?_
  iterate 3 refine sk ?_
  refine tk ?_
  refine nlS hT HF fun vw10 HG => ?_
  clear hT T HF lx2
  go_wp2
  refine hK.out _ _ ?_; clear hK K
  show Code.wp _ _ _ _ _
  refine fH ((HG.out).er 0) fun Wx13 HF => ?_
  clear HG
  clear hd2
  refine wp_cond_true (by rfl) ?_
  have HB := HPb HF
  have lx4 := HF.out.c 0 rfl
  have lx5 := HF.out.c 1 rfl
  refine kS fun K hK => ?_
  refine sq 12 [(true, 0), (true, 1), (true, 2), (true, 3), (true, 4), (true, 5), (true, 6), (true, 7), (true, 8), (true, 9), (true, 10), (true, 11)] fun T hT => ?_
  iterate 9 refine tk ?_
  refine ck Tryz.call22 (fun w' hw => works5_any _ (Lib.hid (HT.out.gr (Gr.trans HB.out hw)))) ?_
  iterate 2 refine tk ?_
  refine nlS hT HF fun vw11 HG => ?_
  clear hT T HF lx4 lx5 HB
  go_wp2
  refine hK.out _ _ ?_; clear hK K
  show Code.wp _ _ _ _ _
  refine fH (((HG.out).er 1).er 0) fun Wx14 HF => ?_
  clear HG
  refine wp_ret ?_
  try simp only [Exit.then, Exit.inBlock]
  exact bodyPost_ret (v := .bool true) (by simp [results, Tryz.results5, go_sem]) rfl ⟨rfl, HF.out.1⟩

set_option maxRecDepth 100000 in
set_option maxHeartbeats 8000000 in
theorem refuse_far (n d : Int) (a ab mn : Rat) (p : Int) (w : World) (HA0 : Hid (qv n d = a)) (HAB : Hid (qabs a = ab)) (HAB0 : Hid (0 ≤ ab)) (hsab : sz ab ≤ 10) (HMN : Hid (-(ab + (1 : Rat)) = mn)) (HMN0 : Hid (mn < 0)) (HXN : Hid (¬ exq mn * exq mn = mn)) (hsm : sz mn ≤ 20) (h1 : -9223372036854775808 ≤ n) (h2 : n ≤ 9223372036854775807) (h3 : 0 ≤ d) (h4 : d ≤ 4294967295) (hp : 100 < p) (HT : Hid (Tab w)) :
    Calls Tryz.prog 5 #[(Value.agg #[.int .i64 (n), .int .u32 (d)]), .int .i64 (p)] w fun e w' => e = .returned (.bool true) ∧ Below w.heap.size w w' := by
  go_enter Tryz.func5, Tryz.ntmps5
  have HF := Lib.hid (hp0 w)
  refine kS fun K hK => ?_
  refine wp_region_lit ?_
  go_wp2
  refine hK.out _ _ ?_; clear hK K
  show Code.wp _ _ _ _ _
  refine fH ((HF.out).al (b := w.heap.size) (by first | rfl | simp) (by decide)) fun Wx0 HG => ?_
  clear HF; have HF := HG; clear HG
  have HZ1 : Hid (qv (n) (d) = a) := Lib.hid (HA0.out)
  have su1 : sz (a) ≤ 4 := by have e := HZ1.out; first | omega | (rw [← e]; exact sz_qv (n) (d) om om om om)
  have lx0 := HF.out.c 0 rfl
  refine kS fun K hK => ?_
  refine sq 2 [(true, 0), (true, 1)] fun T hT => ?_
  refine tk ?_
  refine ck Tryz.call24 (fun w' hw => qv_any (n) (d) (a) _ HZ1.out om om om om) ?_
  refine nlS hT HF fun vw1 HG => ?_
  clear hT T HF lx0
  go_wp2
  refine hK.out _ _ ?_; clear hK K
  show Code.wp _ _ _ _ _
  refine fH (((HG.out).al (b := vw1.heap.size) (by first | rfl | simp) (by decide)).er 0) fun Wx1 HF => ?_
  clear HG
  generalize vw1.heap.size = gx2 at *
  have HZ2 : Hid (qabs (a) = ab) := Lib.hid (HAB.out)
  have su2 : sz (ab) ≤ 4 := by have e := HZ2.out; first | omega | (rw [← e]; rw [sz_qabs]; omega)
  have HZ3 : Hid (((1 : Int) : Rat) = (1 : Rat)) := Lib.hid (by decide +kernel)
  have su3 : sz ((1 : Rat)) ≤ 2 := sz_of (wl_le.2 (by decide +kernel)) (wl_le.2 (by decide +kernel))
  obtain ⟨u4, HZ4⟩ : ∃ z, Hid ((ab) + (1 : Rat) = z) := ⟨_, Lib.hid rfl⟩
  have su4 : sz (u4) ≤ 7 := by rw [← HZ4.out]; have := sz_add (ab) (1 : Rat); omega
  have HZ5 : Hid (-(u4) = mn) := Lib.hid (by rw [← HMN.out]; simp only [← HZ4.out])
  have su5 : sz (mn) ≤ 20 := by have e := HZ5.out; first | omega | (rw [← e]; rw [sz_neg]; omega)
  have lx2 := HF.out.c 0 rfl
  refine kS fun K hK => ?_
  refine sq 5 [(true, 0), (true, 1), (true, 2), (true, 3), (true, 4)] fun T hT => ?_
  refine tk ?_
  refine ck Tryz.call31 (fun w' hw => fabs_any (a) (ab) _ HZ2.out) ?_
  refine ck Tryz.call32 (fun w' hw => fint_any (1) (1 : Rat) _ HZ3.out om om) ?_
  refine ck Tryz.call30 (fun w' hw => fadd_any (ab) (1 : Rat) (u4) _ HZ4.out om om) ?_
  refine ck Tryz.call29 (fun w' hw => fneg_any (u4) (mn) _ HZ5.out) ?_
  refine nlS hT HF fun vw2 HG => ?_
  clear hT T HF lx2
  go_wp2
  refine hK.out _ _ ?_; clear hK K
  show Code.wp _ _ _ _ _
  refine fH ((HG.out).al (b := vw2.heap.size) (by first | rfl | simp) (by decide)) fun Wx2 HF => ?_
  clear HG
  generalize vw2.heap.size = gx3 at *
  have lx3 := HF.out.c 1 rfl
  refine kS fun K hK => ?_
  refine sq 6 [(true, 0), (true, 1), (true, 2), (true, 3), (true, 4), (true, 5)] fun T hT => ?_
  iterate 2 refine tk ?_
  refine ck Tryz.call23 (fun w' hw => zBelow_far (mn) (p) _ (by omega)) ?_
  iterate 3 refine tk ?_
  refine nlS hT HF fun vw3 HG => ?_
  clear hT T HF lx3
  go_wp2
  refine hK.out _ _ ?_; clear hK K
  show Code.wp _ _ _ _ _
  refine fH ((HG.out).al (b := vw3.heap.size) (by first | rfl | simp) (by decide)) fun Wx3 HF => ?_
  clear HG
  generalize vw3.heap.size = gx4 at *
  have lx2 := HF.out.c 0 rfl
  refine kS fun K hK => ?_
  refine sq 6 [(true, 0), (true, 1), (true, 2), (true, 3), (true, 4), (true, 5)] fun T hT => ?_
  iterate 2 refine tk ?_
  refine ck Tryz.call25 (fun w' hw => zAbove_far (a) (p) _ (by omega)) ?_
  iterate 3 refine tk ?_
  refine nlS hT HF fun vw4 HG => ?_
  clear hT T HF lx2
  go_wp2
  refine hK.out _ _ ?_; clear hK K
  show Code.wp _ _ _ _ _
  refine fH ((HG.out).al (b := vw4.heap.size) (by first | rfl | simp) (by decide)) fun Wx4 HF => ?_
  clear HG
  generalize vw4.heap.size = gx5 at *
  refine kS fun K hK => ?_
  refine wp_region_lit ?_
  go_wp2
  refine hK.out _ _ ?_; clear hK K
  show Code.wp _ _ _ _ _
  refine fH (HF.out) fun Wx5 HG => ?_
  clear HF; have HF := HG; clear HG
  refine wp_seq ?_
  have hd1 : 100 < p := by first | exact ok | exact HMN0.out | exact HXN.out | exact HAN.out | exact HAB.out | exact HAB0.out | exact one_nn | (simp only [← HZ4.out] <;> first | exact ok | exact HMN0.out | exact HXN.out | exact HAN.out | exact HAB.out | exact HAB0.out | exact one_nn)
  refine kS fun K hK => ?_
  refine sq 2 [(true, 0), (true, 1)] fun T hT => ?_
  iterate 2 refine tk ?_
  refine nlS hT HF fun vw5 HG => ?_
  clear hT T HF
  go_wp2
  refine hK.out _ _ ?_; clear hK K
  show Code.wp _ _ _ _ _
  have HF := HG; clear HG
  clear hd1
  refine wp_cond_true (by rfl) ?_
  refine kL fun K hK => ?_
  refine wp_region_lit ?_
  go_wp2
  refine hK.out _ _ ?_; clear hK K
  show Code.wp _ _ _ _ _
  refine fH (HF.out) fun Wx7 HG => ?_
  clear HF; have HF := HG; clear HG
  have lx3 := HF.out.c 1 rfl
  refine kS fun K hK => ?_
  refine sq 5 [(true, 0), (true, 1), (true, 2), (true, 3), (true, 4)] fun T hT => ?_
  refine tk ?_
  refine ck Tryz.call33 (fun w' hw => zexact_n (mn) _ _ rfl (by first | exact ok | exact HMN0.out | exact HXN.out | exact HAN.out | exact HAB.out | exact HAB0.out | exact one_nn | (simp only [← HZ4.out] <;> first | exact ok | exact HMN0.out | exact HXN.out | exact HAN.out | exact HAB.out | exact HAB0.out | exact one_nn)) om) ?_
  iterate 3 refine tk ?_
  refine nlS hT HF fun vw6 HG => ?_
  clear hT T HF lx3
  go_wp2
  refine hK.out _ _ ?_; clear hK K
  show Code.wp _ _ _ _ _
  refine fH ((HG.out).al (b := vw6.heap.size) (by first | rfl | simp) (by decide)) fun Wx8 HF => ?_
  clear HG
  generalize vw6.heap.size = gx6 at *
  have lx2 := HF.out.c 0 rfl
  have lx3 := HF.out.c 1 rfl
  refine kS fun K hK => ?_
  refine sq 8 [(true, 0), (true, 1), (true, 2), (true, 3), (true, 4), (true, 5), (true, 6), (true, 7)] fun T hT => ?_
  iterate 2 refine tk ?_
  refine ck Tryz.call34 (fun w' hw => rorder_a (mn) (a) (0 : Rat) _ 0 (fun _ => 0) _ (Lib.hid (fs0 _ _)) (by omega) (Lib.hid (fsz0 _)) (Lib.hid rfl) (by first | omega | exact sz_of (wl_le.2 (by decide +kernel)) (wl_le.2 (by decide +kernel))) om om (Lib.hid (by first | exact ok | exact HMN0.out | exact HXN.out | exact HAN.out | exact HAB.out | exact HAB0.out | exact one_nn | (simp only [← HZ4.out] <;> first | exact ok | exact HMN0.out | exact HXN.out | exact HAN.out | exact HAB.out | exact HAB0.out | exact one_nn)))) ?_
  iterate 5 refine tk ?_
  refine nlS hT HF fun vw7 HG => ?_
  clear hT T HF lx2 lx3
  go_wp2
  refine hK.out _ _ ?_; clear hK K
  show Code.wp _ _ _ _ _
  have HF := HG; clear HG
  have HZ6 : Hid (qabs (a) = ab) := Lib.hid (by first | exact ok | exact HMN0.out | exact HXN.out | exact HAN.out | exact HAB.out | exact HAB0.out | exact one_nn | (simp only [← HZ4.out] <;> first | exact ok | exact HMN0.out | exact HXN.out | exact HAN.out | exact HAB.out | exact HAB0.out | exact one_nn))
  have su6 : sz (ab) ≤ 4 := by have e := HZ6.out; first | omega | (rw [← e]; rw [sz_qabs]; omega)
  have HZ7 : Hid (((1 : Int) : Rat) = (1 : Rat)) := Lib.hid (by decide +kernel)
  have su7 : sz ((1 : Rat)) ≤ 2 := sz_of (wl_le.2 (by decide +kernel)) (wl_le.2 (by decide +kernel))
  have lx2 := HF.out.c 0 rfl
  have lx3 := HF.out.c 1 rfl
  refine kS fun K hK => ?_
  have HG0 : Hid (Gr vw7 vw7) := Lib.hid (Gr.refl _)
  refine wp_region_early 10 [] [] (fun _ => 0) (fun _ => .cells #[] 0) (fun i => (1, #[.int .u64 ((lo (Int.natAbs ((mn).num)) : Nat) : Int), .string (bg (Int.natAbs ((mn).num))), .bool (decide (((mn).num) < 0)), .int .u64 ((lo ((mn).den - 1) : Nat) : Int), .string (bg ((mn).den - 1))], 36)) [(0, 0), (0, 3), (1, 4), (0, 1), (0, 2), (2, 4), (0, 5), (0, 6), (0, 7), (0, 8), (0, 9)] (by kernel_rfl) (by kernel_rfl) (fun i hi => by cases hi) (fun i hi => by cases hi) (fun _ _ _ _ _ h => h) (fun T hT => ?_)
  iterate 2 (refine wpEarly_takeL (v := ?_) rfl (by rfl) (fun w' hw => ?_) ?_; rotate_left; go_simp; with_reducible rfl; simp only [Act.put, lA, lB, lC])
  refine wpEarly_mk rfl (by rfl) (fun w' => ?_) ?_
  · go_simp
  refine wpEarly_callL rfl (by rfl) Tryz.call31 (fun w' hw => fabs_any (a) (ab) _ HZ6.out) (by rfl) ?_
  simp only [Act.put, lA, lB, lC]
  refine wpEarly_callL rfl (by rfl) Tryz.call32 (fun w' hw => fint_any (1) (1 : Rat) _ HZ7.out om om) (by rfl) ?_
  simp only [Act.put, lA, lB, lC]
  refine wpEarly_use rfl (by rfl) (fun gx7 vv7 hg0 yx7 bx7 => ?_)
  clear yx7
  replace HG0 := Lib.hid (HG0.out.trans hg0)
  have HGS := Lib.hid hg0; clear hg0
  clear HGS
  have BX7 := Lib.hid bx7; clear bx7
  clear lx2; have lx2 := fun w' (h : Gr _ w') => HF.out.c 0 rfl w' (HG0.out.trans h)
  clear lx3; have lx3 := fun w' (h : Gr _ w') => HF.out.c 1 rfl w' (HG0.out.trans h)
  simp only [Act.put, lA, lB, lC]
  refine wpEarly_callL rfl (by rfl) Tryz.call34 (fun w' hw => rorder_s (ab) (1 : Rat) (mn) _ 1 (f1_ (mn)) _ (Lib.hid (fs1 BX7.out hw)) (by omega) (Lib.hid (fsz1 om)) (Lib.hid (qsum1 _)) (by first | omega | exact sz_of (wl_le.2 (by decide +kernel)) (wl_le.2 (by decide +kernel))) om om (Lib.hid (by first | exact ok | exact HMN0.out | exact HXN.out | exact HAN.out | exact HAB.out | exact HAB0.out | exact one_nn | (simp only [← HZ4.out] <;> first | exact ok | exact HMN0.out | exact HXN.out | exact HAN.out | exact HAB.out | exact HAB0.out | exact one_nn))) (Lib.hid (by first | exact ok | exact HMN0.out | exact HXN.out | exact HAN.out | exact HAB.out | exact HAB0.out | exact one_nn | (simp only [← HZ4.out] <;> first | exact ok | exact HMN0.out | exact HXN.out | exact HAN.out | exact HAB.out | exact HAB0.out | exact one_nn))) (Lib.hid (by first | exact ok | exact HMN0.out | exact HXN.out | exact HAN.out | exact HAB.out | exact HAB0.out | exact one_nn | (simp only [← HZ4.out] <;> first | exact ok | exact HMN0.out | exact HXN.out | exact HAN.out | exact HAB.out | exact HAB0.out | exact one_nn)))) (by rfl) ?_
  simp only [Act.put, lA, lB, lC]
  iterate 4 (refine wpEarly_takeL (v := ?_) rfl (by rfl) (fun w' hw => ?_) ?_; rotate_left; go_simp; with_reducible rfl; simp only [Act.put, lA, lB, lC])
  refine wpEarly_nil (hT.out _ _ ?_)
  intro G vw8 hg hf
  simp only [puts, Act.put, lA, lB, lC, lD, lE, ↓reduceIte, Nat.reduceEqDiff]
  have HG := Lib.hid (HF.out.gr (HG0.out.trans hg))
  clear hT T HF hg hf HG0 BX7 lx2 lx3
  go_wp2
  refine hK.out _ _ ?_; clear hK K
  show Code.wp _ _ _ _ _
  refine fH ((HG.out).er 1) fun Wx10 HF => ?_
  clear HG
  refine wp_seq ?_
  have lx4 := HF.out.c 1 rfl
  have lx6 := HF.out.c 3 rfl
  refine kS fun K hK => ?_
  refine sq 24 [(true, 0), (true, 1), (true, 2), (true, 3), (true, 4), (true, 5), (true, 6), (true, 7), (true, 8), (true, 9), (true, 10), (true, 11), (true, 12), (true, 13), (true, 14), (true, 15), (true, 16), (true, 17), (true, 18), (true, 19), (true, 20), (true, 21), (true, 22), (true, 23)] fun T hT => ?_
  iterate 24 refine tk ?_
  refine nlS hT HF fun vw9 HG => ?_
  clear hT T HF lx4 lx6
  go_wp2
  refine hK.out _ _ ?_; clear hK K
  show Code.wp _ _ _ _ _
  refine fH ((HG.out).er 3) fun Wx11 HF => ?_
  clear HG
  refine wp_cond_false (by rfl) ?_
  refine wp_skip ?_
  show Code.wp _ _ _ _ _
  refine wp_seq ?_
  have hd2 : ¬ (p < 0) := by first | exact ok | exact HMN0.out | exact HXN.out | exact HAN.out | exact HAB.out | exact HAB0.out | exact one_nn | (simp only [← HZ4.out] <;> first | exact ok | exact HMN0.out | exact HXN.out | exact HAN.out | exact HAB.out | exact HAB0.out | exact one_nn)
  have hd3 : 100 < p := by first | exact ok | exact HMN0.out | exact HXN.out | exact HAN.out | exact HAB.out | exact HAB0.out | exact one_nn | (simp only [← HZ4.out] <;> first | exact ok | exact HMN0.out | exact HXN.out | exact HAN.out | exact HAB.out | exact HAB0.out | exact one_nn)
  have lx2 := HF.out.c 0 rfl
  refine kS fun K hK => ?_
  refine sq 11 [(true, 0), (true, 1), (true, 2), (true, 3), (true, 4), (true, 5), (true, 6), (true, 7), (true, 8), (true, 9), (true, 10)] fun T hT => ?_
  iterate 7 refine tk ?_
  iterate 3 refine sk ?_
  refine tk ?_
  refine nlS hT HF fun vw10 HG => ?_
  clear hT T HF lx2
  go_wp2
  refine hK.out _ _ ?_; clear hK K
  show Code.wp _ _ _ _ _
  refine fH ((HG.out).er 0) fun Wx13 HF => ?_
  clear HG
  clear hd2 hd3
  refine wp_cond_true (by rfl) ?_
  have HB := HPb HF
  have lx4 := HF.out.c 0 rfl
  have lx5 := HF.out.c 1 rfl
  refine kS fun K hK => ?_
  refine sq 12 [(true, 0), (true, 1), (true, 2), (true, 3), (true, 4), (true, 5), (true, 6), (true, 7), (true, 8), (true, 9), (true, 10), (true, 11)] fun T hT => ?_
  iterate 9 refine tk ?_
  refine ck Tryz.call22 (fun w' hw => works5_any _ (Lib.hid (HT.out.gr (Gr.trans HB.out hw)))) ?_
  iterate 2 refine tk ?_
  refine nlS hT HF fun vw11 HG => ?_
  clear hT T HF lx4 lx5 HB
  go_wp2
  refine hK.out _ _ ?_; clear hK K
  show Code.wp _ _ _ _ _
  refine fH (((HG.out).er 1).er 0) fun Wx14 HF => ?_
  clear HG
  refine wp_ret ?_
  try simp only [Exit.then, Exit.inBlock]
  exact bodyPost_ret (v := .bool true) (by simp [results, Tryz.results5, go_sem]) rfl ⟨rfl, HF.out.1⟩

set_option maxRecDepth 100000 in
set_option maxHeartbeats 8000000 in
theorem refuse_neg (n d : Int) (a ab mn : Rat) (k : Nat) (w : World) (HA0 : Hid (qv n d = a)) (HAB : Hid (qabs a = ab)) (HAB0 : Hid (0 ≤ ab)) (hsab : sz ab ≤ 10) (HMN : Hid (-(ab + (1 : Rat)) = mn)) (HMN0 : Hid (mn < 0)) (HXN : Hid (¬ exq mn * exq mn = mn)) (hsm : sz mn ≤ 20) (h1 : -9223372036854775808 ≤ n) (h2 : n ≤ 9223372036854775807) (h3 : 0 ≤ d) (h4 : d ≤ 4294967295) (hk : k ≤ 100) (HAN : Hid (a < 0)) (HT : Hid (Tab w)) :
    Calls Tryz.prog 5 #[(Value.agg #[.int .i64 (n), .int .u32 (d)]), .int .i64 (((k : Nat) : Int))] w fun e w' => e = .returned (.bool true) ∧ Below w.heap.size w w' := by
  go_enter Tryz.func5, Tryz.ntmps5
  have HF := Lib.hid (hp0 w)
  refine kS fun K hK => ?_
  refine wp_region_lit ?_
  go_wp2
  refine hK.out _ _ ?_; clear hK K
  show Code.wp _ _ _ _ _
  refine fH ((HF.out).al (b := w.heap.size) (by first | rfl | simp) (by decide)) fun Wx0 HG => ?_
  clear HF; have HF := HG; clear HG
  have HZ1 : Hid (qv (n) (d) = a) := Lib.hid (HA0.out)
  have su1 : sz (a) ≤ 4 := by have e := HZ1.out; first | omega | (rw [← e]; exact sz_qv (n) (d) om om om om)
  have lx0 := HF.out.c 0 rfl
  refine kS fun K hK => ?_
  refine sq 2 [(true, 0), (true, 1)] fun T hT => ?_
  refine tk ?_
  refine ck Tryz.call24 (fun w' hw => qv_any (n) (d) (a) _ HZ1.out om om om om) ?_
  refine nlS hT HF fun vw1 HG => ?_
  clear hT T HF lx0
  go_wp2
  refine hK.out _ _ ?_; clear hK K
  show Code.wp _ _ _ _ _
  refine fH (((HG.out).al (b := vw1.heap.size) (by first | rfl | simp) (by decide)).er 0) fun Wx1 HF => ?_
  clear HG
  generalize vw1.heap.size = gx2 at *
  have HZ2 : Hid (qabs (a) = ab) := Lib.hid (HAB.out)
  have su2 : sz (ab) ≤ 4 := by have e := HZ2.out; first | omega | (rw [← e]; rw [sz_qabs]; omega)
  have HZ3 : Hid (((1 : Int) : Rat) = (1 : Rat)) := Lib.hid (by decide +kernel)
  have su3 : sz ((1 : Rat)) ≤ 2 := sz_of (wl_le.2 (by decide +kernel)) (wl_le.2 (by decide +kernel))
  obtain ⟨u4, HZ4⟩ : ∃ z, Hid ((ab) + (1 : Rat) = z) := ⟨_, Lib.hid rfl⟩
  have su4 : sz (u4) ≤ 7 := by rw [← HZ4.out]; have := sz_add (ab) (1 : Rat); omega
  have HZ5 : Hid (-(u4) = mn) := Lib.hid (by rw [← HMN.out]; simp only [← HZ4.out])
  have su5 : sz (mn) ≤ 20 := by have e := HZ5.out; first | omega | (rw [← e]; rw [sz_neg]; omega)
  have lx2 := HF.out.c 0 rfl
  refine kS fun K hK => ?_
  refine sq 5 [(true, 0), (true, 1), (true, 2), (true, 3), (true, 4)] fun T hT => ?_
  refine tk ?_
  refine ck Tryz.call31 (fun w' hw => fabs_any (a) (ab) _ HZ2.out) ?_
  refine ck Tryz.call32 (fun w' hw => fint_any (1) (1 : Rat) _ HZ3.out om om) ?_
  refine ck Tryz.call30 (fun w' hw => fadd_any (ab) (1 : Rat) (u4) _ HZ4.out om om) ?_
  refine ck Tryz.call29 (fun w' hw => fneg_any (u4) (mn) _ HZ5.out) ?_
  refine nlS hT HF fun vw2 HG => ?_
  clear hT T HF lx2
  go_wp2
  refine hK.out _ _ ?_; clear hK K
  show Code.wp _ _ _ _ _
  refine fH ((HG.out).al (b := vw2.heap.size) (by first | rfl | simp) (by decide)) fun Wx2 HF => ?_
  clear HG
  generalize vw2.heap.size = gx3 at *
  have lx3 := HF.out.c 1 rfl
  refine kS fun K hK => ?_
  refine sq 6 [(true, 0), (true, 1), (true, 2), (true, 3), (true, 4), (true, 5)] fun T hT => ?_
  iterate 2 refine tk ?_
  refine ck Tryz.call23 (fun w' hw => zBelow_neg (mn) k _ (by first | exact ok | exact HMN0.out | exact HXN.out | exact HAN.out | exact HAB.out | exact HAB0.out | exact one_nn | (simp only [← HZ4.out] <;> first | exact ok | exact HMN0.out | exact HXN.out | exact HAN.out | exact HAB.out | exact HAB0.out | exact one_nn)) (by omega)) ?_
  iterate 3 refine tk ?_
  refine nlS hT HF fun vw3 HG => ?_
  clear hT T HF lx3
  go_wp2
  refine hK.out _ _ ?_; clear hK K
  show Code.wp _ _ _ _ _
  refine fH ((HG.out).al (b := vw3.heap.size) (by first | rfl | simp) (by decide)) fun Wx3 HF => ?_
  clear HG
  generalize vw3.heap.size = gx4 at *
  have lx2 := HF.out.c 0 rfl
  refine kS fun K hK => ?_
  refine sq 6 [(true, 0), (true, 1), (true, 2), (true, 3), (true, 4), (true, 5)] fun T hT => ?_
  iterate 2 refine tk ?_
  refine ck Tryz.call25 (fun w' hw => zAbove_neg (a) k _ (by first | exact ok | exact HMN0.out | exact HXN.out | exact HAN.out | exact HAB.out | exact HAB0.out | exact one_nn | (simp only [← HZ4.out] <;> first | exact ok | exact HMN0.out | exact HXN.out | exact HAN.out | exact HAB.out | exact HAB0.out | exact one_nn)) (by omega)) ?_
  iterate 3 refine tk ?_
  refine nlS hT HF fun vw4 HG => ?_
  clear hT T HF lx2
  go_wp2
  refine hK.out _ _ ?_; clear hK K
  show Code.wp _ _ _ _ _
  refine fH ((HG.out).al (b := vw4.heap.size) (by first | rfl | simp) (by decide)) fun Wx4 HF => ?_
  clear HG
  generalize vw4.heap.size = gx5 at *
  refine kS fun K hK => ?_
  refine wp_region_lit ?_
  go_wp2
  refine hK.out _ _ ?_; clear hK K
  show Code.wp _ _ _ _ _
  refine fH (HF.out) fun Wx5 HG => ?_
  clear HF; have HF := HG; clear HG
  refine wp_seq ?_
  have hd1 : ¬ (100 < (((k : Nat) : Int))) := by first | exact ok | exact HMN0.out | exact HXN.out | exact HAN.out | exact HAB.out | exact HAB0.out | exact one_nn | (simp only [← HZ4.out] <;> first | exact ok | exact HMN0.out | exact HXN.out | exact HAN.out | exact HAB.out | exact HAB0.out | exact one_nn)
  refine kS fun K hK => ?_
  refine sq 2 [(true, 0), (true, 1)] fun T hT => ?_
  iterate 2 refine tk ?_
  refine nlS hT HF fun vw5 HG => ?_
  clear hT T HF
  go_wp2
  refine hK.out _ _ ?_; clear hK K
  show Code.wp _ _ _ _ _
  have HF := HG; clear HG
  clear hd1
  refine wp_cond_false (by rfl) ?_
  refine wp_skip ?_
  show Code.wp _ _ _ _ _
  have lx3 := HF.out.c 1 rfl
  refine kS fun K hK => ?_
  refine sq 5 [(true, 0), (true, 1), (true, 2), (true, 3), (true, 4)] fun T hT => ?_
  refine tk ?_
  refine ck Tryz.call33 (fun w' hw => zexact_n (mn) _ _ rfl (by first | exact ok | exact HMN0.out | exact HXN.out | exact HAN.out | exact HAB.out | exact HAB0.out | exact one_nn | (simp only [← HZ4.out] <;> first | exact ok | exact HMN0.out | exact HXN.out | exact HAN.out | exact HAB.out | exact HAB0.out | exact one_nn)) om) ?_
  iterate 3 refine tk ?_
  refine nlS hT HF fun vw6 HG => ?_
  clear hT T HF lx3
  go_wp2
  refine hK.out _ _ ?_; clear hK K
  show Code.wp _ _ _ _ _
  refine fH ((HG.out).al (b := vw6.heap.size) (by first | rfl | simp) (by decide)) fun Wx8 HF => ?_
  clear HG
  generalize vw6.heap.size = gx6 at *
  have lx2 := HF.out.c 0 rfl
  have lx3 := HF.out.c 1 rfl
  refine kS fun K hK => ?_
  refine sq 8 [(true, 0), (true, 1), (true, 2), (true, 3), (true, 4), (true, 5), (true, 6), (true, 7)] fun T hT => ?_
  iterate 2 refine tk ?_
  refine ck Tryz.call34 (fun w' hw => rorder_a (mn) (a) (0 : Rat) _ 0 (fun _ => 0) _ (Lib.hid (fs0 _ _)) (by omega) (Lib.hid (fsz0 _)) (Lib.hid rfl) (by first | omega | exact sz_of (wl_le.2 (by decide +kernel)) (wl_le.2 (by decide +kernel))) om om (Lib.hid (by first | exact ok | exact HMN0.out | exact HXN.out | exact HAN.out | exact HAB.out | exact HAB0.out | exact one_nn | (simp only [← HZ4.out] <;> first | exact ok | exact HMN0.out | exact HXN.out | exact HAN.out | exact HAB.out | exact HAB0.out | exact one_nn)))) ?_
  iterate 5 refine tk ?_
  refine nlS hT HF fun vw7 HG => ?_
  clear hT T HF lx2 lx3
  go_wp2
  refine hK.out _ _ ?_; clear hK K
  show Code.wp _ _ _ _ _
  have HF := HG; clear HG
  have HZ6 : Hid (qabs (a) = ab) := Lib.hid (by first | exact ok | exact HMN0.out | exact HXN.out | exact HAN.out | exact HAB.out | exact HAB0.out | exact one_nn | (simp only [← HZ4.out] <;> first | exact ok | exact HMN0.out | exact HXN.out | exact HAN.out | exact HAB.out | exact HAB0.out | exact one_nn))
  have su6 : sz (ab) ≤ 4 := by have e := HZ6.out; first | omega | (rw [← e]; rw [sz_qabs]; omega)
  have HZ7 : Hid (((1 : Int) : Rat) = (1 : Rat)) := Lib.hid (by decide +kernel)
  have su7 : sz ((1 : Rat)) ≤ 2 := sz_of (wl_le.2 (by decide +kernel)) (wl_le.2 (by decide +kernel))
  have lx2 := HF.out.c 0 rfl
  have lx3 := HF.out.c 1 rfl
  refine kS fun K hK => ?_
  have HG0 : Hid (Gr vw7 vw7) := Lib.hid (Gr.refl _)
  refine wp_region_early 10 [] [] (fun _ => 0) (fun _ => .cells #[] 0) (fun i => (1, #[.int .u64 ((lo (Int.natAbs ((mn).num)) : Nat) : Int), .string (bg (Int.natAbs ((mn).num))), .bool (decide (((mn).num) < 0)), .int .u64 ((lo ((mn).den - 1) : Nat) : Int), .string (bg ((mn).den - 1))], 36)) [(0, 0), (0, 3), (1, 4), (0, 1), (0, 2), (2, 4), (0, 5), (0, 6), (0, 7), (0, 8), (0, 9)] (by kernel_rfl) (by kernel_rfl) (fun i hi => by cases hi) (fun i hi => by cases hi) (fun _ _ _ _ _ h => h) (fun T hT => ?_)
  iterate 2 (refine wpEarly_takeL (v := ?_) rfl (by rfl) (fun w' hw => ?_) ?_; rotate_left; go_simp; with_reducible rfl; simp only [Act.put, lA, lB, lC])
  refine wpEarly_mk rfl (by rfl) (fun w' => ?_) ?_
  · go_simp
  refine wpEarly_callL rfl (by rfl) Tryz.call31 (fun w' hw => fabs_any (a) (ab) _ HZ6.out) (by rfl) ?_
  simp only [Act.put, lA, lB, lC]
  refine wpEarly_callL rfl (by rfl) Tryz.call32 (fun w' hw => fint_any (1) (1 : Rat) _ HZ7.out om om) (by rfl) ?_
  simp only [Act.put, lA, lB, lC]
  refine wpEarly_use rfl (by rfl) (fun gx7 vv7 hg0 yx7 bx7 => ?_)
  clear yx7
  replace HG0 := Lib.hid (HG0.out.trans hg0)
  have HGS := Lib.hid hg0; clear hg0
  clear HGS
  have BX7 := Lib.hid bx7; clear bx7
  clear lx2; have lx2 := fun w' (h : Gr _ w') => HF.out.c 0 rfl w' (HG0.out.trans h)
  clear lx3; have lx3 := fun w' (h : Gr _ w') => HF.out.c 1 rfl w' (HG0.out.trans h)
  simp only [Act.put, lA, lB, lC]
  refine wpEarly_callL rfl (by rfl) Tryz.call34 (fun w' hw => rorder_s (ab) (1 : Rat) (mn) _ 1 (f1_ (mn)) _ (Lib.hid (fs1 BX7.out hw)) (by omega) (Lib.hid (fsz1 om)) (Lib.hid (qsum1 _)) (by first | omega | exact sz_of (wl_le.2 (by decide +kernel)) (wl_le.2 (by decide +kernel))) om om (Lib.hid (by first | exact ok | exact HMN0.out | exact HXN.out | exact HAN.out | exact HAB.out | exact HAB0.out | exact one_nn | (simp only [← HZ4.out] <;> first | exact ok | exact HMN0.out | exact HXN.out | exact HAN.out | exact HAB.out | exact HAB0.out | exact one_nn))) (Lib.hid (by first | exact ok | exact HMN0.out | exact HXN.out | exact HAN.out | exact HAB.out | exact HAB0.out | exact one_nn | (simp only [← HZ4.out] <;> first | exact ok | exact HMN0.out | exact HXN.out | exact HAN.out | exact HAB.out | exact HAB0.out | exact one_nn))) (Lib.hid (by first | exact ok | exact HMN0.out | exact HXN.out | exact HAN.out | exact HAB.out | exact HAB0.out | exact one_nn | (simp only [← HZ4.out] <;> first | exact ok | exact HMN0.out | exact HXN.out | exact HAN.out | exact HAB.out | exact HAB0.out | exact one_nn)))) (by rfl) ?_
  simp only [Act.put, lA, lB, lC]
  iterate 4 (refine wpEarly_takeL (v := ?_) rfl (by rfl) (fun w' hw => ?_) ?_; rotate_left; go_simp; with_reducible rfl; simp only [Act.put, lA, lB, lC])
  refine wpEarly_nil (hT.out _ _ ?_)
  intro G vw8 hg hf
  simp only [puts, Act.put, lA, lB, lC, lD, lE, ↓reduceIte, Nat.reduceEqDiff]
  have HG := Lib.hid (HF.out.gr (HG0.out.trans hg))
  clear hT T HF hg hf HG0 BX7 lx2 lx3
  go_wp2
  refine hK.out _ _ ?_; clear hK K
  show Code.wp _ _ _ _ _
  refine fH ((HG.out).er 1) fun Wx10 HF => ?_
  clear HG
  refine wp_seq ?_
  have lx4 := HF.out.c 1 rfl
  have lx6 := HF.out.c 3 rfl
  refine kS fun K hK => ?_
  refine sq 24 [(true, 0), (true, 1), (true, 2), (true, 3), (true, 4), (true, 5), (true, 6), (true, 7), (true, 8), (true, 9), (true, 10), (true, 11), (true, 12), (true, 13), (true, 14), (true, 15), (true, 16), (true, 17), (true, 18), (true, 19), (true, 20), (true, 21), (true, 22), (true, 23)] fun T hT => ?_
  iterate 24 refine tk ?_
  refine nlS hT HF fun vw9 HG => ?_
  clear hT T HF lx4 lx6
  go_wp2
  refine hK.out _ _ ?_; clear hK K
  show Code.wp _ _ _ _ _
  refine fH ((HG.out).er 3) fun Wx11 HF => ?_
  clear HG
  refine wp_cond_false (by rfl) ?_
  refine wp_skip ?_
  show Code.wp _ _ _ _ _
  refine wp_seq ?_
  have hd2 : ¬ ((((k : Nat) : Int)) < 0) := by first | exact ok | exact HMN0.out | exact HXN.out | exact HAN.out | exact HAB.out | exact HAB0.out | exact one_nn | (simp only [← HZ4.out] <;> first | exact ok | exact HMN0.out | exact HXN.out | exact HAN.out | exact HAB.out | exact HAB0.out | exact one_nn)
  have hd3 : ¬ (k < 0) := by have e := hd2; omega
  have hd4 : ¬ (100 < (((k : Nat) : Int))) := by first | exact ok | exact HMN0.out | exact HXN.out | exact HAN.out | exact HAB.out | exact HAB0.out | exact one_nn | (simp only [← HZ4.out] <;> first | exact ok | exact HMN0.out | exact HXN.out | exact HAN.out | exact HAB.out | exact HAB0.out | exact one_nn)
  have lx2 := HF.out.c 0 rfl
  refine kS fun K hK => ?_
  refine sq 11 [(true, 0), (true, 1), (true, 2), (true, 3), (true, 4), (true, 5), (true, 6), (true, 7), (true, 8), (true, 9), (true, 10)] fun T hT => ?_
  iterate 8 refine tk ?_
  refine ck Tryz.call35 (fun w' hw => fsign_any (a) (-1) _ (by have e9 : (a) < (0 : Rat) := (by first | exact ok | exact HMN0.out | exact HXN.out | exact HAN.out | exact HAB.out | exact HAB0.out | exact one_nn | (simp only [← HZ4.out] <;> first | exact ok | exact HMN0.out | exact HXN.out | exact HAN.out | exact HAB.out | exact HAB0.out | exact one_nn)); exact sgQ_neg e9)) ?_
  iterate 2 refine tk ?_
  refine nlS hT HF fun vw10 HG => ?_
  clear hT T HF lx2
  go_wp2
  refine hK.out _ _ ?_; clear hK K
  show Code.wp _ _ _ _ _
  refine fH ((HG.out).er 0) fun Wx13 HF => ?_
  clear HG
  clear hd2 hd3 hd4
  refine wp_cond_true (by rfl) ?_
  have HB := HPb HF
  have lx4 := HF.out.c 0 rfl
  have lx5 := HF.out.c 1 rfl
  refine kS fun K hK => ?_
  refine sq 12 [(true, 0), (true, 1), (true, 2), (true, 3), (true, 4), (true, 5), (true, 6), (true, 7), (true, 8), (true, 9), (true, 10), (true, 11)] fun T hT => ?_
  iterate 9 refine tk ?_
  refine ck Tryz.call22 (fun w' hw => works5_any _ (Lib.hid (HT.out.gr (Gr.trans HB.out hw)))) ?_
  iterate 2 refine tk ?_
  refine nlS hT HF fun vw11 HG => ?_
  clear hT T HF lx4 lx5 HB
  go_wp2
  refine hK.out _ _ ?_; clear hK K
  show Code.wp _ _ _ _ _
  refine fH (((HG.out).er 1).er 0) fun Wx14 HF => ?_
  clear HG
  refine wp_ret ?_
  try simp only [Exit.then, Exit.inBlock]
  exact bodyPost_ret (v := .bool true) (by simp [results, Tryz.results5, go_sem]) rfl ⟨rfl, HF.out.1⟩

set_option maxRecDepth 100000 in
set_option maxHeartbeats 8000000 in
theorem refuse_pos (n d : Int) (a ab mn : Rat) (k : Nat) (w : World) (HA0 : Hid (qv n d = a)) (HAB : Hid (qabs a = ab)) (HAB0 : Hid (0 ≤ ab)) (hsab : sz ab ≤ 10) (HMN : Hid (-(ab + (1 : Rat)) = mn)) (HMN0 : Hid (mn < 0)) (HXN : Hid (¬ exq mn * exq mn = mn)) (hsm : sz mn ≤ 20) (h1 : -9223372036854775808 ≤ n) (h2 : n ≤ 9223372036854775807) (h3 : 0 ≤ d) (h4 : d ≤ 4294967295) (hk : k ≤ 100) (HAN : Hid (0 ≤ a)) (HT : Hid (Tab w)) :
    Calls Tryz.prog 5 #[(Value.agg #[.int .i64 (n), .int .u32 (d)]), .int .i64 (((k : Nat) : Int))] w fun e w' => e = .returned (.bool true) ∧ Below w.heap.size w w' := by
  go_enter Tryz.func5, Tryz.ntmps5
  have HF := Lib.hid (hp0 w)
  refine kS fun K hK => ?_
  refine wp_region_lit ?_
  go_wp2
  refine hK.out _ _ ?_; clear hK K
  show Code.wp _ _ _ _ _
  refine fH ((HF.out).al (b := w.heap.size) (by first | rfl | simp) (by decide)) fun Wx0 HG => ?_
  clear HF; have HF := HG; clear HG
  have HZ1 : Hid (qv (n) (d) = a) := Lib.hid (HA0.out)
  have su1 : sz (a) ≤ 4 := by have e := HZ1.out; first | omega | (rw [← e]; exact sz_qv (n) (d) om om om om)
  have lx0 := HF.out.c 0 rfl
  refine kS fun K hK => ?_
  refine sq 2 [(true, 0), (true, 1)] fun T hT => ?_
  refine tk ?_
  refine ck Tryz.call24 (fun w' hw => qv_any (n) (d) (a) _ HZ1.out om om om om) ?_
  refine nlS hT HF fun vw1 HG => ?_
  clear hT T HF lx0
  go_wp2
  refine hK.out _ _ ?_; clear hK K
  show Code.wp _ _ _ _ _
  refine fH (((HG.out).al (b := vw1.heap.size) (by first | rfl | simp) (by decide)).er 0) fun Wx1 HF => ?_
  clear HG
  generalize vw1.heap.size = gx2 at *
  have HZ2 : Hid (qabs (a) = ab) := Lib.hid (HAB.out)
  have su2 : sz (ab) ≤ 4 := by have e := HZ2.out; first | omega | (rw [← e]; rw [sz_qabs]; omega)
  have HZ3 : Hid (((1 : Int) : Rat) = (1 : Rat)) := Lib.hid (by decide +kernel)
  have su3 : sz ((1 : Rat)) ≤ 2 := sz_of (wl_le.2 (by decide +kernel)) (wl_le.2 (by decide +kernel))
  obtain ⟨u4, HZ4⟩ : ∃ z, Hid ((ab) + (1 : Rat) = z) := ⟨_, Lib.hid rfl⟩
  have su4 : sz (u4) ≤ 7 := by rw [← HZ4.out]; have := sz_add (ab) (1 : Rat); omega
  have HZ5 : Hid (-(u4) = mn) := Lib.hid (by rw [← HMN.out]; simp only [← HZ4.out])
  have su5 : sz (mn) ≤ 20 := by have e := HZ5.out; first | omega | (rw [← e]; rw [sz_neg]; omega)
  have lx2 := HF.out.c 0 rfl
  refine kS fun K hK => ?_
  refine sq 5 [(true, 0), (true, 1), (true, 2), (true, 3), (true, 4)] fun T hT => ?_
  refine tk ?_
  refine ck Tryz.call31 (fun w' hw => fabs_any (a) (ab) _ HZ2.out) ?_
  refine ck Tryz.call32 (fun w' hw => fint_any (1) (1 : Rat) _ HZ3.out om om) ?_
  refine ck Tryz.call30 (fun w' hw => fadd_any (ab) (1 : Rat) (u4) _ HZ4.out om om) ?_
  refine ck Tryz.call29 (fun w' hw => fneg_any (u4) (mn) _ HZ5.out) ?_
  refine nlS hT HF fun vw2 HG => ?_
  clear hT T HF lx2
  go_wp2
  refine hK.out _ _ ?_; clear hK K
  show Code.wp _ _ _ _ _
  refine fH ((HG.out).al (b := vw2.heap.size) (by first | rfl | simp) (by decide)) fun Wx2 HF => ?_
  clear HG
  generalize vw2.heap.size = gx3 at *
  have lx3 := HF.out.c 1 rfl
  refine kS fun K hK => ?_
  refine sq 6 [(true, 0), (true, 1), (true, 2), (true, 3), (true, 4), (true, 5)] fun T hT => ?_
  iterate 2 refine tk ?_
  refine ck Tryz.call23 (fun w' hw => zBelow_neg (mn) k _ (by first | exact ok | exact HMN0.out | exact HXN.out | exact HAN.out | exact HAB.out | exact HAB0.out | exact one_nn | (simp only [← HZ4.out] <;> first | exact ok | exact HMN0.out | exact HXN.out | exact HAN.out | exact HAB.out | exact HAB0.out | exact one_nn)) (by omega)) ?_
  iterate 3 refine tk ?_
  refine nlS hT HF fun vw3 HG => ?_
  clear hT T HF lx3
  go_wp2
  refine hK.out _ _ ?_; clear hK K
  show Code.wp _ _ _ _ _
  refine fH ((HG.out).al (b := vw3.heap.size) (by first | rfl | simp) (by decide)) fun Wx3 HF => ?_
  clear HG
  generalize vw3.heap.size = gx4 at *
  obtain ⟨u6, HZ6⟩ : ∃ z, Hid (rhi (a) k = z) := ⟨_, Lib.hid rfl⟩
  have su6 : sz (u6) ≤ 14 := by rw [← HZ6.out]; exact Nat.le_trans (sz_rhi (by omega) om) (by omega)
  have lx2 := HF.out.c 0 rfl
  refine kS fun K hK => ?_
  refine sq 6 [(true, 0), (true, 1), (true, 2), (true, 3), (true, 4), (true, 5)] fun T hT => ?_
  iterate 2 refine tk ?_
  refine ck Tryz.call25 (fun w' hw => rAbove_ok (a) (u6) k _ (Lib.hid (by first | exact ok | exact HMN0.out | exact HXN.out | exact HAN.out | exact HAB.out | exact HAB0.out | exact one_nn | (simp only [← HZ6.out, ← HZ4.out] <;> first | exact ok | exact HMN0.out | exact HXN.out | exact HAN.out | exact HAB.out | exact HAB0.out | exact one_nn))) (Lib.hid HZ6.out) (by omega) om) ?_
  iterate 3 refine tk ?_
  refine nlS hT HF fun vw4 HG => ?_
  clear hT T HF lx2
  go_wp2
  refine hK.out _ _ ?_; clear hK K
  show Code.wp _ _ _ _ _
  refine fH ((HG.out).al (b := vw4.heap.size) (by first | rfl | simp) (by decide)) fun Wx4 HF => ?_
  clear HG
  generalize vw4.heap.size = gx5 at *
  refine kS fun K hK => ?_
  refine wp_region_lit ?_
  go_wp2
  refine hK.out _ _ ?_; clear hK K
  show Code.wp _ _ _ _ _
  refine fH (HF.out) fun Wx5 HG => ?_
  clear HF; have HF := HG; clear HG
  refine wp_seq ?_
  have hd1 : ¬ (100 < (((k : Nat) : Int))) := by first | exact ok | exact HMN0.out | exact HXN.out | exact HAN.out | exact HAB.out | exact HAB0.out | exact one_nn | (simp only [← HZ6.out, ← HZ4.out] <;> first | exact ok | exact HMN0.out | exact HXN.out | exact HAN.out | exact HAB.out | exact HAB0.out | exact one_nn)
  refine kS fun K hK => ?_
  refine sq 2 [(true, 0), (true, 1)] fun T hT => ?_
  iterate 2 refine tk ?_
  refine nlS hT HF fun vw5 HG => ?_
  clear hT T HF
  go_wp2
  refine hK.out _ _ ?_; clear hK K
  show Code.wp _ _ _ _ _
  have HF := HG; clear HG
  clear hd1
  refine wp_cond_false (by rfl) ?_
  refine wp_skip ?_
  show Code.wp _ _ _ _ _
  have lx3 := HF.out.c 1 rfl
  refine kS fun K hK => ?_
  refine sq 5 [(true, 0), (true, 1), (true, 2), (true, 3), (true, 4)] fun T hT => ?_
  refine tk ?_
  refine ck Tryz.call33 (fun w' hw => zexact_n (mn) _ _ rfl (by first | exact ok | exact HMN0.out | exact HXN.out | exact HAN.out | exact HAB.out | exact HAB0.out | exact one_nn | (simp only [← HZ6.out, ← HZ4.out] <;> first | exact ok | exact HMN0.out | exact HXN.out | exact HAN.out | exact HAB.out | exact HAB0.out | exact one_nn)) om) ?_
  iterate 3 refine tk ?_
  refine nlS hT HF fun vw6 HG => ?_
  clear hT T HF lx3
  go_wp2
  refine hK.out _ _ ?_; clear hK K
  show Code.wp _ _ _ _ _
  refine fH ((HG.out).al (b := vw6.heap.size) (by first | rfl | simp) (by decide)) fun Wx8 HF => ?_
  clear HG
  generalize vw6.heap.size = gx6 at *
  have lx2 := HF.out.c 0 rfl
  have lx3 := HF.out.c 1 rfl
  refine kS fun K hK => ?_
  refine sq 8 [(true, 0), (true, 1), (true, 2), (true, 3), (true, 4), (true, 5), (true, 6), (true, 7)] fun T hT => ?_
  iterate 2 refine tk ?_
  refine ck Tryz.call34 (fun w' hw => rorder_a (mn) (a) (0 : Rat) _ 0 (fun _ => 0) _ (Lib.hid (fs0 _ _)) (by omega) (Lib.hid (fsz0 _)) (Lib.hid rfl) (by first | omega | exact sz_of (wl_le.2 (by decide +kernel)) (wl_le.2 (by decide +kernel))) om om (Lib.hid (by first | exact ok | exact HMN0.out | exact HXN.out | exact HAN.out | exact HAB.out | exact HAB0.out | exact one_nn | (simp only [← HZ6.out, ← HZ4.out] <;> first | exact ok | exact HMN0.out | exact HXN.out | exact HAN.out | exact HAB.out | exact HAB0.out | exact one_nn)))) ?_
  iterate 5 refine tk ?_
  refine nlS hT HF fun vw7 HG => ?_
  clear hT T HF lx2 lx3
  go_wp2
  refine hK.out _ _ ?_; clear hK K
  show Code.wp _ _ _ _ _
  have HF := HG; clear HG
  have HZ7 : Hid (qabs (a) = ab) := Lib.hid (by first | exact ok | exact HMN0.out | exact HXN.out | exact HAN.out | exact HAB.out | exact HAB0.out | exact one_nn | (simp only [← HZ6.out, ← HZ4.out] <;> first | exact ok | exact HMN0.out | exact HXN.out | exact HAN.out | exact HAB.out | exact HAB0.out | exact one_nn))
  have su7 : sz (ab) ≤ 4 := by have e := HZ7.out; first | omega | (rw [← e]; rw [sz_qabs]; omega)
  have HZ8 : Hid (((1 : Int) : Rat) = (1 : Rat)) := Lib.hid (by decide +kernel)
  have su8 : sz ((1 : Rat)) ≤ 2 := sz_of (wl_le.2 (by decide +kernel)) (wl_le.2 (by decide +kernel))
  have lx2 := HF.out.c 0 rfl
  have lx3 := HF.out.c 1 rfl
  refine kS fun K hK => ?_
  have HG0 : Hid (Gr vw7 vw7) := Lib.hid (Gr.refl _)
  refine wp_region_early 10 [] [] (fun _ => 0) (fun _ => .cells #[] 0) (fun i => (1, #[.int .u64 ((lo (Int.natAbs ((mn).num)) : Nat) : Int), .string (bg (Int.natAbs ((mn).num))), .bool (decide (((mn).num) < 0)), .int .u64 ((lo ((mn).den - 1) : Nat) : Int), .string (bg ((mn).den - 1))], 36)) [(0, 0), (0, 3), (1, 4), (0, 1), (0, 2), (2, 4), (0, 5), (0, 6), (0, 7), (0, 8), (0, 9)] (by kernel_rfl) (by kernel_rfl) (fun i hi => by cases hi) (fun i hi => by cases hi) (fun _ _ _ _ _ h => h) (fun T hT => ?_)
  iterate 2 (refine wpEarly_takeL (v := ?_) rfl (by rfl) (fun w' hw => ?_) ?_; rotate_left; go_simp; with_reducible rfl; simp only [Act.put, lA, lB, lC])
  refine wpEarly_mk rfl (by rfl) (fun w' => ?_) ?_
  · go_simp
  refine wpEarly_callL rfl (by rfl) Tryz.call31 (fun w' hw => fabs_any (a) (ab) _ HZ7.out) (by rfl) ?_
  simp only [Act.put, lA, lB, lC]
  refine wpEarly_callL rfl (by rfl) Tryz.call32 (fun w' hw => fint_any (1) (1 : Rat) _ HZ8.out om om) (by rfl) ?_
  simp only [Act.put, lA, lB, lC]
  refine wpEarly_use rfl (by rfl) (fun gx7 vv7 hg0 yx7 bx7 => ?_)
  clear yx7
  replace HG0 := Lib.hid (HG0.out.trans hg0)
  have HGS := Lib.hid hg0; clear hg0
  clear HGS
  have BX7 := Lib.hid bx7; clear bx7
  clear lx2; have lx2 := fun w' (h : Gr _ w') => HF.out.c 0 rfl w' (HG0.out.trans h)
  clear lx3; have lx3 := fun w' (h : Gr _ w') => HF.out.c 1 rfl w' (HG0.out.trans h)
  simp only [Act.put, lA, lB, lC]
  refine wpEarly_callL rfl (by rfl) Tryz.call34 (fun w' hw => rorder_s (ab) (1 : Rat) (mn) _ 1 (f1_ (mn)) _ (Lib.hid (fs1 BX7.out hw)) (by omega) (Lib.hid (fsz1 om)) (Lib.hid (qsum1 _)) (by first | omega | exact sz_of (wl_le.2 (by decide +kernel)) (wl_le.2 (by decide +kernel))) om om (Lib.hid (by first | exact ok | exact HMN0.out | exact HXN.out | exact HAN.out | exact HAB.out | exact HAB0.out | exact one_nn | (simp only [← HZ6.out, ← HZ4.out] <;> first | exact ok | exact HMN0.out | exact HXN.out | exact HAN.out | exact HAB.out | exact HAB0.out | exact one_nn))) (Lib.hid (by first | exact ok | exact HMN0.out | exact HXN.out | exact HAN.out | exact HAB.out | exact HAB0.out | exact one_nn | (simp only [← HZ6.out, ← HZ4.out] <;> first | exact ok | exact HMN0.out | exact HXN.out | exact HAN.out | exact HAB.out | exact HAB0.out | exact one_nn))) (Lib.hid (by first | exact ok | exact HMN0.out | exact HXN.out | exact HAN.out | exact HAB.out | exact HAB0.out | exact one_nn | (simp only [← HZ6.out, ← HZ4.out] <;> first | exact ok | exact HMN0.out | exact HXN.out | exact HAN.out | exact HAB.out | exact HAB0.out | exact one_nn)))) (by rfl) ?_
  simp only [Act.put, lA, lB, lC]
  iterate 4 (refine wpEarly_takeL (v := ?_) rfl (by rfl) (fun w' hw => ?_) ?_; rotate_left; go_simp; with_reducible rfl; simp only [Act.put, lA, lB, lC])
  refine wpEarly_nil (hT.out _ _ ?_)
  intro G vw8 hg hf
  simp only [puts, Act.put, lA, lB, lC, lD, lE, ↓reduceIte, Nat.reduceEqDiff]
  have HG := Lib.hid (HF.out.gr (HG0.out.trans hg))
  clear hT T HF hg hf HG0 BX7 lx2 lx3
  go_wp2
  refine hK.out _ _ ?_; clear hK K
  show Code.wp _ _ _ _ _
  refine fH ((HG.out).er 1) fun Wx10 HF => ?_
  clear HG
  refine wp_seq ?_
  have lx4 := HF.out.c 1 rfl
  have lx6 := HF.out.c 3 rfl
  refine kS fun K hK => ?_
  refine sq 24 [(true, 0), (true, 1), (true, 2), (true, 3), (true, 4), (true, 5), (true, 6), (true, 7), (true, 8), (true, 9), (true, 10), (true, 11), (true, 12), (true, 13), (true, 14), (true, 15), (true, 16), (true, 17), (true, 18), (true, 19), (true, 20), (true, 21), (true, 22), (true, 23)] fun T hT => ?_
  iterate 24 refine tk ?_
  refine nlS hT HF fun vw9 HG => ?_
  clear hT T HF lx4 lx6
  go_wp2
  refine hK.out _ _ ?_; clear hK K
  show Code.wp _ _ _ _ _
  refine fH ((HG.out).er 3) fun Wx11 HF => ?_
  clear HG
  refine wp_cond_false (by rfl) ?_
  refine wp_skip ?_
  show Code.wp _ _ _ _ _
  refine wp_seq ?_
  have hd2 : ¬ ((((k : Nat) : Int)) < 0) := by first | exact ok | exact HMN0.out | exact HXN.out | exact HAN.out | exact HAB.out | exact HAB0.out | exact one_nn | (simp only [← HZ6.out, ← HZ4.out] <;> first | exact ok | exact HMN0.out | exact HXN.out | exact HAN.out | exact HAB.out | exact HAB0.out | exact one_nn)
  have hd3 : ¬ (k < 0) := by have e := hd2; omega
  have hd4 : ¬ (100 < (((k : Nat) : Int))) := by first | exact ok | exact HMN0.out | exact HXN.out | exact HAN.out | exact HAB.out | exact HAB0.out | exact one_nn | (simp only [← HZ6.out, ← HZ4.out] <;> first | exact ok | exact HMN0.out | exact HXN.out | exact HAN.out | exact HAB.out | exact HAB0.out | exact one_nn)
  obtain ⟨t9, HT9⟩ : ∃ z, Hid (sgQ (a) = z) := ⟨_, Lib.hid rfl⟩
  have ht9 : 0 ≤ t9 := by rw [← HT9.out]; exact sgQ_nn0 HAN.out
  have hd5 : ¬ (t9 < 0) := by first | exact ok | exact HMN0.out | exact HXN.out | exact HAN.out | exact HAB.out | exact HAB0.out | exact one_nn | (simp only [← HZ6.out, ← HZ4.out] <;> first | exact ok | exact HMN0.out | exact HXN.out | exact HAN.out | exact HAB.out | exact HAB0.out | exact one_nn)
  have lx2 := HF.out.c 0 rfl
  refine kS fun K hK => ?_
  refine sq 11 [(true, 0), (true, 1), (true, 2), (true, 3), (true, 4), (true, 5), (true, 6), (true, 7), (true, 8), (true, 9), (true, 10)] fun T hT => ?_
  iterate 8 refine tk ?_
  refine ck Tryz.call35 (fun w' hw => fsign_any (a) (t9) _ HT9.out) ?_
  iterate 2 refine tk ?_
  refine nlS hT HF fun vw10 HG => ?_
  clear hT T HF lx2
  go_wp2
  refine hK.out _ _ ?_; clear hK K
  show Code.wp _ _ _ _ _
  refine fH ((HG.out).er 0) fun Wx13 HF => ?_
  clear HG
  clear hd2 hd3 hd4 ht9 hd5
  refine wp_cond_false (by rfl) ?_
  refine wp_skip ?_
  show Code.wp _ _ _ _ _
  have HB := HPb HF
  refine kS fun K hK => ?_
  refine sq 6 [(true, 0), (true, 1), (true, 2), (true, 3), (true, 4), (true, 5)] fun T hT => ?_
  iterate 3 refine tk ?_
  refine ck Tryz.call22 (fun w' hw => works5_any _ (Lib.hid (HT.out.gr (Gr.trans HB.out hw)))) ?_
  iterate 2 refine tk ?_
  refine nlS hT HF fun vw11 HG => ?_
  clear hT T HF HB
  go_wp2
  refine hK.out _ _ ?_; clear hK K
  show Code.wp _ _ _ _ _
  refine fH (((HG.out).er 1).er 0) fun Wx15 HF => ?_
  clear HG
  refine wp_ret ?_
  try simp only [Exit.then, Exit.inBlock]
  exact bodyPost_ret (v := .bool true) (by simp [results, Tryz.results5, go_sem]) rfl ⟨rfl, HF.out.1⟩

theorem refuse_law (n d p : Int) (w : World) (h1 : -9223372036854775808 ≤ n) (h2 : n ≤ 9223372036854775807) (h3 : 0 ≤ d) (h4 : d ≤ 4294967295) (HT : Hid (Tab w)) :
    Calls Tryz.prog 5 #[.agg #[.int .i64 n, .int .u32 d], .int .i64 p] w fun e w' => e = .returned (.bool true) ∧ Below w.heap.size w w' := by
  have hm := minus_neg (qv n d)
  have hs := Nat.le_trans (sz_minus (sz_qv n d h1 h2 h3 h4)) (show 4 + 2 ≤ 20 by decide)
  have hx := exq_neg hm
  have hsab : sz (qabs (qv n d)) ≤ 10 := by rw [sz_qabs]; exact Nat.le_trans (sz_qv n d h1 h2 h3 h4) (by decide)
  by_cases c1 : p < 0
  · exact refuse_lo n d _ _ _ p w (Lib.hid rfl) (Lib.hid rfl) (Lib.hid (qabs_nn _)) hsab (Lib.hid rfl) (Lib.hid hm) (Lib.hid hx) hs h1 h2 h3 h4 c1 HT
  · by_cases c2 : 100 < p
    · exact refuse_far n d _ _ _ p w (Lib.hid rfl) (Lib.hid rfl) (Lib.hid (qabs_nn _)) hsab (Lib.hid rfl) (Lib.hid hm) (Lib.hid hx) hs h1 h2 h3 h4 c2 HT
    · obtain ⟨k, rfl⟩ : ∃ k : Nat, p = (k : Int) := ⟨p.toNat, by omega⟩
      by_cases c3 : qv n d < 0
      · exact refuse_neg n d _ _ _ k w (Lib.hid rfl) (Lib.hid rfl) (Lib.hid (qabs_nn _)) hsab (Lib.hid rfl) (Lib.hid hm) (Lib.hid hx) hs h1 h2 h3 h4 (by omega) (Lib.hid c3) HT
      · exact refuse_pos n d _ _ _ k w (Lib.hid rfl) (Lib.hid rfl) (Lib.hid (qabs_nn _)) hsab (Lib.hid rfl) (Lib.hid hm) (Lib.hid hx) hs h1 h2 h3 h4 (by omega) (Lib.hid (by grind)) HT

end Go.Proofs.YtaflakcemiilaaaGreatDoor
