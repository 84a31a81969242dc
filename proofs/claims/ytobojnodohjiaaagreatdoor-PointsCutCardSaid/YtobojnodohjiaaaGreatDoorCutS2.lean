
/- gussetref03.Same, gussetref23.Same. -/
import Derived.Test.YtobojnodohjiaaaGreatDoorRefW3
import Derived.Test.YtobojnodohjiaaaGreatDoorRefV2
set_option linter.unusedVariables false
set_option linter.unusedSimpArgs false
namespace Go.Proofs.YtobojnodohjiaaaGreatDoor
open Go.RowKit
attribute [local go_sem ↓] Go.wp_at_zero Go.wp_at_succ
attribute [local go_sem ↓] eq_nat eq_nat_zero eq_int
theorem sgQ_dne2 {a b : Rat} (h : a ≠ b) : ¬ sgQ (a - b) = 0 := fun e => by
  unfold sgQ at e
  split at e
  · exact h (by grind)
  · split at e <;> simp at e
set_option maxRecDepth 20000 in
set_option maxHeartbeats 4000000 in
theorem qsm2_y (a b : Rat) (va1 va2 vb1 vb2 : Value) (w : World) (HE : Hid (a = b)) (hs : rz a ≤ 100000) (hsb : rz b ≤ 100000) (bx21 : Rn w va1 (Int.natAbs ((a).num))) (bx22 : Rn w va2 ((a).den - 1)) (bx23 : Rn w vb1 (Int.natAbs ((b).num))) (bx24 : Rn w vb2 ((b).den - 1)) :
    Calls Tryz.prog 193 #[(Value.agg #[.bool (decide ((a).num < 0)), va1, va2]), (Value.agg #[.bool (decide ((b).num < 0)), vb1, vb2])] w fun e w' => e = .returned ((.bool true)) ∧ Below w.heap.size w w' := by
  obtain ⟨ao_va1, n_va1, c_va1, rfl⟩ := Rn.sl bx21
  obtain ⟨ao_va2, n_va2, c_va2, rfl⟩ := Rn.sl bx22
  obtain ⟨ao_vb1, n_vb1, c_vb1, rfl⟩ := Rn.sl bx23
  obtain ⟨ao_vb2, n_vb2, c_vb2, rfl⟩ := Rn.sl bx24
  go_enter Tryz.func193, Tryz.ntmps193
  have HF := Lib.hid (hp0 w)
  replace HF := Lib.hid ((((HF.out.ar bx21).ar bx22).ar bx23).ar bx24)
  simp only [lF, lG] at HF
  clear bx21 bx22 bx23 bx24
  refine kS fun K hK => ?_
  refine wp_region_lit ?_
  go_wp2
  refine kO hK ?_; clear hK K
  refine fH (((HF.out).aL (w.heap.size)).aL (w.heap.size + 1)) fun Wx0 HG => ?_
  clear HF; have HF := HG; clear HG
  generalize w.heap.size + 1 = gx26 at *
  have lx25 := HF.out.c 4 rfl
  have lx26 := HF.out.c 5 rfl
  refine kS fun K hK => ?_
  refine sq 5 [(true, 0), (true, 1), (true, 2), (true, 3), (true, 4)] fun T hT => ?_
  iterate 2 refine tk ?_
  refine ck Tryz.call129 (fun w' hw => qcmp_any (a) (b) (0) _ _ _ _ _ (by have e9 : (a) - (b) = (0 : Rat) := (by first | exact ok | (rw [HE.out]; exact Rat.sub_self)); exact sgQ_zero' e9) (by omega) (by omega) (HF.out.r 0 rfl hw) (HF.out.r 1 rfl hw) (HF.out.r 2 rfl hw) (HF.out.r 3 rfl hw)) ?_
  iterate 2 refine tk ?_
  refine nlS hT HF fun vw1 HG => ?_
  clear hT T HF lx25 lx26
  go_wp2
  refine kO hK ?_; clear hK K
  refine fH (((((((HG.out).er 5).er 4).er 3).er 2).er 1).er 0) fun Wx1 HF => ?_
  clear HG
  refine wp_ret ?_
  try simp only [Exit.then, Exit.inBlock]
  exact bodyPost_ret (v := .bool true) (by simp [results, Tryz.results193, go_sem]) rfl ⟨rfl, HF.out.1⟩
set_option maxRecDepth 20000 in
set_option maxHeartbeats 4000000 in
theorem qsm2_n (a b : Rat) (c : Int) (va1 va2 vb1 vb2 : Value) (w : World) (HE : Hid (¬ a = b)) (hs : rz a ≤ 100000) (hsb : rz b ≤ 100000) (HC : Hid (sgQ (a - b) = c)) (hc : ¬ c = 0) (bx21 : Rn w va1 (Int.natAbs ((a).num))) (bx22 : Rn w va2 ((a).den - 1)) (bx23 : Rn w vb1 (Int.natAbs ((b).num))) (bx24 : Rn w vb2 ((b).den - 1)) :
    Calls Tryz.prog 193 #[(Value.agg #[.bool (decide ((a).num < 0)), va1, va2]), (Value.agg #[.bool (decide ((b).num < 0)), vb1, vb2])] w fun e w' => e = .returned ((.bool false)) ∧ Below w.heap.size w w' := by
  obtain ⟨ao_va1, n_va1, c_va1, rfl⟩ := Rn.sl bx21
  obtain ⟨ao_va2, n_va2, c_va2, rfl⟩ := Rn.sl bx22
  obtain ⟨ao_vb1, n_vb1, c_vb1, rfl⟩ := Rn.sl bx23
  obtain ⟨ao_vb2, n_vb2, c_vb2, rfl⟩ := Rn.sl bx24
  go_enter Tryz.func193, Tryz.ntmps193
  have HF := Lib.hid (hp0 w)
  replace HF := Lib.hid ((((HF.out.ar bx21).ar bx22).ar bx23).ar bx24)
  simp only [lF, lG] at HF
  clear bx21 bx22 bx23 bx24
  refine kS fun K hK => ?_
  refine wp_region_lit ?_
  go_wp2
  refine kO hK ?_; clear hK K
  refine fH (((HF.out).aL (w.heap.size)).aL (w.heap.size + 1)) fun Wx0 HG => ?_
  clear HF; have HF := HG; clear HG
  generalize w.heap.size + 1 = gx26 at *
  have hd1 : ((c) == (0)) = false := by have : ¬ (c = 0) := (by first | exact ok | (rw [HE.out]; exact Rat.sub_self)); simpa using this
  have lx25 := HF.out.c 4 rfl
  have lx26 := HF.out.c 5 rfl
  refine kS fun K hK => ?_
  refine sq 5 [(true, 0), (true, 1), (true, 2), (true, 3), (true, 4)] fun T hT => ?_
  iterate 2 refine tk ?_
  refine ck Tryz.call129 (fun w' hw => qcmp_any (a) (b) (c) _ _ _ _ _ (HC.out) (by omega) (by omega) (HF.out.r 0 rfl hw) (HF.out.r 1 rfl hw) (HF.out.r 2 rfl hw) (HF.out.r 3 rfl hw)) ?_
  iterate 2 refine tk ?_
  refine nlS hT HF fun vw1 HG => ?_
  clear hT T HF lx25 lx26
  go_wp2
  refine kO hK ?_; clear hK K
  refine fH (((((((HG.out).er 5).er 4).er 3).er 2).er 1).er 0) fun Wx1 HF => ?_
  clear HG
  clear hd1
  refine wp_ret ?_
  try simp only [Exit.then, Exit.inBlock]
  exact bodyPost_ret (v := .bool false) (by simp [results, Tryz.results193, go_sem]) rfl ⟨rfl, HF.out.1⟩
theorem qsm2_no (a b : Rat) (va1 va2 vb1 vb2 : Value) (w : World) (h : ¬ a = b) (hs : rz a ≤ 100000) (hsb : rz b ≤ 100000) (h1 : Rn w va1 (Int.natAbs ((a).num))) (h2 : Rn w va2 ((a).den - 1)) (h3 : Rn w vb1 (Int.natAbs ((b).num))) (h4 : Rn w vb2 ((b).den - 1)) :
    Calls Tryz.prog 193 #[.agg #[.bool (decide ((a).num < 0)), va1, va2], .agg #[.bool (decide ((b).num < 0)), vb1, vb2]] w fun e w' => e = .returned (.bool false) ∧ Below w.heap.size w w' :=
  qsm2_n a b _ va1 va2 vb1 vb2 w (Lib.hid h) hs hsb (Lib.hid rfl) (sgQ_dne2 h) h1 h2 h3 h4
set_option maxRecDepth 20000 in
set_option maxHeartbeats 4000000 in
theorem rpsame_eq (a1 a2 b1 b2 : Rat) (va11 va12 va21 va22 vb11 vb12 vb21 vb22 : Value) (w : World) (HE1 : Hid (a1 = b1)) (HE2 : Hid (a2 = b2)) (hs_a1 : rz a1 ≤ 100000) (hs_a2 : rz a2 ≤ 100000) (hs_b1 : rz b1 ≤ 100000) (hs_b2 : rz b2 ≤ 100000) (bx21 : Rn w va11 (Int.natAbs ((a1).num))) (bx22 : Rn w va12 ((a1).den - 1)) (bx23 : Rn w va21 (Int.natAbs ((a2).num))) (bx24 : Rn w va22 ((a2).den - 1)) (bx25 : Rn w vb11 (Int.natAbs ((b1).num))) (bx26 : Rn w vb12 ((b1).den - 1)) (bx27 : Rn w vb21 (Int.natAbs ((b2).num))) (bx28 : Rn w vb22 ((b2).den - 1)) :
    Calls Tryz.prog 85 #[(Value.agg #[.bool (decide ((a1).num < 0)), va11, va12, .bool (decide ((a2).num < 0)), va21, va22]), (Value.agg #[.bool (decide ((b1).num < 0)), vb11, vb12, .bool (decide ((b2).num < 0)), vb21, vb22])] w fun e w' => e = .returned ((.bool true)) ∧ Below w.heap.size w w' := by
  obtain ⟨ao_va11, n_va11, c_va11, rfl⟩ := Rn.sl bx21
  obtain ⟨ao_va12, n_va12, c_va12, rfl⟩ := Rn.sl bx22
  obtain ⟨ao_va21, n_va21, c_va21, rfl⟩ := Rn.sl bx23
  obtain ⟨ao_va22, n_va22, c_va22, rfl⟩ := Rn.sl bx24
  obtain ⟨ao_vb11, n_vb11, c_vb11, rfl⟩ := Rn.sl bx25
  obtain ⟨ao_vb12, n_vb12, c_vb12, rfl⟩ := Rn.sl bx26
  obtain ⟨ao_vb21, n_vb21, c_vb21, rfl⟩ := Rn.sl bx27
  obtain ⟨ao_vb22, n_vb22, c_vb22, rfl⟩ := Rn.sl bx28
  go_enter Tryz.func85, Tryz.ntmps85
  have HF := Lib.hid (hp0 w)
  replace HF := Lib.hid ((((((((HF.out.ar bx21).ar bx22).ar bx23).ar bx24).ar bx25).ar bx26).ar bx27).ar bx28)
  simp only [lF, lG] at HF
  clear bx21 bx22 bx23 bx24 bx25 bx26 bx27 bx28
  refine kS fun K hK => ?_
  refine wp_region_lit ?_
  go_wp2
  refine kO hK ?_; clear hK K
  refine fH (((HF.out).aL (w.heap.size)).aL (w.heap.size + 1)) fun Wx0 HG => ?_
  clear HF; have HF := HG; clear HG
  generalize w.heap.size + 1 = gx30 at *
  have lx29 := HF.out.c 8 rfl
  have lx30 := HF.out.c 9 rfl
  refine kS fun K hK => ?_
  refine sq 13 [(true, 0), (true, 1), (true, 2), (true, 3), (true, 4), (true, 5), (true, 6), (true, 7), (true, 8), (true, 9), (true, 10), (true, 11), (true, 12)] fun T hT => ?_
  iterate 4 refine tk ?_
  refine ck Tryz.call193 (fun w' hw => qsm2_y (a1) (b1) _ _ _ _ _ (Lib.hid (by first | exact ok | exact HE1.out | exact HE2.out)) (by omega) (by omega) (HF.out.r 0 rfl hw) (HF.out.r 1 rfl hw) (HF.out.r 4 rfl hw) (HF.out.r 5 rfl hw)) ?_
  iterate 5 refine tk ?_
  refine ck Tryz.call193 (fun w' hw => qsm2_y (a2) (b2) _ _ _ _ _ (Lib.hid (by first | exact ok | exact HE1.out | exact HE2.out)) (by omega) (by omega) (HF.out.r 2 rfl hw) (HF.out.r 3 rfl hw) (HF.out.r 6 rfl hw) (HF.out.r 7 rfl hw)) ?_
  iterate 2 refine tk ?_
  refine nlS hT HF fun vw1 HG => ?_
  clear hT T HF lx29 lx30
  go_wp2
  refine kO hK ?_; clear hK K
  refine fH (((((((((((HG.out).er 9).er 8).er 7).er 6).er 5).er 4).er 3).er 2).er 1).er 0) fun Wx1 HF => ?_
  clear HG
  refine wp_ret ?_
  try simp only [Exit.then, Exit.inBlock]
  exact bodyPost_ret (v := .bool true) (by simp [results, Tryz.results85, go_sem]) rfl ⟨rfl, HF.out.1⟩
set_option maxRecDepth 20000 in
set_option maxHeartbeats 4000000 in
theorem rpsame_x (a1 a2 b1 b2 : Rat) (va11 va12 va21 va22 vb11 vb12 vb21 vb22 : Value) (w : World) (HE1 : Hid (¬ a1 = b1)) (hs_a1 : rz a1 ≤ 100000) (hs_a2 : rz a2 ≤ 100000) (hs_b1 : rz b1 ≤ 100000) (hs_b2 : rz b2 ≤ 100000) (bx21 : Rn w va11 (Int.natAbs ((a1).num))) (bx22 : Rn w va12 ((a1).den - 1)) (bx23 : Rn w va21 (Int.natAbs ((a2).num))) (bx24 : Rn w va22 ((a2).den - 1)) (bx25 : Rn w vb11 (Int.natAbs ((b1).num))) (bx26 : Rn w vb12 ((b1).den - 1)) (bx27 : Rn w vb21 (Int.natAbs ((b2).num))) (bx28 : Rn w vb22 ((b2).den - 1)) :
    Calls Tryz.prog 85 #[(Value.agg #[.bool (decide ((a1).num < 0)), va11, va12, .bool (decide ((a2).num < 0)), va21, va22]), (Value.agg #[.bool (decide ((b1).num < 0)), vb11, vb12, .bool (decide ((b2).num < 0)), vb21, vb22])] w fun e w' => e = .returned ((.bool false)) ∧ Below w.heap.size w w' := by
  obtain ⟨ao_va11, n_va11, c_va11, rfl⟩ := Rn.sl bx21
  obtain ⟨ao_va12, n_va12, c_va12, rfl⟩ := Rn.sl bx22
  obtain ⟨ao_va21, n_va21, c_va21, rfl⟩ := Rn.sl bx23
  obtain ⟨ao_va22, n_va22, c_va22, rfl⟩ := Rn.sl bx24
  obtain ⟨ao_vb11, n_vb11, c_vb11, rfl⟩ := Rn.sl bx25
  obtain ⟨ao_vb12, n_vb12, c_vb12, rfl⟩ := Rn.sl bx26
  obtain ⟨ao_vb21, n_vb21, c_vb21, rfl⟩ := Rn.sl bx27
  obtain ⟨ao_vb22, n_vb22, c_vb22, rfl⟩ := Rn.sl bx28
  go_enter Tryz.func85, Tryz.ntmps85
  have HF := Lib.hid (hp0 w)
  replace HF := Lib.hid ((((((((HF.out.ar bx21).ar bx22).ar bx23).ar bx24).ar bx25).ar bx26).ar bx27).ar bx28)
  simp only [lF, lG] at HF
  clear bx21 bx22 bx23 bx24 bx25 bx26 bx27 bx28
  refine kS fun K hK => ?_
  refine wp_region_lit ?_
  go_wp2
  refine kO hK ?_; clear hK K
  refine fH (((HF.out).aL (w.heap.size)).aL (w.heap.size + 1)) fun Wx0 HG => ?_
  clear HF; have HF := HG; clear HG
  generalize w.heap.size + 1 = gx30 at *
  have lx29 := HF.out.c 8 rfl
  have lx30 := HF.out.c 9 rfl
  refine kS fun K hK => ?_
  refine sq 13 [(true, 0), (true, 1), (true, 2), (true, 3), (true, 4), (true, 5), (true, 6), (true, 7), (true, 8), (true, 9), (true, 10), (true, 11), (true, 12)] fun T hT => ?_
  iterate 4 refine tk ?_
  refine ck Tryz.call193 (fun w' hw => qsm2_no (a1) (b1) _ _ _ _ _ (by first | exact ok | exact HE1.out) (by omega) (by omega) (HF.out.r 0 rfl hw) (HF.out.r 1 rfl hw) (HF.out.r 4 rfl hw) (HF.out.r 5 rfl hw)) ?_
  refine tk ?_
  iterate 5 refine sk ?_
  iterate 2 refine tk ?_
  refine nlS hT HF fun vw1 HG => ?_
  clear hT T HF lx29 lx30
  go_wp2
  refine kO hK ?_; clear hK K
  refine fH (((((((((((HG.out).er 9).er 8).er 7).er 6).er 5).er 4).er 3).er 2).er 1).er 0) fun Wx1 HF => ?_
  clear HG
  refine wp_ret ?_
  try simp only [Exit.then, Exit.inBlock]
  exact bodyPost_ret (v := .bool false) (by simp [results, Tryz.results85, go_sem]) rfl ⟨rfl, HF.out.1⟩
set_option maxRecDepth 20000 in
set_option maxHeartbeats 4000000 in
theorem rpsame_y (a1 a2 b1 b2 : Rat) (va11 va12 va21 va22 vb11 vb12 vb21 vb22 : Value) (w : World) (HE1 : Hid (a1 = b1)) (HE2 : Hid (¬ a2 = b2)) (hs_a1 : rz a1 ≤ 100000) (hs_a2 : rz a2 ≤ 100000) (hs_b1 : rz b1 ≤ 100000) (hs_b2 : rz b2 ≤ 100000) (bx21 : Rn w va11 (Int.natAbs ((a1).num))) (bx22 : Rn w va12 ((a1).den - 1)) (bx23 : Rn w va21 (Int.natAbs ((a2).num))) (bx24 : Rn w va22 ((a2).den - 1)) (bx25 : Rn w vb11 (Int.natAbs ((b1).num))) (bx26 : Rn w vb12 ((b1).den - 1)) (bx27 : Rn w vb21 (Int.natAbs ((b2).num))) (bx28 : Rn w vb22 ((b2).den - 1)) :
    Calls Tryz.prog 85 #[(Value.agg #[.bool (decide ((a1).num < 0)), va11, va12, .bool (decide ((a2).num < 0)), va21, va22]), (Value.agg #[.bool (decide ((b1).num < 0)), vb11, vb12, .bool (decide ((b2).num < 0)), vb21, vb22])] w fun e w' => e = .returned ((.bool false)) ∧ Below w.heap.size w w' := by
  obtain ⟨ao_va11, n_va11, c_va11, rfl⟩ := Rn.sl bx21
  obtain ⟨ao_va12, n_va12, c_va12, rfl⟩ := Rn.sl bx22
  obtain ⟨ao_va21, n_va21, c_va21, rfl⟩ := Rn.sl bx23
  obtain ⟨ao_va22, n_va22, c_va22, rfl⟩ := Rn.sl bx24
  obtain ⟨ao_vb11, n_vb11, c_vb11, rfl⟩ := Rn.sl bx25
  obtain ⟨ao_vb12, n_vb12, c_vb12, rfl⟩ := Rn.sl bx26
  obtain ⟨ao_vb21, n_vb21, c_vb21, rfl⟩ := Rn.sl bx27
  obtain ⟨ao_vb22, n_vb22, c_vb22, rfl⟩ := Rn.sl bx28
  go_enter Tryz.func85, Tryz.ntmps85
  have HF := Lib.hid (hp0 w)
  replace HF := Lib.hid ((((((((HF.out.ar bx21).ar bx22).ar bx23).ar bx24).ar bx25).ar bx26).ar bx27).ar bx28)
  simp only [lF, lG] at HF
  clear bx21 bx22 bx23 bx24 bx25 bx26 bx27 bx28
  refine kS fun K hK => ?_
  refine wp_region_lit ?_
  go_wp2
  refine kO hK ?_; clear hK K
  refine fH (((HF.out).aL (w.heap.size)).aL (w.heap.size + 1)) fun Wx0 HG => ?_
  clear HF; have HF := HG; clear HG
  generalize w.heap.size + 1 = gx30 at *
  have lx29 := HF.out.c 8 rfl
  have lx30 := HF.out.c 9 rfl
  refine kS fun K hK => ?_
  refine sq 13 [(true, 0), (true, 1), (true, 2), (true, 3), (true, 4), (true, 5), (true, 6), (true, 7), (true, 8), (true, 9), (true, 10), (true, 11), (true, 12)] fun T hT => ?_
  iterate 4 refine tk ?_
  refine ck Tryz.call193 (fun w' hw => qsm2_y (a1) (b1) _ _ _ _ _ (Lib.hid (by first | exact ok | exact HE1.out | exact HE2.out)) (by omega) (by omega) (HF.out.r 0 rfl hw) (HF.out.r 1 rfl hw) (HF.out.r 4 rfl hw) (HF.out.r 5 rfl hw)) ?_
  iterate 5 refine tk ?_
  refine ck Tryz.call193 (fun w' hw => qsm2_no (a2) (b2) _ _ _ _ _ (by first | exact ok | exact HE1.out | exact HE2.out) (by omega) (by omega) (HF.out.r 2 rfl hw) (HF.out.r 3 rfl hw) (HF.out.r 6 rfl hw) (HF.out.r 7 rfl hw)) ?_
  iterate 2 refine tk ?_
  refine nlS hT HF fun vw1 HG => ?_
  clear hT T HF lx29 lx30
  go_wp2
  refine kO hK ?_; clear hK K
  refine fH (((((((((((HG.out).er 9).er 8).er 7).er 6).er 5).er 4).er 3).er 2).er 1).er 0) fun Wx1 HF => ?_
  clear HG
  refine wp_ret ?_
  try simp only [Exit.then, Exit.inBlock]
  exact bodyPost_ret (v := .bool false) (by simp [results, Tryz.results85, go_sem]) rfl ⟨rfl, HF.out.1⟩
theorem rpsame (a1 a2 b1 b2 : Rat) (r : Bool) (va11 va12 va21 va22 vb11 vb12 vb21 vb22 : Value) (w : World) (hr : decide ((a1, a2) = (b1, b2)) = r) (h1 : rz a1 ≤ 100000) (h2 : rz a2 ≤ 100000) (h3 : rz b1 ≤ 100000) (h4 : rz b2 ≤ 100000) (bx21 : Rn w va11 (Int.natAbs ((a1).num))) (bx22 : Rn w va12 ((a1).den - 1)) (bx23 : Rn w va21 (Int.natAbs ((a2).num))) (bx24 : Rn w va22 ((a2).den - 1)) (bx25 : Rn w vb11 (Int.natAbs ((b1).num))) (bx26 : Rn w vb12 ((b1).den - 1)) (bx27 : Rn w vb21 (Int.natAbs ((b2).num))) (bx28 : Rn w vb22 ((b2).den - 1)) :
    Calls Tryz.prog 85 #[.agg #[.bool (decide ((a1).num < 0)), va11, va12, .bool (decide ((a2).num < 0)), va21, va22], .agg #[.bool (decide ((b1).num < 0)), vb11, vb12, .bool (decide ((b2).num < 0)), vb21, vb22]] w fun e w' => e = .returned (.bool r) ∧ Below w.heap.size w w' := by
  by_cases e1 : a1 = b1
  · by_cases e2 : a2 = b2
    · rw [decide_eq_true (by rw [e1, e2])] at hr
      subst hr
      exact rpsame_eq a1 a2 b1 b2 va11 va12 va21 va22 vb11 vb12 vb21 vb22 w (Lib.hid e1) (Lib.hid e2) h1 h2 h3 h4 bx21 bx22 bx23 bx24 bx25 bx26 bx27 bx28
    · rw [decide_eq_false (fun e => e2 (Prod.mk.inj e).2)] at hr
      subst hr
      exact rpsame_y a1 a2 b1 b2 va11 va12 va21 va22 vb11 vb12 vb21 vb22 w (Lib.hid e1) (Lib.hid e2) h1 h2 h3 h4 bx21 bx22 bx23 bx24 bx25 bx26 bx27 bx28
  · rw [decide_eq_false (fun e => e1 (Prod.mk.inj e).1)] at hr
    subst hr
    exact rpsame_x a1 a2 b1 b2 va11 va12 va21 va22 vb11 vb12 vb21 vb22 w (Lib.hid e1) h1 h2 h3 h4 bx21 bx22 bx23 bx24 bx25 bx26 bx27 bx28
end Go.Proofs.YtobojnodohjiaaaGreatDoor
