
/- gussetref23: Mid, Less. -/
import Derived.Test.YtobojnodohjiaaaGreatDoorRefV2
import Derived.Test.YtobojnodohjiaaaGreatDoorPN
set_option linter.unusedVariables false
set_option linter.unusedSimpArgs false
namespace Go.Proofs.YtobojnodohjiaaaGreatDoor
open Go.RowKit
attribute [local go_sem ↓] Go.wp_at_zero Go.wp_at_succ
theorem rtri (a b : Rat) : a < b ∨ a = b ∨ a > b := by
  rcases @Rat.le_total a b with h | h
  · rcases Rat.le_iff_lt_or_eq.1 h with h | h
    · exact .inl h
    · exact .inr (.inl h)
  · rcases Rat.le_iff_lt_or_eq.1 h with h | h
    · exact .inr (.inr h)
    · exact .inr (.inl h.symm)
set_option maxRecDepth 20000 in
set_option maxHeartbeats 4000000 in
theorem rplt_l (a1 a2 b1 b2 : Rat) (va11 va12 va21 va22 vb11 vb12 vb21 vb22 : Value) (w : World) (HX_ : Hid (a1 < b1)) (hs_a1 : rz a1 ≤ 1000000) (hs_a2 : rz a2 ≤ 1000000) (hs_b1 : rz b1 ≤ 1000000) (hs_b2 : rz b2 ≤ 1000000) (bx21 : Rn w va11 (Int.natAbs ((a1).num))) (bx22 : Rn w va12 ((a1).den - 1)) (bx23 : Rn w va21 (Int.natAbs ((a2).num))) (bx24 : Rn w va22 ((a2).den - 1)) (bx25 : Rn w vb11 (Int.natAbs ((b1).num))) (bx26 : Rn w vb12 ((b1).den - 1)) (bx27 : Rn w vb21 (Int.natAbs ((b2).num))) (bx28 : Rn w vb22 ((b2).den - 1)) :
    Calls Tryz.prog 84 #[(Value.agg #[.bool (decide ((a1).num < 0)), va11, va12, .bool (decide ((a2).num < 0)), va21, va22]), (Value.agg #[.bool (decide ((b1).num < 0)), vb11, vb12, .bool (decide ((b2).num < 0)), vb21, vb22])] w fun e w' => e = .returned ((.bool true)) ∧ Below w.heap.size w w' := by
  obtain ⟨ao_va11, n_va11, c_va11, rfl⟩ := Rn.sl bx21
  obtain ⟨ao_va12, n_va12, c_va12, rfl⟩ := Rn.sl bx22
  obtain ⟨ao_va21, n_va21, c_va21, rfl⟩ := Rn.sl bx23
  obtain ⟨ao_va22, n_va22, c_va22, rfl⟩ := Rn.sl bx24
  obtain ⟨ao_vb11, n_vb11, c_vb11, rfl⟩ := Rn.sl bx25
  obtain ⟨ao_vb12, n_vb12, c_vb12, rfl⟩ := Rn.sl bx26
  obtain ⟨ao_vb21, n_vb21, c_vb21, rfl⟩ := Rn.sl bx27
  obtain ⟨ao_vb22, n_vb22, c_vb22, rfl⟩ := Rn.sl bx28
  go_enter Tryz.func84, Tryz.ntmps84
  have HF := Lib.hid (hp0 w)
  replace HF := Lib.hid ((((((((HF.out.ar bx21).ar bx22).ar bx23).ar bx24).ar bx25).ar bx26).ar bx27).ar bx28)
  simp only [lF, lG] at HF
  clear bx21 bx22 bx23 bx24 bx25 bx26 bx27 bx28
  refine kS fun K hK => ?_
  refine wp_region_lit ?_
  go_wp2
  refine kO hK ?_; clear hK K
  refine fH (((HF.out).aL (w.heap.size)).aL (w.heap.size + 1)) fun Wx0 HG => ?_
  clear HF; have HF := HG; clear HG
  generalize w.heap.size + 1 = gx30 at *
  have lx29 := HF.out.c 8 rfl
  have lx30 := HF.out.c 9 rfl
  refine kS fun K hK => ?_
  refine sq 6 [(true, 0), (true, 1), (true, 2), (true, 3), (true, 4), (true, 5)] fun T hT => ?_
  iterate 4 refine tk ?_
  refine ck Tryz.call129 (fun w' hw => qcmp_any (a1) (b1) (-1) _ _ _ _ _ (by have e9 : (a1) - (b1) < (0 : Rat) := (by have hx := HX_.out; first | exact ok | grind); exact sgQ_neg e9) (by omega) (by omega) (HF.out.r 0 rfl hw) (HF.out.r 1 rfl hw) (HF.out.r 4 rfl hw) (HF.out.r 5 rfl hw)) ?_
  refine tk ?_
  refine nlS hT HF fun vw1 HG => ?_
  clear hT T HF lx29 lx30
  go_wp2
  refine kO hK ?_; clear hK K
  have HF := HG; clear HG
  refine kS fun K hK => ?_
  refine sq 15 [(true, 0), (true, 1), (true, 2), (true, 3), (true, 4), (true, 5), (true, 6), (true, 7), (true, 8), (true, 9), (true, 10), (true, 11), (true, 12), (true, 13), (true, 14)] fun T hT => ?_
  iterate 3 refine tk ?_
  iterate 10 refine sk ?_
  iterate 2 refine tk ?_
  refine nlS hT HF fun vw2 HG => ?_
  clear hT T HF
  go_wp2
  refine kO hK ?_; clear hK K
  refine fH (((((((((((HG.out).er 9).er 8).er 7).er 6).er 5).er 4).er 3).er 2).er 1).er 0) fun Wx2 HF => ?_
  clear HG
  refine wp_ret ?_
  try simp only [Exit.then, Exit.inBlock]
  exact bodyPost_ret (v := .bool true) (by simp [results, Tryz.results84, go_sem]) rfl ⟨rfl, HF.out.1⟩
set_option maxRecDepth 20000 in
set_option maxHeartbeats 4000000 in
theorem rplt_g (a1 a2 b1 b2 : Rat) (va11 va12 va21 va22 vb11 vb12 vb21 vb22 : Value) (w : World) (HX_ : Hid (a1 > b1)) (hs_a1 : rz a1 ≤ 1000000) (hs_a2 : rz a2 ≤ 1000000) (hs_b1 : rz b1 ≤ 1000000) (hs_b2 : rz b2 ≤ 1000000) (bx21 : Rn w va11 (Int.natAbs ((a1).num))) (bx22 : Rn w va12 ((a1).den - 1)) (bx23 : Rn w va21 (Int.natAbs ((a2).num))) (bx24 : Rn w va22 ((a2).den - 1)) (bx25 : Rn w vb11 (Int.natAbs ((b1).num))) (bx26 : Rn w vb12 ((b1).den - 1)) (bx27 : Rn w vb21 (Int.natAbs ((b2).num))) (bx28 : Rn w vb22 ((b2).den - 1)) :
    Calls Tryz.prog 84 #[(Value.agg #[.bool (decide ((a1).num < 0)), va11, va12, .bool (decide ((a2).num < 0)), va21, va22]), (Value.agg #[.bool (decide ((b1).num < 0)), vb11, vb12, .bool (decide ((b2).num < 0)), vb21, vb22])] w fun e w' => e = .returned ((.bool false)) ∧ Below w.heap.size w w' := by
  obtain ⟨ao_va11, n_va11, c_va11, rfl⟩ := Rn.sl bx21
  obtain ⟨ao_va12, n_va12, c_va12, rfl⟩ := Rn.sl bx22
  obtain ⟨ao_va21, n_va21, c_va21, rfl⟩ := Rn.sl bx23
  obtain ⟨ao_va22, n_va22, c_va22, rfl⟩ := Rn.sl bx24
  obtain ⟨ao_vb11, n_vb11, c_vb11, rfl⟩ := Rn.sl bx25
  obtain ⟨ao_vb12, n_vb12, c_vb12, rfl⟩ := Rn.sl bx26
  obtain ⟨ao_vb21, n_vb21, c_vb21, rfl⟩ := Rn.sl bx27
  obtain ⟨ao_vb22, n_vb22, c_vb22, rfl⟩ := Rn.sl bx28
  go_enter Tryz.func84, Tryz.ntmps84
  have HF := Lib.hid (hp0 w)
  replace HF := Lib.hid ((((((((HF.out.ar bx21).ar bx22).ar bx23).ar bx24).ar bx25).ar bx26).ar bx27).ar bx28)
  simp only [lF, lG] at HF
  clear bx21 bx22 bx23 bx24 bx25 bx26 bx27 bx28
  refine kS fun K hK => ?_
  refine wp_region_lit ?_
  go_wp2
  refine kO hK ?_; clear hK K
  refine fH (((HF.out).aL (w.heap.size)).aL (w.heap.size + 1)) fun Wx0 HG => ?_
  clear HF; have HF := HG; clear HG
  generalize w.heap.size + 1 = gx30 at *
  have lx29 := HF.out.c 8 rfl
  have lx30 := HF.out.c 9 rfl
  refine kS fun K hK => ?_
  refine sq 6 [(true, 0), (true, 1), (true, 2), (true, 3), (true, 4), (true, 5)] fun T hT => ?_
  iterate 4 refine tk ?_
  refine ck Tryz.call129 (fun w' hw => qcmp_any (a1) (b1) (1) _ _ _ _ _ (by have e9 : (0 : Rat) < (a1) - (b1) := (by have hx := HX_.out; first | exact ok | grind); exact sgQ_pos e9) (by omega) (by omega) (HF.out.r 0 rfl hw) (HF.out.r 1 rfl hw) (HF.out.r 4 rfl hw) (HF.out.r 5 rfl hw)) ?_
  refine tk ?_
  refine nlS hT HF fun vw1 HG => ?_
  clear hT T HF lx29 lx30
  go_wp2
  refine kO hK ?_; clear hK K
  have HF := HG; clear HG
  refine kS fun K hK => ?_
  refine sq 15 [(true, 0), (true, 1), (true, 2), (true, 3), (true, 4), (true, 5), (true, 6), (true, 7), (true, 8), (true, 9), (true, 10), (true, 11), (true, 12), (true, 13), (true, 14)] fun T hT => ?_
  iterate 6 refine tk ?_
  iterate 6 refine sk ?_
  iterate 3 refine tk ?_
  refine nlS hT HF fun vw2 HG => ?_
  clear hT T HF
  go_wp2
  refine kO hK ?_; clear hK K
  refine fH (((((((((((HG.out).er 9).er 8).er 7).er 6).er 5).er 4).er 3).er 2).er 1).er 0) fun Wx2 HF => ?_
  clear HG
  refine wp_ret ?_
  try simp only [Exit.then, Exit.inBlock]
  exact bodyPost_ret (v := .bool false) (by simp [results, Tryz.results84, go_sem]) rfl ⟨rfl, HF.out.1⟩
set_option maxRecDepth 20000 in
set_option maxHeartbeats 4000000 in
theorem rplt_el (a1 a2 b1 b2 : Rat) (va11 va12 va21 va22 vb11 vb12 vb21 vb22 : Value) (w : World) (HX_ : Hid (a1 = b1)) (HY_ : Hid (a2 < b2)) (hs_a1 : rz a1 ≤ 1000000) (hs_a2 : rz a2 ≤ 1000000) (hs_b1 : rz b1 ≤ 1000000) (hs_b2 : rz b2 ≤ 1000000) (bx21 : Rn w va11 (Int.natAbs ((a1).num))) (bx22 : Rn w va12 ((a1).den - 1)) (bx23 : Rn w va21 (Int.natAbs ((a2).num))) (bx24 : Rn w va22 ((a2).den - 1)) (bx25 : Rn w vb11 (Int.natAbs ((b1).num))) (bx26 : Rn w vb12 ((b1).den - 1)) (bx27 : Rn w vb21 (Int.natAbs ((b2).num))) (bx28 : Rn w vb22 ((b2).den - 1)) :
    Calls Tryz.prog 84 #[(Value.agg #[.bool (decide ((a1).num < 0)), va11, va12, .bool (decide ((a2).num < 0)), va21, va22]), (Value.agg #[.bool (decide ((b1).num < 0)), vb11, vb12, .bool (decide ((b2).num < 0)), vb21, vb22])] w fun e w' => e = .returned ((.bool true)) ∧ Below w.heap.size w w' := by
  obtain ⟨ao_va11, n_va11, c_va11, rfl⟩ := Rn.sl bx21
  obtain ⟨ao_va12, n_va12, c_va12, rfl⟩ := Rn.sl bx22
  obtain ⟨ao_va21, n_va21, c_va21, rfl⟩ := Rn.sl bx23
  obtain ⟨ao_va22, n_va22, c_va22, rfl⟩ := Rn.sl bx24
  obtain ⟨ao_vb11, n_vb11, c_vb11, rfl⟩ := Rn.sl bx25
  obtain ⟨ao_vb12, n_vb12, c_vb12, rfl⟩ := Rn.sl bx26
  obtain ⟨ao_vb21, n_vb21, c_vb21, rfl⟩ := Rn.sl bx27
  obtain ⟨ao_vb22, n_vb22, c_vb22, rfl⟩ := Rn.sl bx28
  go_enter Tryz.func84, Tryz.ntmps84
  have HF := Lib.hid (hp0 w)
  replace HF := Lib.hid ((((((((HF.out.ar bx21).ar bx22).ar bx23).ar bx24).ar bx25).ar bx26).ar bx27).ar bx28)
  simp only [lF, lG] at HF
  clear bx21 bx22 bx23 bx24 bx25 bx26 bx27 bx28
  refine kS fun K hK => ?_
  refine wp_region_lit ?_
  go_wp2
  refine kO hK ?_; clear hK K
  refine fH (((HF.out).aL (w.heap.size)).aL (w.heap.size + 1)) fun Wx0 HG => ?_
  clear HF; have HF := HG; clear HG
  generalize w.heap.size + 1 = gx30 at *
  have lx29 := HF.out.c 8 rfl
  have lx30 := HF.out.c 9 rfl
  refine kS fun K hK => ?_
  refine sq 6 [(true, 0), (true, 1), (true, 2), (true, 3), (true, 4), (true, 5)] fun T hT => ?_
  iterate 4 refine tk ?_
  refine ck Tryz.call129 (fun w' hw => qcmp_any (a1) (b1) (0) _ _ _ _ _ (by have e9 : (a1) - (b1) = (0 : Rat) := (by have hx := HX_.out; have hy := HY_.out; first | exact ok | grind); exact sgQ_zero' e9) (by omega) (by omega) (HF.out.r 0 rfl hw) (HF.out.r 1 rfl hw) (HF.out.r 4 rfl hw) (HF.out.r 5 rfl hw)) ?_
  refine tk ?_
  refine nlS hT HF fun vw1 HG => ?_
  clear hT T HF lx29 lx30
  go_wp2
  refine kO hK ?_; clear hK K
  have HF := HG; clear HG
  have lx29 := HF.out.c 8 rfl
  have lx30 := HF.out.c 9 rfl
  refine kS fun K hK => ?_
  refine sq 15 [(true, 0), (true, 1), (true, 2), (true, 3), (true, 4), (true, 5), (true, 6), (true, 7), (true, 8), (true, 9), (true, 10), (true, 11), (true, 12), (true, 13), (true, 14)] fun T hT => ?_
  iterate 10 refine tk ?_
  refine ck Tryz.call129 (fun w' hw => qcmp_any (a2) (b2) (-1) _ _ _ _ _ (by have e9 : (a2) - (b2) < (0 : Rat) := (by have hx := HX_.out; have hy := HY_.out; first | exact ok | grind); exact sgQ_neg e9) (by omega) (by omega) (HF.out.r 2 rfl hw) (HF.out.r 3 rfl hw) (HF.out.r 6 rfl hw) (HF.out.r 7 rfl hw)) ?_
  iterate 4 refine tk ?_
  refine nlS hT HF fun vw2 HG => ?_
  clear hT T HF lx29 lx30
  go_wp2
  refine kO hK ?_; clear hK K
  refine fH (((((((((((HG.out).er 9).er 8).er 7).er 6).er 5).er 4).er 3).er 2).er 1).er 0) fun Wx2 HF => ?_
  clear HG
  refine wp_ret ?_
  try simp only [Exit.then, Exit.inBlock]
  exact bodyPost_ret (v := .bool true) (by simp [results, Tryz.results84, go_sem]) rfl ⟨rfl, HF.out.1⟩
set_option maxRecDepth 20000 in
set_option maxHeartbeats 4000000 in
theorem rplt_ee (a1 a2 b1 b2 : Rat) (va11 va12 va21 va22 vb11 vb12 vb21 vb22 : Value) (w : World) (HX_ : Hid (a1 = b1)) (HY_ : Hid (a2 = b2)) (hs_a1 : rz a1 ≤ 1000000) (hs_a2 : rz a2 ≤ 1000000) (hs_b1 : rz b1 ≤ 1000000) (hs_b2 : rz b2 ≤ 1000000) (bx21 : Rn w va11 (Int.natAbs ((a1).num))) (bx22 : Rn w va12 ((a1).den - 1)) (bx23 : Rn w va21 (Int.natAbs ((a2).num))) (bx24 : Rn w va22 ((a2).den - 1)) (bx25 : Rn w vb11 (Int.natAbs ((b1).num))) (bx26 : Rn w vb12 ((b1).den - 1)) (bx27 : Rn w vb21 (Int.natAbs ((b2).num))) (bx28 : Rn w vb22 ((b2).den - 1)) :
    Calls Tryz.prog 84 #[(Value.agg #[.bool (decide ((a1).num < 0)), va11, va12, .bool (decide ((a2).num < 0)), va21, va22]), (Value.agg #[.bool (decide ((b1).num < 0)), vb11, vb12, .bool (decide ((b2).num < 0)), vb21, vb22])] w fun e w' => e = .returned ((.bool false)) ∧ Below w.heap.size w w' := by
  obtain ⟨ao_va11, n_va11, c_va11, rfl⟩ := Rn.sl bx21
  obtain ⟨ao_va12, n_va12, c_va12, rfl⟩ := Rn.sl bx22
  obtain ⟨ao_va21, n_va21, c_va21, rfl⟩ := Rn.sl bx23
  obtain ⟨ao_va22, n_va22, c_va22, rfl⟩ := Rn.sl bx24
  obtain ⟨ao_vb11, n_vb11, c_vb11, rfl⟩ := Rn.sl bx25
  obtain ⟨ao_vb12, n_vb12, c_vb12, rfl⟩ := Rn.sl bx26
  obtain ⟨ao_vb21, n_vb21, c_vb21, rfl⟩ := Rn.sl bx27
  obtain ⟨ao_vb22, n_vb22, c_vb22, rfl⟩ := Rn.sl bx28
  go_enter Tryz.func84, Tryz.ntmps84
  have HF := Lib.hid (hp0 w)
  replace HF := Lib.hid ((((((((HF.out.ar bx21).ar bx22).ar bx23).ar bx24).ar bx25).ar bx26).ar bx27).ar bx28)
  simp only [lF, lG] at HF
  clear bx21 bx22 bx23 bx24 bx25 bx26 bx27 bx28
  refine kS fun K hK => ?_
  refine wp_region_lit ?_
  go_wp2
  refine kO hK ?_; clear hK K
  refine fH (((HF.out).aL (w.heap.size)).aL (w.heap.size + 1)) fun Wx0 HG => ?_
  clear HF; have HF := HG; clear HG
  generalize w.heap.size + 1 = gx30 at *
  have lx29 := HF.out.c 8 rfl
  have lx30 := HF.out.c 9 rfl
  refine kS fun K hK => ?_
  refine sq 6 [(true, 0), (true, 1), (true, 2), (true, 3), (true, 4), (true, 5)] fun T hT => ?_
  iterate 4 refine tk ?_
  refine ck Tryz.call129 (fun w' hw => qcmp_any (a1) (b1) (0) _ _ _ _ _ (by have e9 : (a1) - (b1) = (0 : Rat) := (by have hx := HX_.out; have hy := HY_.out; first | exact ok | grind); exact sgQ_zero' e9) (by omega) (by omega) (HF.out.r 0 rfl hw) (HF.out.r 1 rfl hw) (HF.out.r 4 rfl hw) (HF.out.r 5 rfl hw)) ?_
  refine tk ?_
  refine nlS hT HF fun vw1 HG => ?_
  clear hT T HF lx29 lx30
  go_wp2
  refine kO hK ?_; clear hK K
  have HF := HG; clear HG
  have lx29 := HF.out.c 8 rfl
  have lx30 := HF.out.c 9 rfl
  refine kS fun K hK => ?_
  refine sq 15 [(true, 0), (true, 1), (true, 2), (true, 3), (true, 4), (true, 5), (true, 6), (true, 7), (true, 8), (true, 9), (true, 10), (true, 11), (true, 12), (true, 13), (true, 14)] fun T hT => ?_
  iterate 10 refine tk ?_
  refine ck Tryz.call129 (fun w' hw => qcmp_any (a2) (b2) (0) _ _ _ _ _ (by have e9 : (a2) - (b2) = (0 : Rat) := (by have hx := HX_.out; have hy := HY_.out; first | exact ok | grind); exact sgQ_zero' e9) (by omega) (by omega) (HF.out.r 2 rfl hw) (HF.out.r 3 rfl hw) (HF.out.r 6 rfl hw) (HF.out.r 7 rfl hw)) ?_
  iterate 4 refine tk ?_
  refine nlS hT HF fun vw2 HG => ?_
  clear hT T HF lx29 lx30
  go_wp2
  refine kO hK ?_; clear hK K
  refine fH (((((((((((HG.out).er 9).er 8).er 7).er 6).er 5).er 4).er 3).er 2).er 1).er 0) fun Wx2 HF => ?_
  clear HG
  refine wp_ret ?_
  try simp only [Exit.then, Exit.inBlock]
  exact bodyPost_ret (v := .bool false) (by simp [results, Tryz.results84, go_sem]) rfl ⟨rfl, HF.out.1⟩
set_option maxRecDepth 20000 in
set_option maxHeartbeats 4000000 in
theorem rplt_eg (a1 a2 b1 b2 : Rat) (va11 va12 va21 va22 vb11 vb12 vb21 vb22 : Value) (w : World) (HX_ : Hid (a1 = b1)) (HY_ : Hid (a2 > b2)) (hs_a1 : rz a1 ≤ 1000000) (hs_a2 : rz a2 ≤ 1000000) (hs_b1 : rz b1 ≤ 1000000) (hs_b2 : rz b2 ≤ 1000000) (bx21 : Rn w va11 (Int.natAbs ((a1).num))) (bx22 : Rn w va12 ((a1).den - 1)) (bx23 : Rn w va21 (Int.natAbs ((a2).num))) (bx24 : Rn w va22 ((a2).den - 1)) (bx25 : Rn w vb11 (Int.natAbs ((b1).num))) (bx26 : Rn w vb12 ((b1).den - 1)) (bx27 : Rn w vb21 (Int.natAbs ((b2).num))) (bx28 : Rn w vb22 ((b2).den - 1)) :
    Calls Tryz.prog 84 #[(Value.agg #[.bool (decide ((a1).num < 0)), va11, va12, .bool (decide ((a2).num < 0)), va21, va22]), (Value.agg #[.bool (decide ((b1).num < 0)), vb11, vb12, .bool (decide ((b2).num < 0)), vb21, vb22])] w fun e w' => e = .returned ((.bool false)) ∧ Below w.heap.size w w' := by
  obtain ⟨ao_va11, n_va11, c_va11, rfl⟩ := Rn.sl bx21
  obtain ⟨ao_va12, n_va12, c_va12, rfl⟩ := Rn.sl bx22
  obtain ⟨ao_va21, n_va21, c_va21, rfl⟩ := Rn.sl bx23
  obtain ⟨ao_va22, n_va22, c_va22, rfl⟩ := Rn.sl bx24
  obtain ⟨ao_vb11, n_vb11, c_vb11, rfl⟩ := Rn.sl bx25
  obtain ⟨ao_vb12, n_vb12, c_vb12, rfl⟩ := Rn.sl bx26
  obtain ⟨ao_vb21, n_vb21, c_vb21, rfl⟩ := Rn.sl bx27
  obtain ⟨ao_vb22, n_vb22, c_vb22, rfl⟩ := Rn.sl bx28
  go_enter Tryz.func84, Tryz.ntmps84
  have HF := Lib.hid (hp0 w)
  replace HF := Lib.hid ((((((((HF.out.ar bx21).ar bx22).ar bx23).ar bx24).ar bx25).ar bx26).ar bx27).ar bx28)
  simp only [lF, lG] at HF
  clear bx21 bx22 bx23 bx24 bx25 bx26 bx27 bx28
  refine kS fun K hK => ?_
  refine wp_region_lit ?_
  go_wp2
  refine kO hK ?_; clear hK K
  refine fH (((HF.out).aL (w.heap.size)).aL (w.heap.size + 1)) fun Wx0 HG => ?_
  clear HF; have HF := HG; clear HG
  generalize w.heap.size + 1 = gx30 at *
  have lx29 := HF.out.c 8 rfl
  have lx30 := HF.out.c 9 rfl
  refine kS fun K hK => ?_
  refine sq 6 [(true, 0), (true, 1), (true, 2), (true, 3), (true, 4), (true, 5)] fun T hT => ?_
  iterate 4 refine tk ?_
  refine ck Tryz.call129 (fun w' hw => qcmp_any (a1) (b1) (0) _ _ _ _ _ (by have e9 : (a1) - (b1) = (0 : Rat) := (by have hx := HX_.out; have hy := HY_.out; first | exact ok | grind); exact sgQ_zero' e9) (by omega) (by omega) (HF.out.r 0 rfl hw) (HF.out.r 1 rfl hw) (HF.out.r 4 rfl hw) (HF.out.r 5 rfl hw)) ?_
  refine tk ?_
  refine nlS hT HF fun vw1 HG => ?_
  clear hT T HF lx29 lx30
  go_wp2
  refine kO hK ?_; clear hK K
  have HF := HG; clear HG
  have lx29 := HF.out.c 8 rfl
  have lx30 := HF.out.c 9 rfl
  refine kS fun K hK => ?_
  refine sq 15 [(true, 0), (true, 1), (true, 2), (true, 3), (true, 4), (true, 5), (true, 6), (true, 7), (true, 8), (true, 9), (true, 10), (true, 11), (true, 12), (true, 13), (true, 14)] fun T hT => ?_
  iterate 10 refine tk ?_
  refine ck Tryz.call129 (fun w' hw => qcmp_any (a2) (b2) (1) _ _ _ _ _ (by have e9 : (0 : Rat) < (a2) - (b2) := (by have hx := HX_.out; have hy := HY_.out; first | exact ok | grind); exact sgQ_pos e9) (by omega) (by omega) (HF.out.r 2 rfl hw) (HF.out.r 3 rfl hw) (HF.out.r 6 rfl hw) (HF.out.r 7 rfl hw)) ?_
  iterate 4 refine tk ?_
  refine nlS hT HF fun vw2 HG => ?_
  clear hT T HF lx29 lx30
  go_wp2
  refine kO hK ?_; clear hK K
  refine fH (((((((((((HG.out).er 9).er 8).er 7).er 6).er 5).er 4).er 3).er 2).er 1).er 0) fun Wx2 HF => ?_
  clear HG
  refine wp_ret ?_
  try simp only [Exit.then, Exit.inBlock]
  exact bodyPost_ret (v := .bool false) (by simp [results, Tryz.results84, go_sem]) rfl ⟨rfl, HF.out.1⟩
theorem rpless (a1 a2 b1 b2 : Rat) (r : Bool) (va11 va12 va21 va22 vb11 vb12 vb21 vb22 : Value) (w : World) (hr : plt a1 a2 b1 b2 = r) (h1 : rz a1 ≤ 1000000) (h2 : rz a2 ≤ 1000000) (h3 : rz b1 ≤ 1000000) (h4 : rz b2 ≤ 1000000) (bx21 : Rn w va11 (Int.natAbs ((a1).num))) (bx22 : Rn w va12 ((a1).den - 1)) (bx23 : Rn w va21 (Int.natAbs ((a2).num))) (bx24 : Rn w va22 ((a2).den - 1)) (bx25 : Rn w vb11 (Int.natAbs ((b1).num))) (bx26 : Rn w vb12 ((b1).den - 1)) (bx27 : Rn w vb21 (Int.natAbs ((b2).num))) (bx28 : Rn w vb22 ((b2).den - 1)) :
    Calls Tryz.prog 84 #[.agg #[.bool (decide ((a1).num < 0)), va11, va12, .bool (decide ((a2).num < 0)), va21, va22], .agg #[.bool (decide ((b1).num < 0)), vb11, vb12, .bool (decide ((b2).num < 0)), vb21, vb22]] w fun e w' => e = .returned (.bool r) ∧ Below w.heap.size w w' := by
  unfold plt at hr
  rcases rtri a1 b1 with hx | hx | hx
  · rw [if_neg (by intro e; subst e; exact Rat.lt_irrefl hx), decide_eq_true hx] at hr
    subst hr
    exact rplt_l a1 a2 b1 b2 va11 va12 va21 va22 vb11 vb12 vb21 vb22 w (Lib.hid hx) h1 h2 h3 h4 bx21 bx22 bx23 bx24 bx25 bx26 bx27 bx28
  · rw [if_pos hx] at hr
    rcases rtri a2 b2 with hy | hy | hy
    · rw [decide_eq_true hy] at hr
      subst hr
      exact rplt_el a1 a2 b1 b2 va11 va12 va21 va22 vb11 vb12 vb21 vb22 w (Lib.hid hx) (Lib.hid hy) h1 h2 h3 h4 bx21 bx22 bx23 bx24 bx25 bx26 bx27 bx28
    · rw [decide_eq_false (by rw [hy]; exact Rat.lt_irrefl)] at hr
      subst hr
      exact rplt_ee a1 a2 b1 b2 va11 va12 va21 va22 vb11 vb12 vb21 vb22 w (Lib.hid hx) (Lib.hid hy) h1 h2 h3 h4 bx21 bx22 bx23 bx24 bx25 bx26 bx27 bx28
    · rw [decide_eq_false (by intro e; exact (Rat.not_lt.2 (Rat.le_of_lt hy)) e)] at hr
      subst hr
      exact rplt_eg a1 a2 b1 b2 va11 va12 va21 va22 vb11 vb12 vb21 vb22 w (Lib.hid hx) (Lib.hid hy) h1 h2 h3 h4 bx21 bx22 bx23 bx24 bx25 bx26 bx27 bx28
  · rw [if_neg (by intro e; subst e; exact Rat.lt_irrefl hx), decide_eq_false (by intro e; exact (Rat.not_lt.2 (Rat.le_of_lt hx)) e)] at hr
    subst hr
    exact rplt_g a1 a2 b1 b2 va11 va12 va21 va22 vb11 vb12 vb21 vb22 w (Lib.hid hx) h1 h2 h3 h4 bx21 bx22 bx23 bx24 bx25 bx26 bx27 bx28
end Go.Proofs.YtobojnodohjiaaaGreatDoor
