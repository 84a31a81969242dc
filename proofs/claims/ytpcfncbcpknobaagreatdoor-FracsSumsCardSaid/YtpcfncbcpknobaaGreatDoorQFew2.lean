
/- gussetlaw03.few of 2. -/
import Derived.Test.YtpcfncbcpknobaaGreatDoorLawQ0
namespace Go.Proofs.YtpcfncbcpknobaaGreatDoor
open Go.RowKit
set_option linter.unusedSimpArgs false
set_option linter.unusedVariables false
attribute [local go_sem ↓] Go.wp_at_zero Go.wp_at_succ
attribute [local go_sem ↓] eq_nat eq_nat_zero eq_int
set_option maxRecDepth 20000 in
set_option maxHeartbeats 2000000 in
theorem qfew2_no0 (b0 : Bool) (ao00 : Option Addr) (k00 c00 : Nat) (ao01 : Option Addr) (k01 c01 : Nat) (b1 : Bool) (ao10 : Option Addr) (k10 c10 : Nat) (ao11 : Option Addr) (k11 c11 : Nat) (C : Int) (g : Nat) (w : World) (bx9 : Bx w g 88 #[.bool (b0), (.slice ao00 k00 c00), (.slice ao01 k01 c01), .bool (b1), (.slice ao10 k10 c10), (.slice ao11 k11 c11)]) (h00 : C < (k00 : Int)) :
    Calls Tryz.prog 53 #[.int .i64 C, .slice (some ⟨g, 0, none⟩) 2 2] w fun e w' => e = .returned (.bool false) ∧ Below w.heap.size w w' := by
  have hw1 : IntKind.i64.wrap 1 = 1 := by decide
  have hw2 : IntKind.i64.wrap 2 = 2 := by decide
  have hw3 : IntKind.i64.wrap 3 = 3 := by decide
  go_enter Tryz.func53, Tryz.ntmps53
  have HF := Lib.hid (hp0 w)
  have BX9 := Lib.hid bx9; clear bx9
  refine kS fun K hK => ?_
  refine wp_region_lit ?_
  go_wp2
  refine hK.out _ _ ?_; clear hK K
  show Code.wp _ _ _ _ _
  refine fH (HF.out) fun Wx0 HG => ?_
  clear HF; have HF := HG; clear HG
  refine wp_seq ?_
  refine kS fun K hK => ?_
  refine wp_region_lit ?_
  go_wp2
  refine hK.out _ _ ?_; clear hK K
  show Code.wp _ _ _ _ _
  refine fH (HF.out) fun Wx1 HG => ?_
  clear HF; have HF := HG; clear HG
  refine wp_block ?_
  refine wp_loop_rounds 12 ?_
  rw [rounds_succ]
  refine wp_seq ?_
  refine kS fun K hK => ?_
  refine sq 4 [(true, 0), (true, 1), (true, 2), (true, 3)] fun T hT => ?_
  iterate 4 refine tk ?_
  refine nlS hT HF fun vw1 HG => ?_
  clear hT T HF
  go_wp2
  refine hK.out _ _ ?_; clear hK K
  show Code.wp _ _ _ _ _
  have HF := HG; clear HG
  refine wp_cond_true (by rfl) ?_
  refine wp_skip ?_
  show Code.wp _ _ _ _ _
  refine wp_seq ?_
  refine wp_block ?_
  have hd1 : C < ((k00 : Int)) := ok
  have lx9 := (BX9.out.gr HF.out.1).cells
  refine kS fun K hK => ?_
  refine sq 19 [(true, 0), (true, 1), (true, 2), (true, 3), (true, 4), (true, 5), (true, 6), (true, 7), (true, 8), (true, 9), (true, 10), (true, 11), (true, 12), (true, 13), (true, 14), (true, 15), (true, 16), (true, 17), (true, 18)] fun T hT => ?_
  iterate 10 refine tk ?_
  iterate 8 refine sk ?_
  refine tk ?_
  refine nlS hT HF fun vw2 HG => ?_
  clear hT T HF lx9
  go_wp2
  refine hK.out _ _ ?_; clear hK K
  show Code.wp _ _ _ _ _
  have HF := HG; clear HG
  clear hd1
  refine wp_cond_true (by rfl) ?_
  refine kS fun K hK => ?_
  refine wp_region_lit ?_
  go_wp2
  refine hK.out _ _ ?_; clear hK K
  show Code.wp _ _ _ _ _
  refine fH (HF.out) fun Wx5 HG => ?_
  clear HF; have HF := HG; clear HG
  refine wp_ret ?_
  try simp only [Exit.then, Exit.inBlock]
  exact bodyPost_ret (v := .bool false) (by simp [results, Tryz.results53, go_sem]) rfl ⟨rfl, HF.out.1⟩

set_option maxRecDepth 20000 in
set_option maxHeartbeats 2000000 in
theorem qfew2_no1 (b0 : Bool) (ao00 : Option Addr) (k00 c00 : Nat) (ao01 : Option Addr) (k01 c01 : Nat) (b1 : Bool) (ao10 : Option Addr) (k10 c10 : Nat) (ao11 : Option Addr) (k11 c11 : Nat) (C : Int) (g : Nat) (w : World) (bx9 : Bx w g 88 #[.bool (b0), (.slice ao00 k00 c00), (.slice ao01 k01 c01), .bool (b1), (.slice ao10 k10 c10), (.slice ao11 k11 c11)]) (h00 : (k00 : Int) ≤ C) (h01 : C < (k01 : Int)) :
    Calls Tryz.prog 53 #[.int .i64 C, .slice (some ⟨g, 0, none⟩) 2 2] w fun e w' => e = .returned (.bool false) ∧ Below w.heap.size w w' := by
  have hw1 : IntKind.i64.wrap 1 = 1 := by decide
  have hw2 : IntKind.i64.wrap 2 = 2 := by decide
  have hw3 : IntKind.i64.wrap 3 = 3 := by decide
  go_enter Tryz.func53, Tryz.ntmps53
  have HF := Lib.hid (hp0 w)
  have BX9 := Lib.hid bx9; clear bx9
  refine kS fun K hK => ?_
  refine wp_region_lit ?_
  go_wp2
  refine hK.out _ _ ?_; clear hK K
  show Code.wp _ _ _ _ _
  refine fH (HF.out) fun Wx0 HG => ?_
  clear HF; have HF := HG; clear HG
  refine wp_seq ?_
  refine kS fun K hK => ?_
  refine wp_region_lit ?_
  go_wp2
  refine hK.out _ _ ?_; clear hK K
  show Code.wp _ _ _ _ _
  refine fH (HF.out) fun Wx1 HG => ?_
  clear HF; have HF := HG; clear HG
  refine wp_block ?_
  refine wp_loop_rounds 12 ?_
  rw [rounds_succ]
  refine wp_seq ?_
  refine kS fun K hK => ?_
  refine sq 4 [(true, 0), (true, 1), (true, 2), (true, 3)] fun T hT => ?_
  iterate 4 refine tk ?_
  refine nlS hT HF fun vw1 HG => ?_
  clear hT T HF
  go_wp2
  refine hK.out _ _ ?_; clear hK K
  show Code.wp _ _ _ _ _
  have HF := HG; clear HG
  refine wp_cond_true (by rfl) ?_
  refine wp_skip ?_
  show Code.wp _ _ _ _ _
  refine wp_seq ?_
  refine wp_block ?_
  have hd1 : ¬ (C < ((k00 : Int))) := ok
  have hd2 : C < ((k01 : Int)) := ok
  have lx9 := (BX9.out.gr HF.out.1).cells
  refine kS fun K hK => ?_
  refine sq 19 [(true, 0), (true, 1), (true, 2), (true, 3), (true, 4), (true, 5), (true, 6), (true, 7), (true, 8), (true, 9), (true, 10), (true, 11), (true, 12), (true, 13), (true, 14), (true, 15), (true, 16), (true, 17), (true, 18)] fun T hT => ?_
  iterate 19 refine tk ?_
  refine nlS hT HF fun vw2 HG => ?_
  clear hT T HF lx9
  go_wp2
  refine hK.out _ _ ?_; clear hK K
  show Code.wp _ _ _ _ _
  have HF := HG; clear HG
  clear hd1 hd2
  refine wp_cond_true (by rfl) ?_
  refine kS fun K hK => ?_
  refine wp_region_lit ?_
  go_wp2
  refine hK.out _ _ ?_; clear hK K
  show Code.wp _ _ _ _ _
  refine fH (HF.out) fun Wx5 HG => ?_
  clear HF; have HF := HG; clear HG
  refine wp_ret ?_
  try simp only [Exit.then, Exit.inBlock]
  exact bodyPost_ret (v := .bool false) (by simp [results, Tryz.results53, go_sem]) rfl ⟨rfl, HF.out.1⟩

set_option maxRecDepth 20000 in
set_option maxHeartbeats 2000000 in
theorem qfew2_no2 (b0 : Bool) (ao00 : Option Addr) (k00 c00 : Nat) (ao01 : Option Addr) (k01 c01 : Nat) (b1 : Bool) (ao10 : Option Addr) (k10 c10 : Nat) (ao11 : Option Addr) (k11 c11 : Nat) (C : Int) (g : Nat) (w : World) (bx9 : Bx w g 88 #[.bool (b0), (.slice ao00 k00 c00), (.slice ao01 k01 c01), .bool (b1), (.slice ao10 k10 c10), (.slice ao11 k11 c11)]) (h00 : (k00 : Int) ≤ C) (h01 : (k01 : Int) ≤ C) (h10 : C < (k10 : Int)) :
    Calls Tryz.prog 53 #[.int .i64 C, .slice (some ⟨g, 0, none⟩) 2 2] w fun e w' => e = .returned (.bool false) ∧ Below w.heap.size w w' := by
  have hw1 : IntKind.i64.wrap 1 = 1 := by decide
  have hw2 : IntKind.i64.wrap 2 = 2 := by decide
  have hw3 : IntKind.i64.wrap 3 = 3 := by decide
  go_enter Tryz.func53, Tryz.ntmps53
  have HF := Lib.hid (hp0 w)
  have BX9 := Lib.hid bx9; clear bx9
  refine kS fun K hK => ?_
  refine wp_region_lit ?_
  go_wp2
  refine hK.out _ _ ?_; clear hK K
  show Code.wp _ _ _ _ _
  refine fH (HF.out) fun Wx0 HG => ?_
  clear HF; have HF := HG; clear HG
  refine wp_seq ?_
  refine kS fun K hK => ?_
  refine wp_region_lit ?_
  go_wp2
  refine hK.out _ _ ?_; clear hK K
  show Code.wp _ _ _ _ _
  refine fH (HF.out) fun Wx1 HG => ?_
  clear HF; have HF := HG; clear HG
  refine wp_block ?_
  refine wp_loop_rounds 12 ?_
  rw [rounds_succ]
  refine wp_seq ?_
  refine kS fun K hK => ?_
  refine sq 4 [(true, 0), (true, 1), (true, 2), (true, 3)] fun T hT => ?_
  iterate 4 refine tk ?_
  refine nlS hT HF fun vw1 HG => ?_
  clear hT T HF
  go_wp2
  refine hK.out _ _ ?_; clear hK K
  show Code.wp _ _ _ _ _
  have HF := HG; clear HG
  refine wp_cond_true (by rfl) ?_
  refine wp_skip ?_
  show Code.wp _ _ _ _ _
  refine wp_seq ?_
  refine wp_block ?_
  have hd1 : ¬ (C < ((k00 : Int))) := ok
  have hd2 : ¬ (C < ((k01 : Int))) := ok
  have lx9 := (BX9.out.gr HF.out.1).cells
  refine kS fun K hK => ?_
  refine sq 19 [(true, 0), (true, 1), (true, 2), (true, 3), (true, 4), (true, 5), (true, 6), (true, 7), (true, 8), (true, 9), (true, 10), (true, 11), (true, 12), (true, 13), (true, 14), (true, 15), (true, 16), (true, 17), (true, 18)] fun T hT => ?_
  iterate 19 refine tk ?_
  refine nlS hT HF fun vw2 HG => ?_
  clear hT T HF lx9
  go_wp2
  refine hK.out _ _ ?_; clear hK K
  show Code.wp _ _ _ _ _
  have HF := HG; clear HG
  clear hd1 hd2
  refine wp_cond_false (by rfl) ?_
  refine wp_skip ?_
  show Code.wp _ _ _ _ _
  refine kL fun K hK => ?_
  refine sq 3 [(true, 0), (true, 1), (true, 2)] fun T hT => ?_
  iterate 3 refine tk ?_
  refine nlS hT HF fun vw3 HG => ?_
  clear hT T HF
  go_wp2
  refine hK.out _ _ ?_; clear hK K
  show Code.rounds _ _ _ _ _ _
  rw [rounds_succ]
  have HF := HG; clear HG
  refine wp_seq ?_
  refine kS fun K hK => ?_
  refine sq 4 [(true, 0), (true, 1), (true, 2), (true, 3)] fun T hT => ?_
  iterate 4 refine tk ?_
  refine nlS hT HF fun vw4 HG => ?_
  clear hT T HF
  go_wp2
  refine hK.out _ _ ?_; clear hK K
  show Code.wp _ _ _ _ _
  have HF := HG; clear HG
  refine wp_cond_true (by rfl) ?_
  refine wp_skip ?_
  show Code.wp _ _ _ _ _
  refine wp_seq ?_
  refine wp_block ?_
  have hd3 : C < ((k10 : Int)) := ok
  have lx9 := (BX9.out.gr HF.out.1).cells
  refine kS fun K hK => ?_
  refine sq 19 [(true, 0), (true, 1), (true, 2), (true, 3), (true, 4), (true, 5), (true, 6), (true, 7), (true, 8), (true, 9), (true, 10), (true, 11), (true, 12), (true, 13), (true, 14), (true, 15), (true, 16), (true, 17), (true, 18)] fun T hT => ?_
  iterate 10 refine tk ?_
  iterate 8 refine sk ?_
  refine tk ?_
  refine nlS hT HF fun vw5 HG => ?_
  clear hT T HF lx9
  go_wp2
  refine hK.out _ _ ?_; clear hK K
  show Code.wp _ _ _ _ _
  have HF := HG; clear HG
  clear hd3
  refine wp_cond_true (by rfl) ?_
  refine kS fun K hK => ?_
  refine wp_region_lit ?_
  go_wp2
  refine hK.out _ _ ?_; clear hK K
  show Code.wp _ _ _ _ _
  refine fH (HF.out) fun Wx5 HG => ?_
  clear HF; have HF := HG; clear HG
  refine wp_ret ?_
  try simp only [Exit.then, Exit.inBlock]
  exact bodyPost_ret (v := .bool false) (by simp [results, Tryz.results53, go_sem]) rfl ⟨rfl, HF.out.1⟩

set_option maxRecDepth 20000 in
set_option maxHeartbeats 2000000 in
theorem qfew2_no3 (b0 : Bool) (ao00 : Option Addr) (k00 c00 : Nat) (ao01 : Option Addr) (k01 c01 : Nat) (b1 : Bool) (ao10 : Option Addr) (k10 c10 : Nat) (ao11 : Option Addr) (k11 c11 : Nat) (C : Int) (g : Nat) (w : World) (bx9 : Bx w g 88 #[.bool (b0), (.slice ao00 k00 c00), (.slice ao01 k01 c01), .bool (b1), (.slice ao10 k10 c10), (.slice ao11 k11 c11)]) (h00 : (k00 : Int) ≤ C) (h01 : (k01 : Int) ≤ C) (h10 : (k10 : Int) ≤ C) (h11 : C < (k11 : Int)) :
    Calls Tryz.prog 53 #[.int .i64 C, .slice (some ⟨g, 0, none⟩) 2 2] w fun e w' => e = .returned (.bool false) ∧ Below w.heap.size w w' := by
  have hw1 : IntKind.i64.wrap 1 = 1 := by decide
  have hw2 : IntKind.i64.wrap 2 = 2 := by decide
  have hw3 : IntKind.i64.wrap 3 = 3 := by decide
  go_enter Tryz.func53, Tryz.ntmps53
  have HF := Lib.hid (hp0 w)
  have BX9 := Lib.hid bx9; clear bx9
  refine kS fun K hK => ?_
  refine wp_region_lit ?_
  go_wp2
  refine hK.out _ _ ?_; clear hK K
  show Code.wp _ _ _ _ _
  refine fH (HF.out) fun Wx0 HG => ?_
  clear HF; have HF := HG; clear HG
  refine wp_seq ?_
  refine kS fun K hK => ?_
  refine wp_region_lit ?_
  go_wp2
  refine hK.out _ _ ?_; clear hK K
  show Code.wp _ _ _ _ _
  refine fH (HF.out) fun Wx1 HG => ?_
  clear HF; have HF := HG; clear HG
  refine wp_block ?_
  refine wp_loop_rounds 12 ?_
  rw [rounds_succ]
  refine wp_seq ?_
  refine kS fun K hK => ?_
  refine sq 4 [(true, 0), (true, 1), (true, 2), (true, 3)] fun T hT => ?_
  iterate 4 refine tk ?_
  refine nlS hT HF fun vw1 HG => ?_
  clear hT T HF
  go_wp2
  refine hK.out _ _ ?_; clear hK K
  show Code.wp _ _ _ _ _
  have HF := HG; clear HG
  refine wp_cond_true (by rfl) ?_
  refine wp_skip ?_
  show Code.wp _ _ _ _ _
  refine wp_seq ?_
  refine wp_block ?_
  have hd1 : ¬ (C < ((k00 : Int))) := ok
  have hd2 : ¬ (C < ((k01 : Int))) := ok
  have lx9 := (BX9.out.gr HF.out.1).cells
  refine kS fun K hK => ?_
  refine sq 19 [(true, 0), (true, 1), (true, 2), (true, 3), (true, 4), (true, 5), (true, 6), (true, 7), (true, 8), (true, 9), (true, 10), (true, 11), (true, 12), (true, 13), (true, 14), (true, 15), (true, 16), (true, 17), (true, 18)] fun T hT => ?_
  iterate 19 refine tk ?_
  refine nlS hT HF fun vw2 HG => ?_
  clear hT T HF lx9
  go_wp2
  refine hK.out _ _ ?_; clear hK K
  show Code.wp _ _ _ _ _
  have HF := HG; clear HG
  clear hd1 hd2
  refine wp_cond_false (by rfl) ?_
  refine wp_skip ?_
  show Code.wp _ _ _ _ _
  refine kL fun K hK => ?_
  refine sq 3 [(true, 0), (true, 1), (true, 2)] fun T hT => ?_
  iterate 3 refine tk ?_
  refine nlS hT HF fun vw3 HG => ?_
  clear hT T HF
  go_wp2
  refine hK.out _ _ ?_; clear hK K
  show Code.rounds _ _ _ _ _ _
  rw [rounds_succ]
  have HF := HG; clear HG
  refine wp_seq ?_
  refine kS fun K hK => ?_
  refine sq 4 [(true, 0), (true, 1), (true, 2), (true, 3)] fun T hT => ?_
  iterate 4 refine tk ?_
  refine nlS hT HF fun vw4 HG => ?_
  clear hT T HF
  go_wp2
  refine hK.out _ _ ?_; clear hK K
  show Code.wp _ _ _ _ _
  have HF := HG; clear HG
  refine wp_cond_true (by rfl) ?_
  refine wp_skip ?_
  show Code.wp _ _ _ _ _
  refine wp_seq ?_
  refine wp_block ?_
  have hd3 : ¬ (C < ((k10 : Int))) := ok
  have hd4 : C < ((k11 : Int)) := ok
  have lx9 := (BX9.out.gr HF.out.1).cells
  refine kS fun K hK => ?_
  refine sq 19 [(true, 0), (true, 1), (true, 2), (true, 3), (true, 4), (true, 5), (true, 6), (true, 7), (true, 8), (true, 9), (true, 10), (true, 11), (true, 12), (true, 13), (true, 14), (true, 15), (true, 16), (true, 17), (true, 18)] fun T hT => ?_
  iterate 19 refine tk ?_
  refine nlS hT HF fun vw5 HG => ?_
  clear hT T HF lx9
  go_wp2
  refine hK.out _ _ ?_; clear hK K
  show Code.wp _ _ _ _ _
  have HF := HG; clear HG
  clear hd3 hd4
  refine wp_cond_true (by rfl) ?_
  refine kS fun K hK => ?_
  refine wp_region_lit ?_
  go_wp2
  refine hK.out _ _ ?_; clear hK K
  show Code.wp _ _ _ _ _
  refine fH (HF.out) fun Wx5 HG => ?_
  clear HF; have HF := HG; clear HG
  refine wp_ret ?_
  try simp only [Exit.then, Exit.inBlock]
  exact bodyPost_ret (v := .bool false) (by simp [results, Tryz.results53, go_sem]) rfl ⟨rfl, HF.out.1⟩

set_option maxRecDepth 20000 in
set_option maxHeartbeats 2000000 in
theorem qfew2_ok (b0 : Bool) (ao00 : Option Addr) (k00 c00 : Nat) (ao01 : Option Addr) (k01 c01 : Nat) (b1 : Bool) (ao10 : Option Addr) (k10 c10 : Nat) (ao11 : Option Addr) (k11 c11 : Nat) (C : Int) (g : Nat) (w : World) (bx9 : Bx w g 88 #[.bool (b0), (.slice ao00 k00 c00), (.slice ao01 k01 c01), .bool (b1), (.slice ao10 k10 c10), (.slice ao11 k11 c11)]) (h00 : (k00 : Int) ≤ C) (h01 : (k01 : Int) ≤ C) (h10 : (k10 : Int) ≤ C) (h11 : (k11 : Int) ≤ C) :
    Calls Tryz.prog 53 #[.int .i64 C, .slice (some ⟨g, 0, none⟩) 2 2] w fun e w' => e = .returned (.bool true) ∧ Below w.heap.size w w' := by
  have hw1 : IntKind.i64.wrap 1 = 1 := by decide
  have hw2 : IntKind.i64.wrap 2 = 2 := by decide
  have hw3 : IntKind.i64.wrap 3 = 3 := by decide
  go_enter Tryz.func53, Tryz.ntmps53
  have HF := Lib.hid (hp0 w)
  have BX9 := Lib.hid bx9; clear bx9
  refine kS fun K hK => ?_
  refine wp_region_lit ?_
  go_wp2
  refine hK.out _ _ ?_; clear hK K
  show Code.wp _ _ _ _ _
  refine fH (HF.out) fun Wx0 HG => ?_
  clear HF; have HF := HG; clear HG
  refine wp_seq ?_
  refine kS fun K hK => ?_
  refine wp_region_lit ?_
  go_wp2
  refine hK.out _ _ ?_; clear hK K
  show Code.wp _ _ _ _ _
  refine fH (HF.out) fun Wx1 HG => ?_
  clear HF; have HF := HG; clear HG
  refine wp_block ?_
  refine wp_loop_rounds 12 ?_
  rw [rounds_succ]
  refine wp_seq ?_
  refine kS fun K hK => ?_
  refine sq 4 [(true, 0), (true, 1), (true, 2), (true, 3)] fun T hT => ?_
  iterate 4 refine tk ?_
  refine nlS hT HF fun vw1 HG => ?_
  clear hT T HF
  go_wp2
  refine hK.out _ _ ?_; clear hK K
  show Code.wp _ _ _ _ _
  have HF := HG; clear HG
  refine wp_cond_true (by rfl) ?_
  refine wp_skip ?_
  show Code.wp _ _ _ _ _
  refine wp_seq ?_
  refine wp_block ?_
  have hd1 : ¬ (C < ((k00 : Int))) := ok
  have hd2 : ¬ (C < ((k01 : Int))) := ok
  have lx9 := (BX9.out.gr HF.out.1).cells
  refine kS fun K hK => ?_
  refine sq 19 [(true, 0), (true, 1), (true, 2), (true, 3), (true, 4), (true, 5), (true, 6), (true, 7), (true, 8), (true, 9), (true, 10), (true, 11), (true, 12), (true, 13), (true, 14), (true, 15), (true, 16), (true, 17), (true, 18)] fun T hT => ?_
  iterate 19 refine tk ?_
  refine nlS hT HF fun vw2 HG => ?_
  clear hT T HF lx9
  go_wp2
  refine hK.out _ _ ?_; clear hK K
  show Code.wp _ _ _ _ _
  have HF := HG; clear HG
  clear hd1 hd2
  refine wp_cond_false (by rfl) ?_
  refine wp_skip ?_
  show Code.wp _ _ _ _ _
  refine kL fun K hK => ?_
  refine sq 3 [(true, 0), (true, 1), (true, 2)] fun T hT => ?_
  iterate 3 refine tk ?_
  refine nlS hT HF fun vw3 HG => ?_
  clear hT T HF
  go_wp2
  refine hK.out _ _ ?_; clear hK K
  show Code.rounds _ _ _ _ _ _
  rw [rounds_succ]
  have HF := HG; clear HG
  refine wp_seq ?_
  refine kS fun K hK => ?_
  refine sq 4 [(true, 0), (true, 1), (true, 2), (true, 3)] fun T hT => ?_
  iterate 4 refine tk ?_
  refine nlS hT HF fun vw4 HG => ?_
  clear hT T HF
  go_wp2
  refine hK.out _ _ ?_; clear hK K
  show Code.wp _ _ _ _ _
  have HF := HG; clear HG
  refine wp_cond_true (by rfl) ?_
  refine wp_skip ?_
  show Code.wp _ _ _ _ _
  refine wp_seq ?_
  refine wp_block ?_
  have hd3 : ¬ (C < ((k10 : Int))) := ok
  have hd4 : ¬ (C < ((k11 : Int))) := ok
  have lx9 := (BX9.out.gr HF.out.1).cells
  refine kS fun K hK => ?_
  refine sq 19 [(true, 0), (true, 1), (true, 2), (true, 3), (true, 4), (true, 5), (true, 6), (true, 7), (true, 8), (true, 9), (true, 10), (true, 11), (true, 12), (true, 13), (true, 14), (true, 15), (true, 16), (true, 17), (true, 18)] fun T hT => ?_
  iterate 19 refine tk ?_
  refine nlS hT HF fun vw5 HG => ?_
  clear hT T HF lx9
  go_wp2
  refine hK.out _ _ ?_; clear hK K
  show Code.wp _ _ _ _ _
  have HF := HG; clear HG
  clear hd3 hd4
  refine wp_cond_false (by rfl) ?_
  refine wp_skip ?_
  show Code.wp _ _ _ _ _
  refine kL fun K hK => ?_
  refine sq 3 [(true, 0), (true, 1), (true, 2)] fun T hT => ?_
  iterate 3 refine tk ?_
  refine nlS hT HF fun vw6 HG => ?_
  clear hT T HF
  go_wp2
  refine hK.out _ _ ?_; clear hK K
  show Code.rounds _ _ _ _ _ _
  rw [rounds_succ]
  have HF := HG; clear HG
  refine wp_seq ?_
  refine kS fun K hK => ?_
  refine sq 4 [(true, 0), (true, 1), (true, 2), (true, 3)] fun T hT => ?_
  iterate 4 refine tk ?_
  refine nlS hT HF fun vw7 HG => ?_
  clear hT T HF
  go_wp2
  refine hK.out _ _ ?_; clear hK K
  show Code.wp _ _ _ _ _
  have HF := HG; clear HG
  refine wp_cond_false (by rfl) ?_
  refine wp_exit ?_
  show Code.wp _ _ _ _ _
  refine kS fun K hK => ?_
  refine wp_region_lit ?_
  go_wp2
  refine hK.out _ _ ?_; clear hK K
  show Code.wp _ _ _ _ _
  refine fH (HF.out) fun Wx6 HG => ?_
  clear HF; have HF := HG; clear HG
  refine wp_ret ?_
  try simp only [Exit.then, Exit.inBlock]
  exact bodyPost_ret (v := .bool true) (by simp [results, Tryz.results53, go_sem]) rfl ⟨rfl, HF.out.1⟩

end Go.Proofs.YtpcfncbcpknobaaGreatDoor
