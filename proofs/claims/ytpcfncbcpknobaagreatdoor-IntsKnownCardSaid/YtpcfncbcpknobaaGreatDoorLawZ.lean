
/- gussetlaw02: same, is, few. -/
import Derived.Test.YtpcfncbcpknobaaGreatDoorLawZ0
import Derived.Test.YtpcfncbcpknobaaGreatDoorHp
import Derived.Test.YtpcfncbcpknobaaGreatDoorPY
import Derived.Test.YtpcfncbcpknobaaGreatDoorPQ
import Derived.Test.YtpcfncbcpknobaaGreatDoorRefParse2
import Derived.Test.YtpcfncbcpknobaaGreatDoorZrG
import Derived.Test.YtpcfncbcpknobaaGreatDoorPJ
namespace Go.Proofs.YtpcfncbcpknobaaGreatDoor
open Go.RowKit
set_option linter.unusedSimpArgs false
set_option linter.unusedVariables false
attribute [local go_sem ↓] Go.wp_at_zero Go.wp_at_succ
attribute [local go_sem ↓] eq_nat eq_nat_zero eq_int
set_option maxRecDepth 20000 in
set_option maxHeartbeats 4000000 in
theorem is_any (a n : Int) (b : Bool) (w : World) (HAB : Hid (decide (a = n) = b)) (h1 : -9223372036854775808 ≤ n) (h2 : n ≤ 9223372036854775807) :
    Calls Tryz.prog 119 #[(Value.agg #[.int .u64 ((lo (Int.natAbs (a)) : Nat) : Int), .string (bg (Int.natAbs (a))), .bool (decide ((a) < 0))]), .int .i64 (n)] w fun e w' => e = .returned ((.bool b)) ∧ Below w.heap.size w w' := by
  go_enter Tryz.func119, Tryz.ntmps119
  have HF := Lib.hid (hp0 w)
  refine kS fun K hK => ?_
  refine wp_region_lit ?_
  go_wp2
  refine hK.out _ _ ?_; clear hK K
  show Code.wp _ _ _ _ _
  refine fH ((HF.out).al (b := w.heap.size) (by first | rfl | simp) (by decide)) fun Wx0 HG => ?_
  clear HF; have HF := HG; clear HG
  have su1 : wl (Int.natAbs (n)) ≤ 2 := wl_i64 om om
  have hdb : decide (a = n) = b := HAB.out
  have lx0 := HF.out.c 0 rfl
  refine kS fun K hK => ?_
  refine pd 4 [(true, 0), (true, 1), (true, 2), (true, 3)] fun T hT => ?_
  iterate 2 refine tk ?_
  refine ck Tryz.call93 (fun w' hw => iof_any (n) _ om om) ?_
  refine tk ?_
  refine nlD hT HF fun vw1 HG => ?_
  clear hT T HF lx0
  go_wp2
  refine hK.out _ _ ?_; clear hK K
  show Code.wp _ _ _ _ _
  refine fH ((HG.out).er 0) fun Wx1 HF => ?_
  clear HG
  clear hdb
  refine wp_ret ?_
  try simp only [Exit.then, Exit.inBlock]
  exact bodyPost_ret (v := .bool (b)) (by simp [results, Tryz.results119, go_sem]) rfl ⟨rfl, HF.out.1⟩

set_option maxHeartbeats 2000000 in
theorem samez_any (a r : Int) (va : Value) (w : World) (h : a = r) (bx22 : Rn w va r.natAbs) (ha : wl a.natAbs ≤ 900000) (hb : tw r.natAbs ≤ 10000000) (HT : Hid (Tab w)) :
    Calls Tryz.prog 107 #[(Value.agg #[.int .u64 ((lo (Int.natAbs (a)) : Nat) : Int), .string (bg (Int.natAbs (a))), .bool (decide ((a) < 0))]), .agg #[.bool (decide (r < 0)), va]] w fun e w' => e = .returned (.bool true) ∧ Below w.heap.size w w' := by
  subst h
  obtain ⟨ao_va, n_va, c_va, rfl⟩ := Rn.sl bx22
  go_enter Tryz.func107, Tryz.ntmps107
  have HF := Lib.hid (hp0 w)
  replace HF := Lib.hid (HF.out.ar bx22)
  simp only [lF, lG] at HF
  clear bx22
  refine kS fun K hK => ?_
  refine wp_region_lit ?_
  go_wp2
  refine hK.out _ _ ?_; clear hK K
  show Code.wp _ _ _ _ _
  refine fH (((HF.out).al (b := w.heap.size) (by first | rfl | simp) (by decide)).al (b := w.heap.size + 1) (by first | rfl | simp) (by decide)) fun Wx0 HG => ?_
  clear HF; have HF := HG; clear HG
  generalize w.heap.size + 1 = gx24 at *
  have HB := HPb HF
  have hse : ((itx a).toList == (itx a).toList) = true := by simp
  have lx23 := HF.out.c 1 rfl
  have lx24 := HF.out.c 2 rfl
  refine kS fun K hK => ?_
  refine pd 5 [(true, 0), (true, 2), (true, 1), (true, 3), (true, 4)] fun T hT => ?_
  iterate 2 refine tk ?_
  refine ck Tryz.call72 (fun w' hw => itext_any (a) _ om (Lib.hid (HT.out.gr (Gr.trans HB.out hw)))) ?_
  refine ck Tryz.call87 (fun w' hw => rtextZ_any (a) _ _ (HF.out.r 0 rfl hw) (by omega)) ?_
  refine tk ?_
  refine nlD hT HF fun vw1 HG => ?_
  clear hT T HF lx23 lx24 HB
  go_wp2
  refine hK.out _ _ ?_; clear hK K
  show Code.wp _ _ _ _ _
  refine fH ((((HG.out).er 2).er 1).er 0) fun Wx1 HF => ?_
  clear HG
  clear hse
  refine wp_ret ?_
  try simp only [Exit.then, Exit.inBlock]
  exact bodyPost_ret (v := .bool true) (by simp [results, Tryz.results107, go_sem]) rfl ⟨rfl, HF.out.1⟩
set_option maxRecDepth 20000 in
set_option maxHeartbeats 2000000 in
theorem few1_no0 (b0 : Bool) (ao0 : Option Addr) (k0 c0 : Nat) (C : Int) (g : Nat) (w : World) (bx9 : Bx w g 25 #[.bool (b0), (.slice ao0 k0 c0)]) (h0 : C < (k0 : Int)) :
    Calls Tryz.prog 104 #[.int .i64 C, .slice (some ⟨g, 0, none⟩) 1 1] w fun e w' => e = .returned (.bool false) ∧ Below w.heap.size w w' := by
  have hw1 : IntKind.i64.wrap 1 = 1 := by decide
  have hw2 : IntKind.i64.wrap 2 = 2 := by decide
  have hw3 : IntKind.i64.wrap 3 = 3 := by decide
  go_enter Tryz.func104, Tryz.ntmps104
  have HF := Lib.hid (hp0 w)
  have BX9 := Lib.hid bx9; clear bx9
  refine kS fun K hK => ?_
  refine wp_region_lit ?_
  go_wp2
  refine hK.out _ _ ?_; clear hK K
  show Code.wp _ _ _ _ _
  refine fH (HF.out) fun Wx0 HG => ?_
  clear HF; have HF := HG; clear HG
  refine wp_seq ?_
  refine kS fun K hK => ?_
  refine wp_region_lit ?_
  go_wp2
  refine hK.out _ _ ?_; clear hK K
  show Code.wp _ _ _ _ _
  refine fH (HF.out) fun Wx1 HG => ?_
  clear HF; have HF := HG; clear HG
  refine wp_block ?_
  refine wp_loop_rounds 12 ?_
  rw [rounds_succ]
  refine wp_seq ?_
  refine kS fun K hK => ?_
  refine sq 4 [(true, 0), (true, 1), (true, 2), (true, 3)] fun T hT => ?_
  iterate 4 refine tk ?_
  refine nlS hT HF fun vw1 HG => ?_
  clear hT T HF
  go_wp2
  refine hK.out _ _ ?_; clear hK K
  show Code.wp _ _ _ _ _
  have HF := HG; clear HG
  refine wp_cond_true (by rfl) ?_
  refine wp_skip ?_
  show Code.wp _ _ _ _ _
  refine wp_seq ?_
  refine wp_block ?_
  have hd1 : C < ((k0 : Int)) := ok
  have lx9 := (BX9.out.gr HF.out.1).cells
  refine kS fun K hK => ?_
  refine sq 8 [(true, 0), (true, 1), (true, 2), (true, 3), (true, 4), (true, 5), (true, 6), (true, 7)] fun T hT => ?_
  iterate 8 refine tk ?_
  refine nlS hT HF fun vw2 HG => ?_
  clear hT T HF lx9
  go_wp2
  refine hK.out _ _ ?_; clear hK K
  show Code.wp _ _ _ _ _
  have HF := HG; clear HG
  clear hd1
  refine wp_cond_true (by rfl) ?_
  refine kS fun K hK => ?_
  refine wp_region_lit ?_
  go_wp2
  refine hK.out _ _ ?_; clear hK K
  show Code.wp _ _ _ _ _
  refine fH (HF.out) fun Wx5 HG => ?_
  clear HF; have HF := HG; clear HG
  refine wp_ret ?_
  try simp only [Exit.then, Exit.inBlock]
  exact bodyPost_ret (v := .bool false) (by simp [results, Tryz.results104, go_sem]) rfl ⟨rfl, HF.out.1⟩

set_option maxRecDepth 20000 in
set_option maxHeartbeats 2000000 in
theorem few1_ok (b0 : Bool) (ao0 : Option Addr) (k0 c0 : Nat) (C : Int) (g : Nat) (w : World) (bx9 : Bx w g 25 #[.bool (b0), (.slice ao0 k0 c0)]) (h0 : (k0 : Int) ≤ C) :
    Calls Tryz.prog 104 #[.int .i64 C, .slice (some ⟨g, 0, none⟩) 1 1] w fun e w' => e = .returned (.bool true) ∧ Below w.heap.size w w' := by
  have hw1 : IntKind.i64.wrap 1 = 1 := by decide
  have hw2 : IntKind.i64.wrap 2 = 2 := by decide
  have hw3 : IntKind.i64.wrap 3 = 3 := by decide
  go_enter Tryz.func104, Tryz.ntmps104
  have HF := Lib.hid (hp0 w)
  have BX9 := Lib.hid bx9; clear bx9
  refine kS fun K hK => ?_
  refine wp_region_lit ?_
  go_wp2
  refine hK.out _ _ ?_; clear hK K
  show Code.wp _ _ _ _ _
  refine fH (HF.out) fun Wx0 HG => ?_
  clear HF; have HF := HG; clear HG
  refine wp_seq ?_
  refine kS fun K hK => ?_
  refine wp_region_lit ?_
  go_wp2
  refine hK.out _ _ ?_; clear hK K
  show Code.wp _ _ _ _ _
  refine fH (HF.out) fun Wx1 HG => ?_
  clear HF; have HF := HG; clear HG
  refine wp_block ?_
  refine wp_loop_rounds 12 ?_
  rw [rounds_succ]
  refine wp_seq ?_
  refine kS fun K hK => ?_
  refine sq 4 [(true, 0), (true, 1), (true, 2), (true, 3)] fun T hT => ?_
  iterate 4 refine tk ?_
  refine nlS hT HF fun vw1 HG => ?_
  clear hT T HF
  go_wp2
  refine hK.out _ _ ?_; clear hK K
  show Code.wp _ _ _ _ _
  have HF := HG; clear HG
  refine wp_cond_true (by rfl) ?_
  refine wp_skip ?_
  show Code.wp _ _ _ _ _
  refine wp_seq ?_
  refine wp_block ?_
  have hd1 : ¬ (C < ((k0 : Int))) := ok
  have lx9 := (BX9.out.gr HF.out.1).cells
  refine kS fun K hK => ?_
  refine sq 8 [(true, 0), (true, 1), (true, 2), (true, 3), (true, 4), (true, 5), (true, 6), (true, 7)] fun T hT => ?_
  iterate 8 refine tk ?_
  refine nlS hT HF fun vw2 HG => ?_
  clear hT T HF lx9
  go_wp2
  refine hK.out _ _ ?_; clear hK K
  show Code.wp _ _ _ _ _
  have HF := HG; clear HG
  clear hd1
  refine wp_cond_false (by rfl) ?_
  refine wp_skip ?_
  show Code.wp _ _ _ _ _
  refine kL fun K hK => ?_
  refine sq 3 [(true, 0), (true, 1), (true, 2)] fun T hT => ?_
  iterate 3 refine tk ?_
  refine nlS hT HF fun vw3 HG => ?_
  clear hT T HF
  go_wp2
  refine hK.out _ _ ?_; clear hK K
  show Code.rounds _ _ _ _ _ _
  rw [rounds_succ]
  have HF := HG; clear HG
  refine wp_seq ?_
  refine kS fun K hK => ?_
  refine sq 4 [(true, 0), (true, 1), (true, 2), (true, 3)] fun T hT => ?_
  iterate 4 refine tk ?_
  refine nlS hT HF fun vw4 HG => ?_
  clear hT T HF
  go_wp2
  refine hK.out _ _ ?_; clear hK K
  show Code.wp _ _ _ _ _
  have HF := HG; clear HG
  refine wp_cond_false (by rfl) ?_
  refine wp_exit ?_
  show Code.wp _ _ _ _ _
  refine kS fun K hK => ?_
  refine wp_region_lit ?_
  go_wp2
  refine hK.out _ _ ?_; clear hK K
  show Code.wp _ _ _ _ _
  refine fH (HF.out) fun Wx6 HG => ?_
  clear HF; have HF := HG; clear HG
  refine wp_ret ?_
  try simp only [Exit.then, Exit.inBlock]
  exact bodyPost_ret (v := .bool true) (by simp [results, Tryz.results104, go_sem]) rfl ⟨rfl, HF.out.1⟩

set_option maxRecDepth 20000 in
set_option maxHeartbeats 2000000 in
theorem few2_no0 (b0 : Bool) (ao0 : Option Addr) (k0 c0 : Nat) (b1 : Bool) (ao1 : Option Addr) (k1 c1 : Nat) (C : Int) (g : Nat) (w : World) (bx9 : Bx w g 25 #[.bool (b0), (.slice ao0 k0 c0), .bool (b1), (.slice ao1 k1 c1)]) (h0 : C < (k0 : Int)) :
    Calls Tryz.prog 104 #[.int .i64 C, .slice (some ⟨g, 0, none⟩) 2 2] w fun e w' => e = .returned (.bool false) ∧ Below w.heap.size w w' := by
  have hw1 : IntKind.i64.wrap 1 = 1 := by decide
  have hw2 : IntKind.i64.wrap 2 = 2 := by decide
  have hw3 : IntKind.i64.wrap 3 = 3 := by decide
  go_enter Tryz.func104, Tryz.ntmps104
  have HF := Lib.hid (hp0 w)
  have BX9 := Lib.hid bx9; clear bx9
  refine kS fun K hK => ?_
  refine wp_region_lit ?_
  go_wp2
  refine hK.out _ _ ?_; clear hK K
  show Code.wp _ _ _ _ _
  refine fH (HF.out) fun Wx0 HG => ?_
  clear HF; have HF := HG; clear HG
  refine wp_seq ?_
  refine kS fun K hK => ?_
  refine wp_region_lit ?_
  go_wp2
  refine hK.out _ _ ?_; clear hK K
  show Code.wp _ _ _ _ _
  refine fH (HF.out) fun Wx1 HG => ?_
  clear HF; have HF := HG; clear HG
  refine wp_block ?_
  refine wp_loop_rounds 12 ?_
  rw [rounds_succ]
  refine wp_seq ?_
  refine kS fun K hK => ?_
  refine sq 4 [(true, 0), (true, 1), (true, 2), (true, 3)] fun T hT => ?_
  iterate 4 refine tk ?_
  refine nlS hT HF fun vw1 HG => ?_
  clear hT T HF
  go_wp2
  refine hK.out _ _ ?_; clear hK K
  show Code.wp _ _ _ _ _
  have HF := HG; clear HG
  refine wp_cond_true (by rfl) ?_
  refine wp_skip ?_
  show Code.wp _ _ _ _ _
  refine wp_seq ?_
  refine wp_block ?_
  have hd1 : C < ((k0 : Int)) := ok
  have lx9 := (BX9.out.gr HF.out.1).cells
  refine kS fun K hK => ?_
  refine sq 8 [(true, 0), (true, 1), (true, 2), (true, 3), (true, 4), (true, 5), (true, 6), (true, 7)] fun T hT => ?_
  iterate 8 refine tk ?_
  refine nlS hT HF fun vw2 HG => ?_
  clear hT T HF lx9
  go_wp2
  refine hK.out _ _ ?_; clear hK K
  show Code.wp _ _ _ _ _
  have HF := HG; clear HG
  clear hd1
  refine wp_cond_true (by rfl) ?_
  refine kS fun K hK => ?_
  refine wp_region_lit ?_
  go_wp2
  refine hK.out _ _ ?_; clear hK K
  show Code.wp _ _ _ _ _
  refine fH (HF.out) fun Wx5 HG => ?_
  clear HF; have HF := HG; clear HG
  refine wp_ret ?_
  try simp only [Exit.then, Exit.inBlock]
  exact bodyPost_ret (v := .bool false) (by simp [results, Tryz.results104, go_sem]) rfl ⟨rfl, HF.out.1⟩

set_option maxRecDepth 20000 in
set_option maxHeartbeats 2000000 in
theorem few2_no1 (b0 : Bool) (ao0 : Option Addr) (k0 c0 : Nat) (b1 : Bool) (ao1 : Option Addr) (k1 c1 : Nat) (C : Int) (g : Nat) (w : World) (bx9 : Bx w g 25 #[.bool (b0), (.slice ao0 k0 c0), .bool (b1), (.slice ao1 k1 c1)]) (h0 : (k0 : Int) ≤ C) (h1 : C < (k1 : Int)) :
    Calls Tryz.prog 104 #[.int .i64 C, .slice (some ⟨g, 0, none⟩) 2 2] w fun e w' => e = .returned (.bool false) ∧ Below w.heap.size w w' := by
  have hw1 : IntKind.i64.wrap 1 = 1 := by decide
  have hw2 : IntKind.i64.wrap 2 = 2 := by decide
  have hw3 : IntKind.i64.wrap 3 = 3 := by decide
  go_enter Tryz.func104, Tryz.ntmps104
  have HF := Lib.hid (hp0 w)
  have BX9 := Lib.hid bx9; clear bx9
  refine kS fun K hK => ?_
  refine wp_region_lit ?_
  go_wp2
  refine hK.out _ _ ?_; clear hK K
  show Code.wp _ _ _ _ _
  refine fH (HF.out) fun Wx0 HG => ?_
  clear HF; have HF := HG; clear HG
  refine wp_seq ?_
  refine kS fun K hK => ?_
  refine wp_region_lit ?_
  go_wp2
  refine hK.out _ _ ?_; clear hK K
  show Code.wp _ _ _ _ _
  refine fH (HF.out) fun Wx1 HG => ?_
  clear HF; have HF := HG; clear HG
  refine wp_block ?_
  refine wp_loop_rounds 12 ?_
  rw [rounds_succ]
  refine wp_seq ?_
  refine kS fun K hK => ?_
  refine sq 4 [(true, 0), (true, 1), (true, 2), (true, 3)] fun T hT => ?_
  iterate 4 refine tk ?_
  refine nlS hT HF fun vw1 HG => ?_
  clear hT T HF
  go_wp2
  refine hK.out _ _ ?_; clear hK K
  show Code.wp _ _ _ _ _
  have HF := HG; clear HG
  refine wp_cond_true (by rfl) ?_
  refine wp_skip ?_
  show Code.wp _ _ _ _ _
  refine wp_seq ?_
  refine wp_block ?_
  have hd1 : ¬ (C < ((k0 : Int))) := ok
  have lx9 := (BX9.out.gr HF.out.1).cells
  refine kS fun K hK => ?_
  refine sq 8 [(true, 0), (true, 1), (true, 2), (true, 3), (true, 4), (true, 5), (true, 6), (true, 7)] fun T hT => ?_
  iterate 8 refine tk ?_
  refine nlS hT HF fun vw2 HG => ?_
  clear hT T HF lx9
  go_wp2
  refine hK.out _ _ ?_; clear hK K
  show Code.wp _ _ _ _ _
  have HF := HG; clear HG
  clear hd1
  refine wp_cond_false (by rfl) ?_
  refine wp_skip ?_
  show Code.wp _ _ _ _ _
  refine kL fun K hK => ?_
  refine sq 3 [(true, 0), (true, 1), (true, 2)] fun T hT => ?_
  iterate 3 refine tk ?_
  refine nlS hT HF fun vw3 HG => ?_
  clear hT T HF
  go_wp2
  refine hK.out _ _ ?_; clear hK K
  show Code.rounds _ _ _ _ _ _
  rw [rounds_succ]
  have HF := HG; clear HG
  refine wp_seq ?_
  refine kS fun K hK => ?_
  refine sq 4 [(true, 0), (true, 1), (true, 2), (true, 3)] fun T hT => ?_
  iterate 4 refine tk ?_
  refine nlS hT HF fun vw4 HG => ?_
  clear hT T HF
  go_wp2
  refine hK.out _ _ ?_; clear hK K
  show Code.wp _ _ _ _ _
  have HF := HG; clear HG
  refine wp_cond_true (by rfl) ?_
  refine wp_skip ?_
  show Code.wp _ _ _ _ _
  refine wp_seq ?_
  refine wp_block ?_
  have hd2 : C < ((k1 : Int)) := ok
  have lx9 := (BX9.out.gr HF.out.1).cells
  refine kS fun K hK => ?_
  refine sq 8 [(true, 0), (true, 1), (true, 2), (true, 3), (true, 4), (true, 5), (true, 6), (true, 7)] fun T hT => ?_
  iterate 8 refine tk ?_
  refine nlS hT HF fun vw5 HG => ?_
  clear hT T HF lx9
  go_wp2
  refine hK.out _ _ ?_; clear hK K
  show Code.wp _ _ _ _ _
  have HF := HG; clear HG
  clear hd2
  refine wp_cond_true (by rfl) ?_
  refine kS fun K hK => ?_
  refine wp_region_lit ?_
  go_wp2
  refine hK.out _ _ ?_; clear hK K
  show Code.wp _ _ _ _ _
  refine fH (HF.out) fun Wx5 HG => ?_
  clear HF; have HF := HG; clear HG
  refine wp_ret ?_
  try simp only [Exit.then, Exit.inBlock]
  exact bodyPost_ret (v := .bool false) (by simp [results, Tryz.results104, go_sem]) rfl ⟨rfl, HF.out.1⟩

set_option maxRecDepth 20000 in
set_option maxHeartbeats 2000000 in
theorem few2_ok (b0 : Bool) (ao0 : Option Addr) (k0 c0 : Nat) (b1 : Bool) (ao1 : Option Addr) (k1 c1 : Nat) (C : Int) (g : Nat) (w : World) (bx9 : Bx w g 25 #[.bool (b0), (.slice ao0 k0 c0), .bool (b1), (.slice ao1 k1 c1)]) (h0 : (k0 : Int) ≤ C) (h1 : (k1 : Int) ≤ C) :
    Calls Tryz.prog 104 #[.int .i64 C, .slice (some ⟨g, 0, none⟩) 2 2] w fun e w' => e = .returned (.bool true) ∧ Below w.heap.size w w' := by
  have hw1 : IntKind.i64.wrap 1 = 1 := by decide
  have hw2 : IntKind.i64.wrap 2 = 2 := by decide
  have hw3 : IntKind.i64.wrap 3 = 3 := by decide
  go_enter Tryz.func104, Tryz.ntmps104
  have HF := Lib.hid (hp0 w)
  have BX9 := Lib.hid bx9; clear bx9
  refine kS fun K hK => ?_
  refine wp_region_lit ?_
  go_wp2
  refine hK.out _ _ ?_; clear hK K
  show Code.wp _ _ _ _ _
  refine fH (HF.out) fun Wx0 HG => ?_
  clear HF; have HF := HG; clear HG
  refine wp_seq ?_
  refine kS fun K hK => ?_
  refine wp_region_lit ?_
  go_wp2
  refine hK.out _ _ ?_; clear hK K
  show Code.wp _ _ _ _ _
  refine fH (HF.out) fun Wx1 HG => ?_
  clear HF; have HF := HG; clear HG
  refine wp_block ?_
  refine wp_loop_rounds 12 ?_
  rw [rounds_succ]
  refine wp_seq ?_
  refine kS fun K hK => ?_
  refine sq 4 [(true, 0), (true, 1), (true, 2), (true, 3)] fun T hT => ?_
  iterate 4 refine tk ?_
  refine nlS hT HF fun vw1 HG => ?_
  clear hT T HF
  go_wp2
  refine hK.out _ _ ?_; clear hK K
  show Code.wp _ _ _ _ _
  have HF := HG; clear HG
  refine wp_cond_true (by rfl) ?_
  refine wp_skip ?_
  show Code.wp _ _ _ _ _
  refine wp_seq ?_
  refine wp_block ?_
  have hd1 : ¬ (C < ((k0 : Int))) := ok
  have lx9 := (BX9.out.gr HF.out.1).cells
  refine kS fun K hK => ?_
  refine sq 8 [(true, 0), (true, 1), (true, 2), (true, 3), (true, 4), (true, 5), (true, 6), (true, 7)] fun T hT => ?_
  iterate 8 refine tk ?_
  refine nlS hT HF fun vw2 HG => ?_
  clear hT T HF lx9
  go_wp2
  refine hK.out _ _ ?_; clear hK K
  show Code.wp _ _ _ _ _
  have HF := HG; clear HG
  clear hd1
  refine wp_cond_false (by rfl) ?_
  refine wp_skip ?_
  show Code.wp _ _ _ _ _
  refine kL fun K hK => ?_
  refine sq 3 [(true, 0), (true, 1), (true, 2)] fun T hT => ?_
  iterate 3 refine tk ?_
  refine nlS hT HF fun vw3 HG => ?_
  clear hT T HF
  go_wp2
  refine hK.out _ _ ?_; clear hK K
  show Code.rounds _ _ _ _ _ _
  rw [rounds_succ]
  have HF := HG; clear HG
  refine wp_seq ?_
  refine kS fun K hK => ?_
  refine sq 4 [(true, 0), (true, 1), (true, 2), (true, 3)] fun T hT => ?_
  iterate 4 refine tk ?_
  refine nlS hT HF fun vw4 HG => ?_
  clear hT T HF
  go_wp2
  refine hK.out _ _ ?_; clear hK K
  show Code.wp _ _ _ _ _
  have HF := HG; clear HG
  refine wp_cond_true (by rfl) ?_
  refine wp_skip ?_
  show Code.wp _ _ _ _ _
  refine wp_seq ?_
  refine wp_block ?_
  have hd2 : ¬ (C < ((k1 : Int))) := ok
  have lx9 := (BX9.out.gr HF.out.1).cells
  refine kS fun K hK => ?_
  refine sq 8 [(true, 0), (true, 1), (true, 2), (true, 3), (true, 4), (true, 5), (true, 6), (true, 7)] fun T hT => ?_
  iterate 8 refine tk ?_
  refine nlS hT HF fun vw5 HG => ?_
  clear hT T HF lx9
  go_wp2
  refine hK.out _ _ ?_; clear hK K
  show Code.wp _ _ _ _ _
  have HF := HG; clear HG
  clear hd2
  refine wp_cond_false (by rfl) ?_
  refine wp_skip ?_
  show Code.wp _ _ _ _ _
  refine kL fun K hK => ?_
  refine sq 3 [(true, 0), (true, 1), (true, 2)] fun T hT => ?_
  iterate 3 refine tk ?_
  refine nlS hT HF fun vw6 HG => ?_
  clear hT T HF
  go_wp2
  refine hK.out _ _ ?_; clear hK K
  show Code.rounds _ _ _ _ _ _
  rw [rounds_succ]
  have HF := HG; clear HG
  refine wp_seq ?_
  refine kS fun K hK => ?_
  refine sq 4 [(true, 0), (true, 1), (true, 2), (true, 3)] fun T hT => ?_
  iterate 4 refine tk ?_
  refine nlS hT HF fun vw7 HG => ?_
  clear hT T HF
  go_wp2
  refine hK.out _ _ ?_; clear hK K
  show Code.wp _ _ _ _ _
  have HF := HG; clear HG
  refine wp_cond_false (by rfl) ?_
  refine wp_exit ?_
  show Code.wp _ _ _ _ _
  refine kS fun K hK => ?_
  refine wp_region_lit ?_
  go_wp2
  refine hK.out _ _ ?_; clear hK K
  show Code.wp _ _ _ _ _
  refine fH (HF.out) fun Wx6 HG => ?_
  clear HF; have HF := HG; clear HG
  refine wp_ret ?_
  try simp only [Exit.then, Exit.inBlock]
  exact bodyPost_ret (v := .bool true) (by simp [results, Tryz.results104, go_sem]) rfl ⟨rfl, HF.out.1⟩

set_option maxRecDepth 20000 in
set_option maxHeartbeats 2000000 in
theorem few3_no0 (b0 : Bool) (ao0 : Option Addr) (k0 c0 : Nat) (b1 : Bool) (ao1 : Option Addr) (k1 c1 : Nat) (b2 : Bool) (ao2 : Option Addr) (k2 c2 : Nat) (C : Int) (g : Nat) (w : World) (bx9 : Bx w g 25 #[.bool (b0), (.slice ao0 k0 c0), .bool (b1), (.slice ao1 k1 c1), .bool (b2), (.slice ao2 k2 c2)]) (h0 : C < (k0 : Int)) :
    Calls Tryz.prog 104 #[.int .i64 C, .slice (some ⟨g, 0, none⟩) 3 3] w fun e w' => e = .returned (.bool false) ∧ Below w.heap.size w w' := by
  have hw1 : IntKind.i64.wrap 1 = 1 := by decide
  have hw2 : IntKind.i64.wrap 2 = 2 := by decide
  have hw3 : IntKind.i64.wrap 3 = 3 := by decide
  go_enter Tryz.func104, Tryz.ntmps104
  have HF := Lib.hid (hp0 w)
  have BX9 := Lib.hid bx9; clear bx9
  refine kS fun K hK => ?_
  refine wp_region_lit ?_
  go_wp2
  refine hK.out _ _ ?_; clear hK K
  show Code.wp _ _ _ _ _
  refine fH (HF.out) fun Wx0 HG => ?_
  clear HF; have HF := HG; clear HG
  refine wp_seq ?_
  refine kS fun K hK => ?_
  refine wp_region_lit ?_
  go_wp2
  refine hK.out _ _ ?_; clear hK K
  show Code.wp _ _ _ _ _
  refine fH (HF.out) fun Wx1 HG => ?_
  clear HF; have HF := HG; clear HG
  refine wp_block ?_
  refine wp_loop_rounds 12 ?_
  rw [rounds_succ]
  refine wp_seq ?_
  refine kS fun K hK => ?_
  refine sq 4 [(true, 0), (true, 1), (true, 2), (true, 3)] fun T hT => ?_
  iterate 4 refine tk ?_
  refine nlS hT HF fun vw1 HG => ?_
  clear hT T HF
  go_wp2
  refine hK.out _ _ ?_; clear hK K
  show Code.wp _ _ _ _ _
  have HF := HG; clear HG
  refine wp_cond_true (by rfl) ?_
  refine wp_skip ?_
  show Code.wp _ _ _ _ _
  refine wp_seq ?_
  refine wp_block ?_
  have hd1 : C < ((k0 : Int)) := ok
  have lx9 := (BX9.out.gr HF.out.1).cells
  refine kS fun K hK => ?_
  refine sq 8 [(true, 0), (true, 1), (true, 2), (true, 3), (true, 4), (true, 5), (true, 6), (true, 7)] fun T hT => ?_
  iterate 8 refine tk ?_
  refine nlS hT HF fun vw2 HG => ?_
  clear hT T HF lx9
  go_wp2
  refine hK.out _ _ ?_; clear hK K
  show Code.wp _ _ _ _ _
  have HF := HG; clear HG
  clear hd1
  refine wp_cond_true (by rfl) ?_
  refine kS fun K hK => ?_
  refine wp_region_lit ?_
  go_wp2
  refine hK.out _ _ ?_; clear hK K
  show Code.wp _ _ _ _ _
  refine fH (HF.out) fun Wx5 HG => ?_
  clear HF; have HF := HG; clear HG
  refine wp_ret ?_
  try simp only [Exit.then, Exit.inBlock]
  exact bodyPost_ret (v := .bool false) (by simp [results, Tryz.results104, go_sem]) rfl ⟨rfl, HF.out.1⟩

set_option maxRecDepth 20000 in
set_option maxHeartbeats 2000000 in
theorem few3_no1 (b0 : Bool) (ao0 : Option Addr) (k0 c0 : Nat) (b1 : Bool) (ao1 : Option Addr) (k1 c1 : Nat) (b2 : Bool) (ao2 : Option Addr) (k2 c2 : Nat) (C : Int) (g : Nat) (w : World) (bx9 : Bx w g 25 #[.bool (b0), (.slice ao0 k0 c0), .bool (b1), (.slice ao1 k1 c1), .bool (b2), (.slice ao2 k2 c2)]) (h0 : (k0 : Int) ≤ C) (h1 : C < (k1 : Int)) :
    Calls Tryz.prog 104 #[.int .i64 C, .slice (some ⟨g, 0, none⟩) 3 3] w fun e w' => e = .returned (.bool false) ∧ Below w.heap.size w w' := by
  have hw1 : IntKind.i64.wrap 1 = 1 := by decide
  have hw2 : IntKind.i64.wrap 2 = 2 := by decide
  have hw3 : IntKind.i64.wrap 3 = 3 := by decide
  go_enter Tryz.func104, Tryz.ntmps104
  have HF := Lib.hid (hp0 w)
  have BX9 := Lib.hid bx9; clear bx9
  refine kS fun K hK => ?_
  refine wp_region_lit ?_
  go_wp2
  refine hK.out _ _ ?_; clear hK K
  show Code.wp _ _ _ _ _
  refine fH (HF.out) fun Wx0 HG => ?_
  clear HF; have HF := HG; clear HG
  refine wp_seq ?_
  refine kS fun K hK => ?_
  refine wp_region_lit ?_
  go_wp2
  refine hK.out _ _ ?_; clear hK K
  show Code.wp _ _ _ _ _
  refine fH (HF.out) fun Wx1 HG => ?_
  clear HF; have HF := HG; clear HG
  refine wp_block ?_
  refine wp_loop_rounds 12 ?_
  rw [rounds_succ]
  refine wp_seq ?_
  refine kS fun K hK => ?_
  refine sq 4 [(true, 0), (true, 1), (true, 2), (true, 3)] fun T hT => ?_
  iterate 4 refine tk ?_
  refine nlS hT HF fun vw1 HG => ?_
  clear hT T HF
  go_wp2
  refine hK.out _ _ ?_; clear hK K
  show Code.wp _ _ _ _ _
  have HF := HG; clear HG
  refine wp_cond_true (by rfl) ?_
  refine wp_skip ?_
  show Code.wp _ _ _ _ _
  refine wp_seq ?_
  refine wp_block ?_
  have hd1 : ¬ (C < ((k0 : Int))) := ok
  have lx9 := (BX9.out.gr HF.out.1).cells
  refine kS fun K hK => ?_
  refine sq 8 [(true, 0), (true, 1), (true, 2), (true, 3), (true, 4), (true, 5), (true, 6), (true, 7)] fun T hT => ?_
  iterate 8 refine tk ?_
  refine nlS hT HF fun vw2 HG => ?_
  clear hT T HF lx9
  go_wp2
  refine hK.out _ _ ?_; clear hK K
  show Code.wp _ _ _ _ _
  have HF := HG; clear HG
  clear hd1
  refine wp_cond_false (by rfl) ?_
  refine wp_skip ?_
  show Code.wp _ _ _ _ _
  refine kL fun K hK => ?_
  refine sq 3 [(true, 0), (true, 1), (true, 2)] fun T hT => ?_
  iterate 3 refine tk ?_
  refine nlS hT HF fun vw3 HG => ?_
  clear hT T HF
  go_wp2
  refine hK.out _ _ ?_; clear hK K
  show Code.rounds _ _ _ _ _ _
  rw [rounds_succ]
  have HF := HG; clear HG
  refine wp_seq ?_
  refine kS fun K hK => ?_
  refine sq 4 [(true, 0), (true, 1), (true, 2), (true, 3)] fun T hT => ?_
  iterate 4 refine tk ?_
  refine nlS hT HF fun vw4 HG => ?_
  clear hT T HF
  go_wp2
  refine hK.out _ _ ?_; clear hK K
  show Code.wp _ _ _ _ _
  have HF := HG; clear HG
  refine wp_cond_true (by rfl) ?_
  refine wp_skip ?_
  show Code.wp _ _ _ _ _
  refine wp_seq ?_
  refine wp_block ?_
  have hd2 : C < ((k1 : Int)) := ok
  have lx9 := (BX9.out.gr HF.out.1).cells
  refine kS fun K hK => ?_
  refine sq 8 [(true, 0), (true, 1), (true, 2), (true, 3), (true, 4), (true, 5), (true, 6), (true, 7)] fun T hT => ?_
  iterate 8 refine tk ?_
  refine nlS hT HF fun vw5 HG => ?_
  clear hT T HF lx9
  go_wp2
  refine hK.out _ _ ?_; clear hK K
  show Code.wp _ _ _ _ _
  have HF := HG; clear HG
  clear hd2
  refine wp_cond_true (by rfl) ?_
  refine kS fun K hK => ?_
  refine wp_region_lit ?_
  go_wp2
  refine hK.out _ _ ?_; clear hK K
  show Code.wp _ _ _ _ _
  refine fH (HF.out) fun Wx5 HG => ?_
  clear HF; have HF := HG; clear HG
  refine wp_ret ?_
  try simp only [Exit.then, Exit.inBlock]
  exact bodyPost_ret (v := .bool false) (by simp [results, Tryz.results104, go_sem]) rfl ⟨rfl, HF.out.1⟩

set_option maxRecDepth 20000 in
set_option maxHeartbeats 2000000 in
theorem few3_no2 (b0 : Bool) (ao0 : Option Addr) (k0 c0 : Nat) (b1 : Bool) (ao1 : Option Addr) (k1 c1 : Nat) (b2 : Bool) (ao2 : Option Addr) (k2 c2 : Nat) (C : Int) (g : Nat) (w : World) (bx9 : Bx w g 25 #[.bool (b0), (.slice ao0 k0 c0), .bool (b1), (.slice ao1 k1 c1), .bool (b2), (.slice ao2 k2 c2)]) (h0 : (k0 : Int) ≤ C) (h1 : (k1 : Int) ≤ C) (h2 : C < (k2 : Int)) :
    Calls Tryz.prog 104 #[.int .i64 C, .slice (some ⟨g, 0, none⟩) 3 3] w fun e w' => e = .returned (.bool false) ∧ Below w.heap.size w w' := by
  have hw1 : IntKind.i64.wrap 1 = 1 := by decide
  have hw2 : IntKind.i64.wrap 2 = 2 := by decide
  have hw3 : IntKind.i64.wrap 3 = 3 := by decide
  go_enter Tryz.func104, Tryz.ntmps104
  have HF := Lib.hid (hp0 w)
  have BX9 := Lib.hid bx9; clear bx9
  refine kS fun K hK => ?_
  refine wp_region_lit ?_
  go_wp2
  refine hK.out _ _ ?_; clear hK K
  show Code.wp _ _ _ _ _
  refine fH (HF.out) fun Wx0 HG => ?_
  clear HF; have HF := HG; clear HG
  refine wp_seq ?_
  refine kS fun K hK => ?_
  refine wp_region_lit ?_
  go_wp2
  refine hK.out _ _ ?_; clear hK K
  show Code.wp _ _ _ _ _
  refine fH (HF.out) fun Wx1 HG => ?_
  clear HF; have HF := HG; clear HG
  refine wp_block ?_
  refine wp_loop_rounds 12 ?_
  rw [rounds_succ]
  refine wp_seq ?_
  refine kS fun K hK => ?_
  refine sq 4 [(true, 0), (true, 1), (true, 2), (true, 3)] fun T hT => ?_
  iterate 4 refine tk ?_
  refine nlS hT HF fun vw1 HG => ?_
  clear hT T HF
  go_wp2
  refine hK.out _ _ ?_; clear hK K
  show Code.wp _ _ _ _ _
  have HF := HG; clear HG
  refine wp_cond_true (by rfl) ?_
  refine wp_skip ?_
  show Code.wp _ _ _ _ _
  refine wp_seq ?_
  refine wp_block ?_
  have hd1 : ¬ (C < ((k0 : Int))) := ok
  have lx9 := (BX9.out.gr HF.out.1).cells
  refine kS fun K hK => ?_
  refine sq 8 [(true, 0), (true, 1), (true, 2), (true, 3), (true, 4), (true, 5), (true, 6), (true, 7)] fun T hT => ?_
  iterate 8 refine tk ?_
  refine nlS hT HF fun vw2 HG => ?_
  clear hT T HF lx9
  go_wp2
  refine hK.out _ _ ?_; clear hK K
  show Code.wp _ _ _ _ _
  have HF := HG; clear HG
  clear hd1
  refine wp_cond_false (by rfl) ?_
  refine wp_skip ?_
  show Code.wp _ _ _ _ _
  refine kL fun K hK => ?_
  refine sq 3 [(true, 0), (true, 1), (true, 2)] fun T hT => ?_
  iterate 3 refine tk ?_
  refine nlS hT HF fun vw3 HG => ?_
  clear hT T HF
  go_wp2
  refine hK.out _ _ ?_; clear hK K
  show Code.rounds _ _ _ _ _ _
  rw [rounds_succ]
  have HF := HG; clear HG
  refine wp_seq ?_
  refine kS fun K hK => ?_
  refine sq 4 [(true, 0), (true, 1), (true, 2), (true, 3)] fun T hT => ?_
  iterate 4 refine tk ?_
  refine nlS hT HF fun vw4 HG => ?_
  clear hT T HF
  go_wp2
  refine hK.out _ _ ?_; clear hK K
  show Code.wp _ _ _ _ _
  have HF := HG; clear HG
  refine wp_cond_true (by rfl) ?_
  refine wp_skip ?_
  show Code.wp _ _ _ _ _
  refine wp_seq ?_
  refine wp_block ?_
  have hd2 : ¬ (C < ((k1 : Int))) := ok
  have lx9 := (BX9.out.gr HF.out.1).cells
  refine kS fun K hK => ?_
  refine sq 8 [(true, 0), (true, 1), (true, 2), (true, 3), (true, 4), (true, 5), (true, 6), (true, 7)] fun T hT => ?_
  iterate 8 refine tk ?_
  refine nlS hT HF fun vw5 HG => ?_
  clear hT T HF lx9
  go_wp2
  refine hK.out _ _ ?_; clear hK K
  show Code.wp _ _ _ _ _
  have HF := HG; clear HG
  clear hd2
  refine wp_cond_false (by rfl) ?_
  refine wp_skip ?_
  show Code.wp _ _ _ _ _
  refine kL fun K hK => ?_
  refine sq 3 [(true, 0), (true, 1), (true, 2)] fun T hT => ?_
  iterate 3 refine tk ?_
  refine nlS hT HF fun vw6 HG => ?_
  clear hT T HF
  go_wp2
  refine hK.out _ _ ?_; clear hK K
  show Code.rounds _ _ _ _ _ _
  rw [rounds_succ]
  have HF := HG; clear HG
  refine wp_seq ?_
  refine kS fun K hK => ?_
  refine sq 4 [(true, 0), (true, 1), (true, 2), (true, 3)] fun T hT => ?_
  iterate 4 refine tk ?_
  refine nlS hT HF fun vw7 HG => ?_
  clear hT T HF
  go_wp2
  refine hK.out _ _ ?_; clear hK K
  show Code.wp _ _ _ _ _
  have HF := HG; clear HG
  refine wp_cond_true (by rfl) ?_
  refine wp_skip ?_
  show Code.wp _ _ _ _ _
  refine wp_seq ?_
  refine wp_block ?_
  have hd3 : C < ((k2 : Int)) := ok
  have lx9 := (BX9.out.gr HF.out.1).cells
  refine kS fun K hK => ?_
  refine sq 8 [(true, 0), (true, 1), (true, 2), (true, 3), (true, 4), (true, 5), (true, 6), (true, 7)] fun T hT => ?_
  iterate 8 refine tk ?_
  refine nlS hT HF fun vw8 HG => ?_
  clear hT T HF lx9
  go_wp2
  refine hK.out _ _ ?_; clear hK K
  show Code.wp _ _ _ _ _
  have HF := HG; clear HG
  clear hd3
  refine wp_cond_true (by rfl) ?_
  refine kS fun K hK => ?_
  refine wp_region_lit ?_
  go_wp2
  refine hK.out _ _ ?_; clear hK K
  show Code.wp _ _ _ _ _
  refine fH (HF.out) fun Wx5 HG => ?_
  clear HF; have HF := HG; clear HG
  refine wp_ret ?_
  try simp only [Exit.then, Exit.inBlock]
  exact bodyPost_ret (v := .bool false) (by simp [results, Tryz.results104, go_sem]) rfl ⟨rfl, HF.out.1⟩

set_option maxRecDepth 20000 in
set_option maxHeartbeats 2000000 in
theorem few3_ok (b0 : Bool) (ao0 : Option Addr) (k0 c0 : Nat) (b1 : Bool) (ao1 : Option Addr) (k1 c1 : Nat) (b2 : Bool) (ao2 : Option Addr) (k2 c2 : Nat) (C : Int) (g : Nat) (w : World) (bx9 : Bx w g 25 #[.bool (b0), (.slice ao0 k0 c0), .bool (b1), (.slice ao1 k1 c1), .bool (b2), (.slice ao2 k2 c2)]) (h0 : (k0 : Int) ≤ C) (h1 : (k1 : Int) ≤ C) (h2 : (k2 : Int) ≤ C) :
    Calls Tryz.prog 104 #[.int .i64 C, .slice (some ⟨g, 0, none⟩) 3 3] w fun e w' => e = .returned (.bool true) ∧ Below w.heap.size w w' := by
  have hw1 : IntKind.i64.wrap 1 = 1 := by decide
  have hw2 : IntKind.i64.wrap 2 = 2 := by decide
  have hw3 : IntKind.i64.wrap 3 = 3 := by decide
  go_enter Tryz.func104, Tryz.ntmps104
  have HF := Lib.hid (hp0 w)
  have BX9 := Lib.hid bx9; clear bx9
  refine kS fun K hK => ?_
  refine wp_region_lit ?_
  go_wp2
  refine hK.out _ _ ?_; clear hK K
  show Code.wp _ _ _ _ _
  refine fH (HF.out) fun Wx0 HG => ?_
  clear HF; have HF := HG; clear HG
  refine wp_seq ?_
  refine kS fun K hK => ?_
  refine wp_region_lit ?_
  go_wp2
  refine hK.out _ _ ?_; clear hK K
  show Code.wp _ _ _ _ _
  refine fH (HF.out) fun Wx1 HG => ?_
  clear HF; have HF := HG; clear HG
  refine wp_block ?_
  refine wp_loop_rounds 12 ?_
  rw [rounds_succ]
  refine wp_seq ?_
  refine kS fun K hK => ?_
  refine sq 4 [(true, 0), (true, 1), (true, 2), (true, 3)] fun T hT => ?_
  iterate 4 refine tk ?_
  refine nlS hT HF fun vw1 HG => ?_
  clear hT T HF
  go_wp2
  refine hK.out _ _ ?_; clear hK K
  show Code.wp _ _ _ _ _
  have HF := HG; clear HG
  refine wp_cond_true (by rfl) ?_
  refine wp_skip ?_
  show Code.wp _ _ _ _ _
  refine wp_seq ?_
  refine wp_block ?_
  have hd1 : ¬ (C < ((k0 : Int))) := ok
  have lx9 := (BX9.out.gr HF.out.1).cells
  refine kS fun K hK => ?_
  refine sq 8 [(true, 0), (true, 1), (true, 2), (true, 3), (true, 4), (true, 5), (true, 6), (true, 7)] fun T hT => ?_
  iterate 8 refine tk ?_
  refine nlS hT HF fun vw2 HG => ?_
  clear hT T HF lx9
  go_wp2
  refine hK.out _ _ ?_; clear hK K
  show Code.wp _ _ _ _ _
  have HF := HG; clear HG
  clear hd1
  refine wp_cond_false (by rfl) ?_
  refine wp_skip ?_
  show Code.wp _ _ _ _ _
  refine kL fun K hK => ?_
  refine sq 3 [(true, 0), (true, 1), (true, 2)] fun T hT => ?_
  iterate 3 refine tk ?_
  refine nlS hT HF fun vw3 HG => ?_
  clear hT T HF
  go_wp2
  refine hK.out _ _ ?_; clear hK K
  show Code.rounds _ _ _ _ _ _
  rw [rounds_succ]
  have HF := HG; clear HG
  refine wp_seq ?_
  refine kS fun K hK => ?_
  refine sq 4 [(true, 0), (true, 1), (true, 2), (true, 3)] fun T hT => ?_
  iterate 4 refine tk ?_
  refine nlS hT HF fun vw4 HG => ?_
  clear hT T HF
  go_wp2
  refine hK.out _ _ ?_; clear hK K
  show Code.wp _ _ _ _ _
  have HF := HG; clear HG
  refine wp_cond_true (by rfl) ?_
  refine wp_skip ?_
  show Code.wp _ _ _ _ _
  refine wp_seq ?_
  refine wp_block ?_
  have hd2 : ¬ (C < ((k1 : Int))) := ok
  have lx9 := (BX9.out.gr HF.out.1).cells
  refine kS fun K hK => ?_
  refine sq 8 [(true, 0), (true, 1), (true, 2), (true, 3), (true, 4), (true, 5), (true, 6), (true, 7)] fun T hT => ?_
  iterate 8 refine tk ?_
  refine nlS hT HF fun vw5 HG => ?_
  clear hT T HF lx9
  go_wp2
  refine hK.out _ _ ?_; clear hK K
  show Code.wp _ _ _ _ _
  have HF := HG; clear HG
  clear hd2
  refine wp_cond_false (by rfl) ?_
  refine wp_skip ?_
  show Code.wp _ _ _ _ _
  refine kL fun K hK => ?_
  refine sq 3 [(true, 0), (true, 1), (true, 2)] fun T hT => ?_
  iterate 3 refine tk ?_
  refine nlS hT HF fun vw6 HG => ?_
  clear hT T HF
  go_wp2
  refine hK.out _ _ ?_; clear hK K
  show Code.rounds _ _ _ _ _ _
  rw [rounds_succ]
  have HF := HG; clear HG
  refine wp_seq ?_
  refine kS fun K hK => ?_
  refine sq 4 [(true, 0), (true, 1), (true, 2), (true, 3)] fun T hT => ?_
  iterate 4 refine tk ?_
  refine nlS hT HF fun vw7 HG => ?_
  clear hT T HF
  go_wp2
  refine hK.out _ _ ?_; clear hK K
  show Code.wp _ _ _ _ _
  have HF := HG; clear HG
  refine wp_cond_true (by rfl) ?_
  refine wp_skip ?_
  show Code.wp _ _ _ _ _
  refine wp_seq ?_
  refine wp_block ?_
  have hd3 : ¬ (C < ((k2 : Int))) := ok
  have lx9 := (BX9.out.gr HF.out.1).cells
  refine kS fun K hK => ?_
  refine sq 8 [(true, 0), (true, 1), (true, 2), (true, 3), (true, 4), (true, 5), (true, 6), (true, 7)] fun T hT => ?_
  iterate 8 refine tk ?_
  refine nlS hT HF fun vw8 HG => ?_
  clear hT T HF lx9
  go_wp2
  refine hK.out _ _ ?_; clear hK K
  show Code.wp _ _ _ _ _
  have HF := HG; clear HG
  clear hd3
  refine wp_cond_false (by rfl) ?_
  refine wp_skip ?_
  show Code.wp _ _ _ _ _
  refine kL fun K hK => ?_
  refine sq 3 [(true, 0), (true, 1), (true, 2)] fun T hT => ?_
  iterate 3 refine tk ?_
  refine nlS hT HF fun vw9 HG => ?_
  clear hT T HF
  go_wp2
  refine hK.out _ _ ?_; clear hK K
  show Code.rounds _ _ _ _ _ _
  rw [rounds_succ]
  have HF := HG; clear HG
  refine wp_seq ?_
  refine kS fun K hK => ?_
  refine sq 4 [(true, 0), (true, 1), (true, 2), (true, 3)] fun T hT => ?_
  iterate 4 refine tk ?_
  refine nlS hT HF fun vw10 HG => ?_
  clear hT T HF
  go_wp2
  refine hK.out _ _ ?_; clear hK K
  show Code.wp _ _ _ _ _
  have HF := HG; clear HG
  refine wp_cond_false (by rfl) ?_
  refine wp_exit ?_
  show Code.wp _ _ _ _ _
  refine kS fun K hK => ?_
  refine wp_region_lit ?_
  go_wp2
  refine hK.out _ _ ?_; clear hK K
  show Code.wp _ _ _ _ _
  refine fH (HF.out) fun Wx6 HG => ?_
  clear HF; have HF := HG; clear HG
  refine wp_ret ?_
  try simp only [Exit.then, Exit.inBlock]
  exact bodyPost_ret (v := .bool true) (by simp [results, Tryz.results104, go_sem]) rfl ⟨rfl, HF.out.1⟩

end Go.Proofs.YtpcfncbcpknobaaGreatDoor
