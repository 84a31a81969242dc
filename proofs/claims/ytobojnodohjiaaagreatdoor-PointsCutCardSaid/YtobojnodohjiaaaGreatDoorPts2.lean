
/- points: least, greatest. -/
import Derived.Test.YtobojnodohjiaaaGreatDoorSum
import Derived.Test.YtobojnodohjiaaaGreatDoorHp
set_option linter.unusedVariables false
set_option linter.unusedSimpArgs false
namespace Go.Proofs.YtobojnodohjiaaaGreatDoor
open Go.RowKit
attribute [local go_sem ↓] Go.wp_at_zero Go.wp_at_succ
set_option maxHeartbeats 1000000 in
theorem pleast_true (a1 a2 b1 b2 : Rat) (g : Nat) (w : World) (bx9 : Bx w g 38 #[.int .u64 ((lo (Int.natAbs ((b1).num)) : Nat) : Int), .string (bg (Int.natAbs ((b1).num))), .bool (decide (((b1).num) < 0)), .int .u64 ((lo ((b1).den - 1) : Nat) : Int), .string (bg ((b1).den - 1)), .int .u64 ((lo (Int.natAbs ((b2).num)) : Nat) : Int), .string (bg (Int.natAbs ((b2).num))), .bool (decide (((b2).num) < 0)), .int .u64 ((lo ((b2).den - 1) : Nat) : Int), .string (bg ((b2).den - 1))]) (h : Hid (plt b1 b2 a1 a2 = true)) (hs_a1 : sz a1 ≤ 10000000000) (hs_a2 : sz a2 ≤ 10000000000) (hs_b1 : sz b1 ≤ 10000000000) (hs_b2 : sz b2 ≤ 10000000000) :
    Calls Tryz.prog 186 #[(Value.agg #[.int .u64 ((lo (Int.natAbs ((a1).num)) : Nat) : Int), .string (bg (Int.natAbs ((a1).num))), .bool (decide (((a1).num) < 0)), .int .u64 ((lo ((a1).den - 1) : Nat) : Int), .string (bg ((a1).den - 1)), .int .u64 ((lo (Int.natAbs ((a2).num)) : Nat) : Int), .string (bg (Int.natAbs ((a2).num))), .bool (decide (((a2).num) < 0)), .int .u64 ((lo ((a2).den - 1) : Nat) : Int), .string (bg ((a2).den - 1))]), (Value.slice (some ⟨g, 0, none⟩) 1 1)] w fun e w' => e = .returned (.agg #[.int .u64 ((lo (Int.natAbs ((b1).num)) : Nat) : Int), .string (bg (Int.natAbs ((b1).num))), .bool (decide (((b1).num) < 0)), .int .u64 ((lo ((b1).den - 1) : Nat) : Int), .string (bg ((b1).den - 1)), .int .u64 ((lo (Int.natAbs ((b2).num)) : Nat) : Int), .string (bg (Int.natAbs ((b2).num))), .bool (decide (((b2).num) < 0)), .int .u64 ((lo ((b2).den - 1) : Nat) : Int), .string (bg ((b2).den - 1))]) ∧ Below w.heap.size w w' := by
  go_enter Tryz.func186, Tryz.ntmps186
  have HF := Lib.hid (hp0 w)
  have BX9 := Lib.hid bx9; clear bx9
  refine kS fun K hK => ?_
  refine wp_region_lit ?_
  go_wp2
  refine kO hK ?_; clear hK K
  refine fH (((HF.out).aL (w.heap.size)).aL (w.heap.size + 1)) fun Wx0 HG => ?_
  clear HF; have HF := HG; clear HG
  generalize w.heap.size + 1 = gx11 at *
  refine wp_seq ?_
  refine kS fun K hK => ?_
  refine sq 3 [(true, 0), (true, 1), (true, 2)] fun T hT => ?_
  iterate 3 refine tk ?_
  refine nlS hT HF fun vw1 HG => ?_
  clear hT T HF
  go_wp2
  refine kO hK ?_; clear hK K
  have HF := HG; clear HG
  refine wp_block ?_
  refine wp_loop_rounds 12 ?_
  rw [rounds_succ]
  refine kS fun K hK => ?_
  refine sq 1 [(true, 0)] fun T hT => ?_
  refine tk ?_
  refine nlS hT HF fun vw2 HG => ?_
  clear hT T HF
  go_wp2
  refine kO hK ?_; clear hK K
  have HF := HG; clear HG
  refine wp_seq ?_
  refine wp_cond_true (by rfl) ?_
  refine wp_skip ?_
  show Code.wp _ _ _ _ _
  refine wp_seq ?_
  refine wp_block ?_
  have lx9 := (BX9.out.gr HF.out.1).cells
  refine kS fun K hK => ?_
  refine sq 2 [(true, 0), (true, 1)] fun T hT => ?_
  iterate 2 refine tk ?_
  refine nlS hT HF fun vw3 HG => ?_
  clear hT T HF lx9
  go_wp2
  refine kO hK ?_; clear hK K
  refine fH ((HG.out).aL (vw3.heap.size)) fun Wx3 HF => ?_
  clear HG
  generalize vw3.heap.size = gx13 at *
  have lx10 := HF.out.c 0 rfl
  have lx13 := HF.out.c 2 rfl
  refine kS fun K hK => ?_
  refine sq 3 [(true, 0), (true, 1), (true, 2)] fun T hT => ?_
  iterate 2 refine tk ?_
  refine ck Tryz.call187 (fun w' hw => pless_any (b1) (b2) (a1) (a2) true _ (h.out) om om om om) ?_
  refine nlS hT HF fun vw4 HG => ?_
  clear hT T HF lx10 lx13
  go_wp2
  refine kO hK ?_; clear hK K
  have HF := HG; clear HG
  refine wp_cond_true (by rfl) ?_
  have lx13 := HF.out.c 2 rfl
  refine kL fun K hK => ?_
  refine sq 1 [(true, 0)] fun T hT => ?_
  refine tk ?_
  refine nlS hT HF fun vw5 HG => ?_
  clear hT T HF lx13
  have lx10 := HG.out.c 0 rfl; have fx10 := HG.out.f 0 rfl
  have r0 := Gr.refl vw5
  go_wp2
  refine kO hK ?_; clear hK K
  clear r0 lx10 fx10
  refine fH ((((((HG.out).put2 0 0 rfl).put2 0 2 rfl).put2 0 4 rfl).put2 0 6 rfl).put2 0 8 rfl) fun Wx5 HF => ?_
  clear HG
  refine kL fun K hK => ?_
  refine sq 2 [(true, 0), (true, 1)] fun T hT => ?_
  iterate 2 refine tk ?_
  refine nlS hT HF fun vw6 HG => ?_
  clear hT T HF
  go_wp2
  refine hK.out _ _ ?_; clear hK K
  show Code.rounds _ _ _ _ _ _
  rw [rounds_succ]
  have HF := HG; clear HG
  refine kS fun K hK => ?_
  refine sq 1 [(true, 0)] fun T hT => ?_
  refine tk ?_
  refine nlS hT HF fun vw7 HG => ?_
  clear hT T HF
  go_wp2
  refine kO hK ?_; clear hK K
  have HF := HG; clear HG
  refine wp_seq ?_
  refine wp_cond_false (by rfl) ?_
  refine wp_exit ?_
  show Code.wp _ _ _ _ _
  have lx10 := HF.out.c 0 rfl
  refine kS fun K hK => ?_
  refine sq 1 [(true, 0)] fun T hT => ?_
  refine tk ?_
  refine nlS hT HF fun vw8 HG => ?_
  clear hT T HF lx10
  have lx11 := HG.out.c 1 rfl; have fx11 := HG.out.f 1 rfl
  have r0 := Gr.refl vw8
  go_wp2
  refine kO hK ?_; clear hK K
  clear r0 lx11 fx11
  refine fH ((((((((HG.out).put2 1 0 rfl).put2 1 2 rfl).put2 1 4 rfl).put2 1 6 rfl).put2 1 8 rfl).er 2).er 0) fun Wx7 HF => ?_
  clear HG
  refine wp_ret ?_
  try simp only [Exit.then, Exit.inBlock]
  have lx11 := HF.out.c 0 rfl
  have r0 := Gr.refl Wx7
  exact bodyPost_ret (v := .agg #[.int .u64 ((lo (Int.natAbs ((b1).num)) : Nat) : Int), .string (bg (Int.natAbs ((b1).num))), .bool (decide (((b1).num) < 0)), .int .u64 ((lo ((b1).den - 1) : Nat) : Int), .string (bg ((b1).den - 1)), .int .u64 ((lo (Int.natAbs ((b2).num)) : Nat) : Int), .string (bg (Int.natAbs ((b2).num))), .bool (decide (((b2).num) < 0)), .int .u64 ((lo ((b2).den - 1) : Nat) : Int), .string (bg ((b2).den - 1))]) (by simp [results, Tryz.results186, go_sem, lx11 _ r0]) rfl ⟨rfl, HF.out.1⟩
set_option maxHeartbeats 1000000 in
theorem pleast_false (a1 a2 b1 b2 : Rat) (g : Nat) (w : World) (bx9 : Bx w g 38 #[.int .u64 ((lo (Int.natAbs ((b1).num)) : Nat) : Int), .string (bg (Int.natAbs ((b1).num))), .bool (decide (((b1).num) < 0)), .int .u64 ((lo ((b1).den - 1) : Nat) : Int), .string (bg ((b1).den - 1)), .int .u64 ((lo (Int.natAbs ((b2).num)) : Nat) : Int), .string (bg (Int.natAbs ((b2).num))), .bool (decide (((b2).num) < 0)), .int .u64 ((lo ((b2).den - 1) : Nat) : Int), .string (bg ((b2).den - 1))]) (h : Hid (plt b1 b2 a1 a2 = false)) (hs_a1 : sz a1 ≤ 10000000000) (hs_a2 : sz a2 ≤ 10000000000) (hs_b1 : sz b1 ≤ 10000000000) (hs_b2 : sz b2 ≤ 10000000000) :
    Calls Tryz.prog 186 #[(Value.agg #[.int .u64 ((lo (Int.natAbs ((a1).num)) : Nat) : Int), .string (bg (Int.natAbs ((a1).num))), .bool (decide (((a1).num) < 0)), .int .u64 ((lo ((a1).den - 1) : Nat) : Int), .string (bg ((a1).den - 1)), .int .u64 ((lo (Int.natAbs ((a2).num)) : Nat) : Int), .string (bg (Int.natAbs ((a2).num))), .bool (decide (((a2).num) < 0)), .int .u64 ((lo ((a2).den - 1) : Nat) : Int), .string (bg ((a2).den - 1))]), (Value.slice (some ⟨g, 0, none⟩) 1 1)] w fun e w' => e = .returned (.agg #[.int .u64 ((lo (Int.natAbs ((a1).num)) : Nat) : Int), .string (bg (Int.natAbs ((a1).num))), .bool (decide (((a1).num) < 0)), .int .u64 ((lo ((a1).den - 1) : Nat) : Int), .string (bg ((a1).den - 1)), .int .u64 ((lo (Int.natAbs ((a2).num)) : Nat) : Int), .string (bg (Int.natAbs ((a2).num))), .bool (decide (((a2).num) < 0)), .int .u64 ((lo ((a2).den - 1) : Nat) : Int), .string (bg ((a2).den - 1))]) ∧ Below w.heap.size w w' := by
  go_enter Tryz.func186, Tryz.ntmps186
  have HF := Lib.hid (hp0 w)
  have BX9 := Lib.hid bx9; clear bx9
  refine kS fun K hK => ?_
  refine wp_region_lit ?_
  go_wp2
  refine kO hK ?_; clear hK K
  refine fH (((HF.out).aL (w.heap.size)).aL (w.heap.size + 1)) fun Wx0 HG => ?_
  clear HF; have HF := HG; clear HG
  generalize w.heap.size + 1 = gx11 at *
  refine wp_seq ?_
  refine kS fun K hK => ?_
  refine sq 3 [(true, 0), (true, 1), (true, 2)] fun T hT => ?_
  iterate 3 refine tk ?_
  refine nlS hT HF fun vw1 HG => ?_
  clear hT T HF
  go_wp2
  refine kO hK ?_; clear hK K
  have HF := HG; clear HG
  refine wp_block ?_
  refine wp_loop_rounds 12 ?_
  rw [rounds_succ]
  refine kS fun K hK => ?_
  refine sq 1 [(true, 0)] fun T hT => ?_
  refine tk ?_
  refine nlS hT HF fun vw2 HG => ?_
  clear hT T HF
  go_wp2
  refine kO hK ?_; clear hK K
  have HF := HG; clear HG
  refine wp_seq ?_
  refine wp_cond_true (by rfl) ?_
  refine wp_skip ?_
  show Code.wp _ _ _ _ _
  refine wp_seq ?_
  refine wp_block ?_
  have lx9 := (BX9.out.gr HF.out.1).cells
  refine kS fun K hK => ?_
  refine sq 2 [(true, 0), (true, 1)] fun T hT => ?_
  iterate 2 refine tk ?_
  refine nlS hT HF fun vw3 HG => ?_
  clear hT T HF lx9
  go_wp2
  refine kO hK ?_; clear hK K
  refine fH ((HG.out).aL (vw3.heap.size)) fun Wx3 HF => ?_
  clear HG
  generalize vw3.heap.size = gx13 at *
  have lx10 := HF.out.c 0 rfl
  have lx13 := HF.out.c 2 rfl
  refine kS fun K hK => ?_
  refine sq 3 [(true, 0), (true, 1), (true, 2)] fun T hT => ?_
  iterate 2 refine tk ?_
  refine ck Tryz.call187 (fun w' hw => pless_any (b1) (b2) (a1) (a2) false _ (h.out) om om om om) ?_
  refine nlS hT HF fun vw4 HG => ?_
  clear hT T HF lx10 lx13
  go_wp2
  refine kO hK ?_; clear hK K
  have HF := HG; clear HG
  refine wp_cond_false (by rfl) ?_
  refine wp_skip ?_
  show Code.wp _ _ _ _ _
  refine kL fun K hK => ?_
  refine sq 2 [(true, 0), (true, 1)] fun T hT => ?_
  iterate 2 refine tk ?_
  refine nlS hT HF fun vw5 HG => ?_
  clear hT T HF
  go_wp2
  refine hK.out _ _ ?_; clear hK K
  show Code.rounds _ _ _ _ _ _
  rw [rounds_succ]
  have HF := HG; clear HG
  refine kS fun K hK => ?_
  refine sq 1 [(true, 0)] fun T hT => ?_
  refine tk ?_
  refine nlS hT HF fun vw6 HG => ?_
  clear hT T HF
  go_wp2
  refine kO hK ?_; clear hK K
  have HF := HG; clear HG
  refine wp_seq ?_
  refine wp_cond_false (by rfl) ?_
  refine wp_exit ?_
  show Code.wp _ _ _ _ _
  have lx10 := HF.out.c 0 rfl
  refine kS fun K hK => ?_
  refine sq 1 [(true, 0)] fun T hT => ?_
  refine tk ?_
  refine nlS hT HF fun vw7 HG => ?_
  clear hT T HF lx10
  have lx11 := HG.out.c 1 rfl; have fx11 := HG.out.f 1 rfl
  have r0 := Gr.refl vw7
  go_wp2
  refine kO hK ?_; clear hK K
  clear r0 lx11 fx11
  refine fH ((((((((HG.out).put2 1 0 rfl).put2 1 2 rfl).put2 1 4 rfl).put2 1 6 rfl).put2 1 8 rfl).er 2).er 0) fun Wx7 HF => ?_
  clear HG
  refine wp_ret ?_
  try simp only [Exit.then, Exit.inBlock]
  have lx11 := HF.out.c 0 rfl
  have r0 := Gr.refl Wx7
  exact bodyPost_ret (v := .agg #[.int .u64 ((lo (Int.natAbs ((a1).num)) : Nat) : Int), .string (bg (Int.natAbs ((a1).num))), .bool (decide (((a1).num) < 0)), .int .u64 ((lo ((a1).den - 1) : Nat) : Int), .string (bg ((a1).den - 1)), .int .u64 ((lo (Int.natAbs ((a2).num)) : Nat) : Int), .string (bg (Int.natAbs ((a2).num))), .bool (decide (((a2).num) < 0)), .int .u64 ((lo ((a2).den - 1) : Nat) : Int), .string (bg ((a2).den - 1))]) (by simp [results, Tryz.results186, go_sem, lx11 _ r0]) rfl ⟨rfl, HF.out.1⟩
theorem pleast_any (a1 a2 b1 b2 m1 m2 : Rat) (g : Nat) (w : World) (bx9 : Bx w g 38 #[.int .u64 ((lo (Int.natAbs ((b1).num)) : Nat) : Int), .string (bg (Int.natAbs ((b1).num))), .bool (decide (((b1).num) < 0)), .int .u64 ((lo ((b1).den - 1) : Nat) : Int), .string (bg ((b1).den - 1)), .int .u64 ((lo (Int.natAbs ((b2).num)) : Nat) : Int), .string (bg (Int.natAbs ((b2).num))), .bool (decide (((b2).num) < 0)), .int .u64 ((lo ((b2).den - 1) : Nat) : Int), .string (bg ((b2).den - 1))]) (r : Bool) (h : plt b1 b2 a1 a2 = r) (hm1 : (if r then b1 else a1) = m1) (hm2 : (if r then b2 else a2) = m2) (hs_a1 : sz a1 ≤ 10000000000) (hs_a2 : sz a2 ≤ 10000000000) (hs_b1 : sz b1 ≤ 10000000000) (hs_b2 : sz b2 ≤ 10000000000) :
    Calls Tryz.prog 186 #[(Value.agg #[.int .u64 ((lo (Int.natAbs ((a1).num)) : Nat) : Int), .string (bg (Int.natAbs ((a1).num))), .bool (decide (((a1).num) < 0)), .int .u64 ((lo ((a1).den - 1) : Nat) : Int), .string (bg ((a1).den - 1)), .int .u64 ((lo (Int.natAbs ((a2).num)) : Nat) : Int), .string (bg (Int.natAbs ((a2).num))), .bool (decide (((a2).num) < 0)), .int .u64 ((lo ((a2).den - 1) : Nat) : Int), .string (bg ((a2).den - 1))]), .slice (some ⟨g, 0, none⟩) 1 1] w fun e w' => e = .returned (.agg #[.int .u64 ((lo (Int.natAbs ((m1).num)) : Nat) : Int), .string (bg (Int.natAbs ((m1).num))), .bool (decide (((m1).num) < 0)), .int .u64 ((lo ((m1).den - 1) : Nat) : Int), .string (bg ((m1).den - 1)), .int .u64 ((lo (Int.natAbs ((m2).num)) : Nat) : Int), .string (bg (Int.natAbs ((m2).num))), .bool (decide (((m2).num) < 0)), .int .u64 ((lo ((m2).den - 1) : Nat) : Int), .string (bg ((m2).den - 1))]) ∧ Below w.heap.size w w' := by
  subst hm1 hm2
  cases r
  · exact pleast_false a1 a2 b1 b2 g w bx9 (Lib.hid h) hs_a1 hs_a2 hs_b1 hs_b2
  · exact pleast_true a1 a2 b1 b2 g w bx9 (Lib.hid h) hs_a1 hs_a2 hs_b1 hs_b2
set_option maxHeartbeats 1000000 in
theorem pgreatest_true (a1 a2 b1 b2 : Rat) (g : Nat) (w : World) (bx9 : Bx w g 38 #[.int .u64 ((lo (Int.natAbs ((b1).num)) : Nat) : Int), .string (bg (Int.natAbs ((b1).num))), .bool (decide (((b1).num) < 0)), .int .u64 ((lo ((b1).den - 1) : Nat) : Int), .string (bg ((b1).den - 1)), .int .u64 ((lo (Int.natAbs ((b2).num)) : Nat) : Int), .string (bg (Int.natAbs ((b2).num))), .bool (decide (((b2).num) < 0)), .int .u64 ((lo ((b2).den - 1) : Nat) : Int), .string (bg ((b2).den - 1))]) (h : Hid (plt a1 a2 b1 b2 = true)) (hs_a1 : sz a1 ≤ 10000000000) (hs_a2 : sz a2 ≤ 10000000000) (hs_b1 : sz b1 ≤ 10000000000) (hs_b2 : sz b2 ≤ 10000000000) :
    Calls Tryz.prog 185 #[(Value.agg #[.int .u64 ((lo (Int.natAbs ((a1).num)) : Nat) : Int), .string (bg (Int.natAbs ((a1).num))), .bool (decide (((a1).num) < 0)), .int .u64 ((lo ((a1).den - 1) : Nat) : Int), .string (bg ((a1).den - 1)), .int .u64 ((lo (Int.natAbs ((a2).num)) : Nat) : Int), .string (bg (Int.natAbs ((a2).num))), .bool (decide (((a2).num) < 0)), .int .u64 ((lo ((a2).den - 1) : Nat) : Int), .string (bg ((a2).den - 1))]), (Value.slice (some ⟨g, 0, none⟩) 1 1)] w fun e w' => e = .returned (.agg #[.int .u64 ((lo (Int.natAbs ((b1).num)) : Nat) : Int), .string (bg (Int.natAbs ((b1).num))), .bool (decide (((b1).num) < 0)), .int .u64 ((lo ((b1).den - 1) : Nat) : Int), .string (bg ((b1).den - 1)), .int .u64 ((lo (Int.natAbs ((b2).num)) : Nat) : Int), .string (bg (Int.natAbs ((b2).num))), .bool (decide (((b2).num) < 0)), .int .u64 ((lo ((b2).den - 1) : Nat) : Int), .string (bg ((b2).den - 1))]) ∧ Below w.heap.size w w' := by
  go_enter Tryz.func185, Tryz.ntmps185
  have HF := Lib.hid (hp0 w)
  have BX9 := Lib.hid bx9; clear bx9
  refine kS fun K hK => ?_
  refine wp_region_lit ?_
  go_wp2
  refine kO hK ?_; clear hK K
  refine fH (((HF.out).aL (w.heap.size)).aL (w.heap.size + 1)) fun Wx0 HG => ?_
  clear HF; have HF := HG; clear HG
  generalize w.heap.size + 1 = gx11 at *
  refine wp_seq ?_
  refine kS fun K hK => ?_
  refine sq 3 [(true, 0), (true, 1), (true, 2)] fun T hT => ?_
  iterate 3 refine tk ?_
  refine nlS hT HF fun vw1 HG => ?_
  clear hT T HF
  go_wp2
  refine kO hK ?_; clear hK K
  have HF := HG; clear HG
  refine wp_block ?_
  refine wp_loop_rounds 12 ?_
  rw [rounds_succ]
  refine kS fun K hK => ?_
  refine sq 1 [(true, 0)] fun T hT => ?_
  refine tk ?_
  refine nlS hT HF fun vw2 HG => ?_
  clear hT T HF
  go_wp2
  refine kO hK ?_; clear hK K
  have HF := HG; clear HG
  refine wp_seq ?_
  refine wp_cond_true (by rfl) ?_
  refine wp_skip ?_
  show Code.wp _ _ _ _ _
  refine wp_seq ?_
  refine wp_block ?_
  have lx9 := (BX9.out.gr HF.out.1).cells
  refine kS fun K hK => ?_
  refine sq 2 [(true, 0), (true, 1)] fun T hT => ?_
  iterate 2 refine tk ?_
  refine nlS hT HF fun vw3 HG => ?_
  clear hT T HF lx9
  go_wp2
  refine kO hK ?_; clear hK K
  refine fH ((HG.out).aL (vw3.heap.size)) fun Wx3 HF => ?_
  clear HG
  generalize vw3.heap.size = gx13 at *
  have lx10 := HF.out.c 0 rfl
  have lx13 := HF.out.c 2 rfl
  refine kS fun K hK => ?_
  refine sq 3 [(true, 0), (true, 1), (true, 2)] fun T hT => ?_
  iterate 2 refine tk ?_
  refine ck Tryz.call187 (fun w' hw => pless_any (a1) (a2) (b1) (b2) true _ (h.out) om om om om) ?_
  refine nlS hT HF fun vw4 HG => ?_
  clear hT T HF lx10 lx13
  go_wp2
  refine kO hK ?_; clear hK K
  have HF := HG; clear HG
  refine wp_cond_true (by rfl) ?_
  have lx13 := HF.out.c 2 rfl
  refine kL fun K hK => ?_
  refine sq 1 [(true, 0)] fun T hT => ?_
  refine tk ?_
  refine nlS hT HF fun vw5 HG => ?_
  clear hT T HF lx13
  have lx10 := HG.out.c 0 rfl; have fx10 := HG.out.f 0 rfl
  have r0 := Gr.refl vw5
  go_wp2
  refine kO hK ?_; clear hK K
  clear r0 lx10 fx10
  refine fH ((((((HG.out).put2 0 0 rfl).put2 0 2 rfl).put2 0 4 rfl).put2 0 6 rfl).put2 0 8 rfl) fun Wx5 HF => ?_
  clear HG
  refine kL fun K hK => ?_
  refine sq 2 [(true, 0), (true, 1)] fun T hT => ?_
  iterate 2 refine tk ?_
  refine nlS hT HF fun vw6 HG => ?_
  clear hT T HF
  go_wp2
  refine hK.out _ _ ?_; clear hK K
  show Code.rounds _ _ _ _ _ _
  rw [rounds_succ]
  have HF := HG; clear HG
  refine kS fun K hK => ?_
  refine sq 1 [(true, 0)] fun T hT => ?_
  refine tk ?_
  refine nlS hT HF fun vw7 HG => ?_
  clear hT T HF
  go_wp2
  refine kO hK ?_; clear hK K
  have HF := HG; clear HG
  refine wp_seq ?_
  refine wp_cond_false (by rfl) ?_
  refine wp_exit ?_
  show Code.wp _ _ _ _ _
  have lx10 := HF.out.c 0 rfl
  refine kS fun K hK => ?_
  refine sq 1 [(true, 0)] fun T hT => ?_
  refine tk ?_
  refine nlS hT HF fun vw8 HG => ?_
  clear hT T HF lx10
  have lx11 := HG.out.c 1 rfl; have fx11 := HG.out.f 1 rfl
  have r0 := Gr.refl vw8
  go_wp2
  refine kO hK ?_; clear hK K
  clear r0 lx11 fx11
  refine fH ((((((((HG.out).put2 1 0 rfl).put2 1 2 rfl).put2 1 4 rfl).put2 1 6 rfl).put2 1 8 rfl).er 2).er 0) fun Wx7 HF => ?_
  clear HG
  refine wp_ret ?_
  try simp only [Exit.then, Exit.inBlock]
  have lx11 := HF.out.c 0 rfl
  have r0 := Gr.refl Wx7
  exact bodyPost_ret (v := .agg #[.int .u64 ((lo (Int.natAbs ((b1).num)) : Nat) : Int), .string (bg (Int.natAbs ((b1).num))), .bool (decide (((b1).num) < 0)), .int .u64 ((lo ((b1).den - 1) : Nat) : Int), .string (bg ((b1).den - 1)), .int .u64 ((lo (Int.natAbs ((b2).num)) : Nat) : Int), .string (bg (Int.natAbs ((b2).num))), .bool (decide (((b2).num) < 0)), .int .u64 ((lo ((b2).den - 1) : Nat) : Int), .string (bg ((b2).den - 1))]) (by simp [results, Tryz.results185, go_sem, lx11 _ r0]) rfl ⟨rfl, HF.out.1⟩
set_option maxHeartbeats 1000000 in
theorem pgreatest_false (a1 a2 b1 b2 : Rat) (g : Nat) (w : World) (bx9 : Bx w g 38 #[.int .u64 ((lo (Int.natAbs ((b1).num)) : Nat) : Int), .string (bg (Int.natAbs ((b1).num))), .bool (decide (((b1).num) < 0)), .int .u64 ((lo ((b1).den - 1) : Nat) : Int), .string (bg ((b1).den - 1)), .int .u64 ((lo (Int.natAbs ((b2).num)) : Nat) : Int), .string (bg (Int.natAbs ((b2).num))), .bool (decide (((b2).num) < 0)), .int .u64 ((lo ((b2).den - 1) : Nat) : Int), .string (bg ((b2).den - 1))]) (h : Hid (plt a1 a2 b1 b2 = false)) (hs_a1 : sz a1 ≤ 10000000000) (hs_a2 : sz a2 ≤ 10000000000) (hs_b1 : sz b1 ≤ 10000000000) (hs_b2 : sz b2 ≤ 10000000000) :
    Calls Tryz.prog 185 #[(Value.agg #[.int .u64 ((lo (Int.natAbs ((a1).num)) : Nat) : Int), .string (bg (Int.natAbs ((a1).num))), .bool (decide (((a1).num) < 0)), .int .u64 ((lo ((a1).den - 1) : Nat) : Int), .string (bg ((a1).den - 1)), .int .u64 ((lo (Int.natAbs ((a2).num)) : Nat) : Int), .string (bg (Int.natAbs ((a2).num))), .bool (decide (((a2).num) < 0)), .int .u64 ((lo ((a2).den - 1) : Nat) : Int), .string (bg ((a2).den - 1))]), (Value.slice (some ⟨g, 0, none⟩) 1 1)] w fun e w' => e = .returned (.agg #[.int .u64 ((lo (Int.natAbs ((a1).num)) : Nat) : Int), .string (bg (Int.natAbs ((a1).num))), .bool (decide (((a1).num) < 0)), .int .u64 ((lo ((a1).den - 1) : Nat) : Int), .string (bg ((a1).den - 1)), .int .u64 ((lo (Int.natAbs ((a2).num)) : Nat) : Int), .string (bg (Int.natAbs ((a2).num))), .bool (decide (((a2).num) < 0)), .int .u64 ((lo ((a2).den - 1) : Nat) : Int), .string (bg ((a2).den - 1))]) ∧ Below w.heap.size w w' := by
  go_enter Tryz.func185, Tryz.ntmps185
  have HF := Lib.hid (hp0 w)
  have BX9 := Lib.hid bx9; clear bx9
  refine kS fun K hK => ?_
  refine wp_region_lit ?_
  go_wp2
  refine kO hK ?_; clear hK K
  refine fH (((HF.out).aL (w.heap.size)).aL (w.heap.size + 1)) fun Wx0 HG => ?_
  clear HF; have HF := HG; clear HG
  generalize w.heap.size + 1 = gx11 at *
  refine wp_seq ?_
  refine kS fun K hK => ?_
  refine sq 3 [(true, 0), (true, 1), (true, 2)] fun T hT => ?_
  iterate 3 refine tk ?_
  refine nlS hT HF fun vw1 HG => ?_
  clear hT T HF
  go_wp2
  refine kO hK ?_; clear hK K
  have HF := HG; clear HG
  refine wp_block ?_
  refine wp_loop_rounds 12 ?_
  rw [rounds_succ]
  refine kS fun K hK => ?_
  refine sq 1 [(true, 0)] fun T hT => ?_
  refine tk ?_
  refine nlS hT HF fun vw2 HG => ?_
  clear hT T HF
  go_wp2
  refine kO hK ?_; clear hK K
  have HF := HG; clear HG
  refine wp_seq ?_
  refine wp_cond_true (by rfl) ?_
  refine wp_skip ?_
  show Code.wp _ _ _ _ _
  refine wp_seq ?_
  refine wp_block ?_
  have lx9 := (BX9.out.gr HF.out.1).cells
  refine kS fun K hK => ?_
  refine sq 2 [(true, 0), (true, 1)] fun T hT => ?_
  iterate 2 refine tk ?_
  refine nlS hT HF fun vw3 HG => ?_
  clear hT T HF lx9
  go_wp2
  refine kO hK ?_; clear hK K
  refine fH ((HG.out).aL (vw3.heap.size)) fun Wx3 HF => ?_
  clear HG
  generalize vw3.heap.size = gx13 at *
  have lx10 := HF.out.c 0 rfl
  have lx13 := HF.out.c 2 rfl
  refine kS fun K hK => ?_
  refine sq 3 [(true, 0), (true, 1), (true, 2)] fun T hT => ?_
  iterate 2 refine tk ?_
  refine ck Tryz.call187 (fun w' hw => pless_any (a1) (a2) (b1) (b2) false _ (h.out) om om om om) ?_
  refine nlS hT HF fun vw4 HG => ?_
  clear hT T HF lx10 lx13
  go_wp2
  refine kO hK ?_; clear hK K
  have HF := HG; clear HG
  refine wp_cond_false (by rfl) ?_
  refine wp_skip ?_
  show Code.wp _ _ _ _ _
  refine kL fun K hK => ?_
  refine sq 2 [(true, 0), (true, 1)] fun T hT => ?_
  iterate 2 refine tk ?_
  refine nlS hT HF fun vw5 HG => ?_
  clear hT T HF
  go_wp2
  refine hK.out _ _ ?_; clear hK K
  show Code.rounds _ _ _ _ _ _
  rw [rounds_succ]
  have HF := HG; clear HG
  refine kS fun K hK => ?_
  refine sq 1 [(true, 0)] fun T hT => ?_
  refine tk ?_
  refine nlS hT HF fun vw6 HG => ?_
  clear hT T HF
  go_wp2
  refine kO hK ?_; clear hK K
  have HF := HG; clear HG
  refine wp_seq ?_
  refine wp_cond_false (by rfl) ?_
  refine wp_exit ?_
  show Code.wp _ _ _ _ _
  have lx10 := HF.out.c 0 rfl
  refine kS fun K hK => ?_
  refine sq 1 [(true, 0)] fun T hT => ?_
  refine tk ?_
  refine nlS hT HF fun vw7 HG => ?_
  clear hT T HF lx10
  have lx11 := HG.out.c 1 rfl; have fx11 := HG.out.f 1 rfl
  have r0 := Gr.refl vw7
  go_wp2
  refine kO hK ?_; clear hK K
  clear r0 lx11 fx11
  refine fH ((((((((HG.out).put2 1 0 rfl).put2 1 2 rfl).put2 1 4 rfl).put2 1 6 rfl).put2 1 8 rfl).er 2).er 0) fun Wx7 HF => ?_
  clear HG
  refine wp_ret ?_
  try simp only [Exit.then, Exit.inBlock]
  have lx11 := HF.out.c 0 rfl
  have r0 := Gr.refl Wx7
  exact bodyPost_ret (v := .agg #[.int .u64 ((lo (Int.natAbs ((a1).num)) : Nat) : Int), .string (bg (Int.natAbs ((a1).num))), .bool (decide (((a1).num) < 0)), .int .u64 ((lo ((a1).den - 1) : Nat) : Int), .string (bg ((a1).den - 1)), .int .u64 ((lo (Int.natAbs ((a2).num)) : Nat) : Int), .string (bg (Int.natAbs ((a2).num))), .bool (decide (((a2).num) < 0)), .int .u64 ((lo ((a2).den - 1) : Nat) : Int), .string (bg ((a2).den - 1))]) (by simp [results, Tryz.results185, go_sem, lx11 _ r0]) rfl ⟨rfl, HF.out.1⟩
theorem pgreatest_any (a1 a2 b1 b2 m1 m2 : Rat) (g : Nat) (w : World) (bx9 : Bx w g 38 #[.int .u64 ((lo (Int.natAbs ((b1).num)) : Nat) : Int), .string (bg (Int.natAbs ((b1).num))), .bool (decide (((b1).num) < 0)), .int .u64 ((lo ((b1).den - 1) : Nat) : Int), .string (bg ((b1).den - 1)), .int .u64 ((lo (Int.natAbs ((b2).num)) : Nat) : Int), .string (bg (Int.natAbs ((b2).num))), .bool (decide (((b2).num) < 0)), .int .u64 ((lo ((b2).den - 1) : Nat) : Int), .string (bg ((b2).den - 1))]) (r : Bool) (h : plt a1 a2 b1 b2 = r) (hm1 : (if r then b1 else a1) = m1) (hm2 : (if r then b2 else a2) = m2) (hs_a1 : sz a1 ≤ 10000000000) (hs_a2 : sz a2 ≤ 10000000000) (hs_b1 : sz b1 ≤ 10000000000) (hs_b2 : sz b2 ≤ 10000000000) :
    Calls Tryz.prog 185 #[(Value.agg #[.int .u64 ((lo (Int.natAbs ((a1).num)) : Nat) : Int), .string (bg (Int.natAbs ((a1).num))), .bool (decide (((a1).num) < 0)), .int .u64 ((lo ((a1).den - 1) : Nat) : Int), .string (bg ((a1).den - 1)), .int .u64 ((lo (Int.natAbs ((a2).num)) : Nat) : Int), .string (bg (Int.natAbs ((a2).num))), .bool (decide (((a2).num) < 0)), .int .u64 ((lo ((a2).den - 1) : Nat) : Int), .string (bg ((a2).den - 1))]), .slice (some ⟨g, 0, none⟩) 1 1] w fun e w' => e = .returned (.agg #[.int .u64 ((lo (Int.natAbs ((m1).num)) : Nat) : Int), .string (bg (Int.natAbs ((m1).num))), .bool (decide (((m1).num) < 0)), .int .u64 ((lo ((m1).den - 1) : Nat) : Int), .string (bg ((m1).den - 1)), .int .u64 ((lo (Int.natAbs ((m2).num)) : Nat) : Int), .string (bg (Int.natAbs ((m2).num))), .bool (decide (((m2).num) < 0)), .int .u64 ((lo ((m2).den - 1) : Nat) : Int), .string (bg ((m2).den - 1))]) ∧ Below w.heap.size w w' := by
  subst hm1 hm2
  cases r
  · exact pgreatest_false a1 a2 b1 b2 g w bx9 (Lib.hid h) hs_a1 hs_a2 hs_b1 hs_b2
  · exact pgreatest_true a1 a2 b1 b2 g w bx9 (Lib.hid h) hs_a1 hs_a2 hs_b1 hs_b2
end Go.Proofs.YtobojnodohjiaaaGreatDoor
