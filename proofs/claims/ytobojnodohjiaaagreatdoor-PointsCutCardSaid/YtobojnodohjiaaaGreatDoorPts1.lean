
/- points: both, Add, Sub, Scale, half, Mid, Cross, Dot, Square, Less, Turn, Int. -/
import Derived.Test.YtobojnodohjiaaaGreatDoorPL
import Derived.Test.YtobojnodohjiaaaGreatDoorHp
set_option linter.unusedVariables false
set_option linter.unusedSimpArgs false
namespace Go.Proofs.YtobojnodohjiaaaGreatDoor
open Go.RowKit
attribute [local go_sem ↓] Go.wp_at_zero Go.wp_at_succ
theorem sz_cross (a b c d : Rat) : sz (a * d - b * c) ≤ sz a + sz b + sz c + sz d + 1 := by
  have h1 := sz_mul a d; have h2 := sz_mul b c; have h3 := sz_sub (a * d) (b * c); omega
theorem sz_dot (a b c d : Rat) : sz (a * c + b * d) ≤ sz a + sz b + sz c + sz d + 1 := by
  have h1 := sz_mul a c; have h2 := sz_mul b d; have h3 := sz_add (a * c) (b * d); omega
def half : Rat := ((1 : Int) : Rat) / ((2 : Int) : Rat)
set_option maxHeartbeats 1000000 in
theorem both_any (f : Nat) (cap : List Value) (a1 a2 b1 b2 z1 z2 : Rat) (hr : Hid (∀ args w, (callFunc f args).run Tryz.prog w = .ok (.enter f args) w)) (w : World) (h1 : Hid (∀ w', Gr w w' → Calls Tryz.prog f ((Value.agg #[.int .u64 ((lo (Int.natAbs ((a1).num)) : Nat) : Int), .string (bg (Int.natAbs ((a1).num))), .bool (decide (((a1).num) < 0)), .int .u64 ((lo ((a1).den - 1) : Nat) : Int), .string (bg ((a1).den - 1))]) :: (Value.agg #[.int .u64 ((lo (Int.natAbs ((b1).num)) : Nat) : Int), .string (bg (Int.natAbs ((b1).num))), .bool (decide (((b1).num) < 0)), .int .u64 ((lo ((b1).den - 1) : Nat) : Int), .string (bg ((b1).den - 1))]) :: cap).toArray w' fun e w'' => e = .returned (Value.agg #[.int .u64 ((lo (Int.natAbs ((z1).num)) : Nat) : Int), .string (bg (Int.natAbs ((z1).num))), .bool (decide (((z1).num) < 0)), .int .u64 ((lo ((z1).den - 1) : Nat) : Int), .string (bg ((z1).den - 1))]) ∧ Below w'.heap.size w' w'')) (h2 : Hid (∀ w', Gr w w' → Calls Tryz.prog f ((Value.agg #[.int .u64 ((lo (Int.natAbs ((a2).num)) : Nat) : Int), .string (bg (Int.natAbs ((a2).num))), .bool (decide (((a2).num) < 0)), .int .u64 ((lo ((a2).den - 1) : Nat) : Int), .string (bg ((a2).den - 1))]) :: (Value.agg #[.int .u64 ((lo (Int.natAbs ((b2).num)) : Nat) : Int), .string (bg (Int.natAbs ((b2).num))), .bool (decide (((b2).num) < 0)), .int .u64 ((lo ((b2).den - 1) : Nat) : Int), .string (bg ((b2).den - 1))]) :: cap).toArray w' fun e w'' => e = .returned (Value.agg #[.int .u64 ((lo (Int.natAbs ((z2).num)) : Nat) : Int), .string (bg (Int.natAbs ((z2).num))), .bool (decide (((z2).num) < 0)), .int .u64 ((lo ((z2).den - 1) : Nat) : Int), .string (bg ((z2).den - 1))]) ∧ Below w'.heap.size w' w'')) :
    Calls Tryz.prog 188 #[(Value.agg #[.int .u64 ((lo (Int.natAbs ((a1).num)) : Nat) : Int), .string (bg (Int.natAbs ((a1).num))), .bool (decide (((a1).num) < 0)), .int .u64 ((lo ((a1).den - 1) : Nat) : Int), .string (bg ((a1).den - 1)), .int .u64 ((lo (Int.natAbs ((a2).num)) : Nat) : Int), .string (bg (Int.natAbs ((a2).num))), .bool (decide (((a2).num) < 0)), .int .u64 ((lo ((a2).den - 1) : Nat) : Int), .string (bg ((a2).den - 1))]), (Value.agg #[.int .u64 ((lo (Int.natAbs ((b1).num)) : Nat) : Int), .string (bg (Int.natAbs ((b1).num))), .bool (decide (((b1).num) < 0)), .int .u64 ((lo ((b1).den - 1) : Nat) : Int), .string (bg ((b1).den - 1)), .int .u64 ((lo (Int.natAbs ((b2).num)) : Nat) : Int), .string (bg (Int.natAbs ((b2).num))), .bool (decide (((b2).num) < 0)), .int .u64 ((lo ((b2).den - 1) : Nat) : Int), .string (bg ((b2).den - 1))]), .func (.func f) #[] cap.toArray] w fun e w' => e = .returned (.agg #[.int .u64 ((lo (Int.natAbs ((z1).num)) : Nat) : Int), .string (bg (Int.natAbs ((z1).num))), .bool (decide (((z1).num) < 0)), .int .u64 ((lo ((z1).den - 1) : Nat) : Int), .string (bg ((z1).den - 1)), .int .u64 ((lo (Int.natAbs ((z2).num)) : Nat) : Int), .string (bg (Int.natAbs ((z2).num))), .bool (decide (((z2).num) < 0)), .int .u64 ((lo ((z2).den - 1) : Nat) : Int), .string (bg ((z2).den - 1))]) ∧ Below w.heap.size w w' := by
  go_enter Tryz.func188, Tryz.ntmps188
  have HF := Lib.hid (hp0 w)
  refine kS fun K hK => ?_
  refine wp_region_lit ?_
  go_wp2
  refine kO hK ?_; clear hK K
  refine fH ((((HF.out).aL (w.heap.size)).aL (w.heap.size + 1)).aL (w.heap.size + 1 + 1)) fun Wx0 HG => ?_
  clear HF; have HF := HG; clear HG
  generalize w.heap.size + 1 + 1 = gx2 at *
  generalize w.heap.size + 1 = gx1 at *
  have HB := HPb HF
  have lx0 := HF.out.c 0 rfl
  have lx1 := HF.out.c 1 rfl
  refine kS fun K hK => ?_
  refine pd 13 [(true, 0), (true, 1), (true, 2), (true, 3), (true, 4), (true, 6), (true, 7), (true, 8), (true, 9), (true, 10), (true, 5), (true, 11), (true, 12)] fun T hT => ?_
  iterate 10 refine tk ?_
  refine wpPlan_callV rfl (by rfl) (by rfl) hr.out (fun w' hw => h1.out _ (Gr.trans (show Gr w _ from HB.out) hw)) (by rfl) ?_
  simp only [Act.put, lA, lB, lC]
  refine wpPlan_callV rfl (by rfl) (by rfl) hr.out (fun w' hw => h2.out _ (Gr.trans (show Gr w _ from HB.out) hw)) (by rfl) ?_
  simp only [Act.put, lA, lB, lC]
  refine tk ?_
  refine nlD hT HF fun vw1 HG => ?_
  clear hT T HF lx0 lx1 HB
  have lx2 := HG.out.c 2 rfl; have fx2 := HG.out.f 2 rfl
  have r0 := Gr.refl vw1
  go_wp2
  refine kO hK ?_; clear hK K
  clear r0 lx2 fx2
  refine fH ((((((((HG.out).put2 2 0 rfl).put2 2 2 rfl).put2 2 4 rfl).put2 2 6 rfl).put2 2 8 rfl).er 1).er 0) fun Wx1 HF => ?_
  clear HG
  refine wp_ret ?_
  try simp only [Exit.then, Exit.inBlock]
  have lx2 := HF.out.c 0 rfl
  have r0 := Gr.refl Wx1
  exact bodyPost_ret (v := .agg #[.int .u64 ((lo (Int.natAbs ((z1).num)) : Nat) : Int), .string (bg (Int.natAbs ((z1).num))), .bool (decide (((z1).num) < 0)), .int .u64 ((lo ((z1).den - 1) : Nat) : Int), .string (bg ((z1).den - 1)), .int .u64 ((lo (Int.natAbs ((z2).num)) : Nat) : Int), .string (bg (Int.natAbs ((z2).num))), .bool (decide (((z2).num) < 0)), .int .u64 ((lo ((z2).den - 1) : Nat) : Int), .string (bg ((z2).den - 1))]) (by simp [results, Tryz.results188, go_sem, lx2 _ r0]) rfl ⟨rfl, HF.out.1⟩
set_option maxHeartbeats 1000000 in
theorem padd_any (a1 a2 b1 b2 z1 z2 : Rat) (w : World) (hz1 : a1 + b1 = z1) (hz2 : a2 + b2 = z2) (hs_a1 : sz a1 ≤ 100000000000) (hs_a2 : sz a2 ≤ 100000000000) (hs_b1 : sz b1 ≤ 100000000000) (hs_b2 : sz b2 ≤ 100000000000) :
    Calls Tryz.prog 81 #[(Value.agg #[.int .u64 ((lo (Int.natAbs ((a1).num)) : Nat) : Int), .string (bg (Int.natAbs ((a1).num))), .bool (decide (((a1).num) < 0)), .int .u64 ((lo ((a1).den - 1) : Nat) : Int), .string (bg ((a1).den - 1)), .int .u64 ((lo (Int.natAbs ((a2).num)) : Nat) : Int), .string (bg (Int.natAbs ((a2).num))), .bool (decide (((a2).num) < 0)), .int .u64 ((lo ((a2).den - 1) : Nat) : Int), .string (bg ((a2).den - 1))]), (Value.agg #[.int .u64 ((lo (Int.natAbs ((b1).num)) : Nat) : Int), .string (bg (Int.natAbs ((b1).num))), .bool (decide (((b1).num) < 0)), .int .u64 ((lo ((b1).den - 1) : Nat) : Int), .string (bg ((b1).den - 1)), .int .u64 ((lo (Int.natAbs ((b2).num)) : Nat) : Int), .string (bg (Int.natAbs ((b2).num))), .bool (decide (((b2).num) < 0)), .int .u64 ((lo ((b2).den - 1) : Nat) : Int), .string (bg ((b2).den - 1))])] w fun e w' => e = .returned (.agg #[.int .u64 ((lo (Int.natAbs ((z1).num)) : Nat) : Int), .string (bg (Int.natAbs ((z1).num))), .bool (decide (((z1).num) < 0)), .int .u64 ((lo ((z1).den - 1) : Nat) : Int), .string (bg ((z1).den - 1)), .int .u64 ((lo (Int.natAbs ((z2).num)) : Nat) : Int), .string (bg (Int.natAbs ((z2).num))), .bool (decide (((z2).num) < 0)), .int .u64 ((lo ((z2).den - 1) : Nat) : Int), .string (bg ((z2).den - 1))]) ∧ Below w.heap.size w w' := by
  replace hz1 := Lib.hid hz1
  replace hz2 := Lib.hid hz2
  go_enter Tryz.func81, Tryz.ntmps81
  have HF := Lib.hid (hp0 w)
  refine kS fun K hK => ?_
  refine wp_region_lit ?_
  go_wp2
  refine kO hK ?_; clear hK K
  refine fH ((((HF.out).aL (w.heap.size)).aL (w.heap.size + 1)).aL (w.heap.size + 1 + 1)) fun Wx0 HG => ?_
  clear HF; have HF := HG; clear HG
  generalize w.heap.size + 1 + 1 = gx2 at *
  generalize w.heap.size + 1 = gx1 at *
  have HZ1 : Hid ((a1) + (b1) = z1) := Lib.hid (hz1.out)
  have HZ2 : Hid ((a2) + (b2) = z2) := Lib.hid (hz2.out)
  have lx0 := HF.out.c 0 rfl
  have lx1 := HF.out.c 1 rfl
  refine kS fun K hK => ?_
  refine sq 3 [(true, 0), (true, 1), (true, 2)] fun T hT => ?_
  iterate 2 refine tk ?_
  refine ck Tryz.call188 (fun w' hw => both_any 130 [] (a1) (a2) (b1) (b2) (z1) (z2) (Lib.hid Tryz.call130) _ (Lib.hid fun w2 _ => fadd_any (a1) (b1) (z1) w2 HZ1.out om om) (Lib.hid fun w2 _ => fadd_any (a2) (b2) (z2) w2 HZ2.out om om)) ?_
  refine nlS hT HF fun vw1 HG => ?_
  clear hT T HF lx0 lx1
  have lx2 := HG.out.c 2 rfl; have fx2 := HG.out.f 2 rfl
  have r0 := Gr.refl vw1
  go_wp2
  refine kO hK ?_; clear hK K
  clear r0 lx2 fx2
  refine fH ((((((((HG.out).put2 2 0 rfl).put2 2 2 rfl).put2 2 4 rfl).put2 2 6 rfl).put2 2 8 rfl).er 1).er 0) fun Wx1 HF => ?_
  clear HG
  refine wp_ret ?_
  try simp only [Exit.then, Exit.inBlock]
  have lx2 := HF.out.c 0 rfl
  have r0 := Gr.refl Wx1
  exact bodyPost_ret (v := .agg #[.int .u64 ((lo (Int.natAbs ((z1).num)) : Nat) : Int), .string (bg (Int.natAbs ((z1).num))), .bool (decide (((z1).num) < 0)), .int .u64 ((lo ((z1).den - 1) : Nat) : Int), .string (bg ((z1).den - 1)), .int .u64 ((lo (Int.natAbs ((z2).num)) : Nat) : Int), .string (bg (Int.natAbs ((z2).num))), .bool (decide (((z2).num) < 0)), .int .u64 ((lo ((z2).den - 1) : Nat) : Int), .string (bg ((z2).den - 1))]) (by simp [results, Tryz.results81, go_sem, lx2 _ r0]) rfl ⟨rfl, HF.out.1⟩
set_option maxHeartbeats 1000000 in
theorem psub_any (a1 a2 b1 b2 z1 z2 : Rat) (w : World) (hz1 : a1 - b1 = z1) (hz2 : a2 - b2 = z2) (hs_a1 : sz a1 ≤ 100000000000) (hs_a2 : sz a2 ≤ 100000000000) (hs_b1 : sz b1 ≤ 100000000000) (hs_b2 : sz b2 ≤ 100000000000) :
    Calls Tryz.prog 78 #[(Value.agg #[.int .u64 ((lo (Int.natAbs ((a1).num)) : Nat) : Int), .string (bg (Int.natAbs ((a1).num))), .bool (decide (((a1).num) < 0)), .int .u64 ((lo ((a1).den - 1) : Nat) : Int), .string (bg ((a1).den - 1)), .int .u64 ((lo (Int.natAbs ((a2).num)) : Nat) : Int), .string (bg (Int.natAbs ((a2).num))), .bool (decide (((a2).num) < 0)), .int .u64 ((lo ((a2).den - 1) : Nat) : Int), .string (bg ((a2).den - 1))]), (Value.agg #[.int .u64 ((lo (Int.natAbs ((b1).num)) : Nat) : Int), .string (bg (Int.natAbs ((b1).num))), .bool (decide (((b1).num) < 0)), .int .u64 ((lo ((b1).den - 1) : Nat) : Int), .string (bg ((b1).den - 1)), .int .u64 ((lo (Int.natAbs ((b2).num)) : Nat) : Int), .string (bg (Int.natAbs ((b2).num))), .bool (decide (((b2).num) < 0)), .int .u64 ((lo ((b2).den - 1) : Nat) : Int), .string (bg ((b2).den - 1))])] w fun e w' => e = .returned (.agg #[.int .u64 ((lo (Int.natAbs ((z1).num)) : Nat) : Int), .string (bg (Int.natAbs ((z1).num))), .bool (decide (((z1).num) < 0)), .int .u64 ((lo ((z1).den - 1) : Nat) : Int), .string (bg ((z1).den - 1)), .int .u64 ((lo (Int.natAbs ((z2).num)) : Nat) : Int), .string (bg (Int.natAbs ((z2).num))), .bool (decide (((z2).num) < 0)), .int .u64 ((lo ((z2).den - 1) : Nat) : Int), .string (bg ((z2).den - 1))]) ∧ Below w.heap.size w w' := by
  replace hz1 := Lib.hid hz1
  replace hz2 := Lib.hid hz2
  go_enter Tryz.func78, Tryz.ntmps78
  have HF := Lib.hid (hp0 w)
  refine kS fun K hK => ?_
  refine wp_region_lit ?_
  go_wp2
  refine kO hK ?_; clear hK K
  refine fH ((((HF.out).aL (w.heap.size)).aL (w.heap.size + 1)).aL (w.heap.size + 1 + 1)) fun Wx0 HG => ?_
  clear HF; have HF := HG; clear HG
  generalize w.heap.size + 1 + 1 = gx2 at *
  generalize w.heap.size + 1 = gx1 at *
  have HZ1 : Hid ((a1) - (b1) = z1) := Lib.hid (hz1.out)
  have HZ2 : Hid ((a2) - (b2) = z2) := Lib.hid (hz2.out)
  have lx0 := HF.out.c 0 rfl
  have lx1 := HF.out.c 1 rfl
  refine kS fun K hK => ?_
  refine sq 3 [(true, 0), (true, 1), (true, 2)] fun T hT => ?_
  iterate 2 refine tk ?_
  refine ck Tryz.call188 (fun w' hw => both_any 132 [] (a1) (a2) (b1) (b2) (z1) (z2) (Lib.hid Tryz.call132) _ (Lib.hid fun w2 _ => fsub_any (a1) (b1) (z1) w2 HZ1.out om om) (Lib.hid fun w2 _ => fsub_any (a2) (b2) (z2) w2 HZ2.out om om)) ?_
  refine nlS hT HF fun vw1 HG => ?_
  clear hT T HF lx0 lx1
  have lx2 := HG.out.c 2 rfl; have fx2 := HG.out.f 2 rfl
  have r0 := Gr.refl vw1
  go_wp2
  refine kO hK ?_; clear hK K
  clear r0 lx2 fx2
  refine fH ((((((((HG.out).put2 2 0 rfl).put2 2 2 rfl).put2 2 4 rfl).put2 2 6 rfl).put2 2 8 rfl).er 1).er 0) fun Wx1 HF => ?_
  clear HG
  refine wp_ret ?_
  try simp only [Exit.then, Exit.inBlock]
  have lx2 := HF.out.c 0 rfl
  have r0 := Gr.refl Wx1
  exact bodyPost_ret (v := .agg #[.int .u64 ((lo (Int.natAbs ((z1).num)) : Nat) : Int), .string (bg (Int.natAbs ((z1).num))), .bool (decide (((z1).num) < 0)), .int .u64 ((lo ((z1).den - 1) : Nat) : Int), .string (bg ((z1).den - 1)), .int .u64 ((lo (Int.natAbs ((z2).num)) : Nat) : Int), .string (bg (Int.natAbs ((z2).num))), .bool (decide (((z2).num) < 0)), .int .u64 ((lo ((z2).den - 1) : Nat) : Int), .string (bg ((z2).den - 1))]) (by simp [results, Tryz.results78, go_sem, lx2 _ r0]) rfl ⟨rfl, HF.out.1⟩
set_option maxHeartbeats 1000000 in
theorem pclos_any (a b k z : Rat) (g : Nat) (w : World) (bx9 : Bx w g 36 #[.int .u64 ((lo (Int.natAbs ((k).num)) : Nat) : Int), .string (bg (Int.natAbs ((k).num))), .bool (decide (((k).num) < 0)), .int .u64 ((lo ((k).den - 1) : Nat) : Int), .string (bg ((k).den - 1))]) (hz : a * k = z) (hs_a : sz a ≤ 100000000000) (hs_k : sz k ≤ 100000000000) :
    Calls Tryz.prog 190 #[(Value.agg #[.int .u64 ((lo (Int.natAbs ((a).num)) : Nat) : Int), .string (bg (Int.natAbs ((a).num))), .bool (decide (((a).num) < 0)), .int .u64 ((lo ((a).den - 1) : Nat) : Int), .string (bg ((a).den - 1))]), (Value.agg #[.int .u64 ((lo (Int.natAbs ((b).num)) : Nat) : Int), .string (bg (Int.natAbs ((b).num))), .bool (decide (((b).num) < 0)), .int .u64 ((lo ((b).den - 1) : Nat) : Int), .string (bg ((b).den - 1))]), .pointer (some ⟨g, 0, none⟩)] w fun e w' => e = .returned (.agg #[.int .u64 ((lo (Int.natAbs ((z).num)) : Nat) : Int), .string (bg (Int.natAbs ((z).num))), .bool (decide (((z).num) < 0)), .int .u64 ((lo ((z).den - 1) : Nat) : Int), .string (bg ((z).den - 1))]) ∧ Below w.heap.size w w' := by
  replace hz := Lib.hid hz
  go_enter Tryz.func190, Tryz.ntmps190
  have HF := Lib.hid (hp0 w)
  have BX9 := Lib.hid bx9; clear bx9
  refine kS fun K hK => ?_
  refine wp_region_lit ?_
  go_wp2
  refine kO hK ?_; clear hK K
  refine fH (((((HF.out).aL (w.heap.size)).aL (w.heap.size + 1)).aL (w.heap.size + 1 + 1)).er 1) fun Wx0 HG => ?_
  clear HF; have HF := HG; clear HG
  generalize w.heap.size + 1 + 1 = gx12 at *
  generalize w.heap.size + 1 = gx11 at *
  have HZ1 : Hid ((a) * (k) = z) := Lib.hid (hz.out)
  have lx10 := HF.out.c 0 rfl
  have lx9 := (BX9.out.gr HF.out.1).cells
  refine kS fun K hK => ?_
  refine sq 3 [(true, 0), (true, 1), (true, 2)] fun T hT => ?_
  iterate 2 refine tk ?_
  refine ck Tryz.call134 (fun w' hw => fmul_any (a) (k) (z) _ HZ1.out om om) ?_
  refine nlS hT HF fun vw1 HG => ?_
  clear hT T HF lx10 lx9
  have lx12 := HG.out.c 1 rfl; have fx12 := HG.out.f 1 rfl
  have r0 := Gr.refl vw1
  go_wp2
  refine kO hK ?_; clear hK K
  clear r0 lx12 fx12
  refine fH (((((HG.out).put2 1 0 rfl).put2 1 2 rfl).put 1 4 _ rfl).er 0) fun Wx1 HF => ?_
  clear HG
  refine wp_ret ?_
  try simp only [Exit.then, Exit.inBlock]
  have lx12 := HF.out.c 0 rfl
  have r0 := Gr.refl Wx1
  exact bodyPost_ret (v := .agg #[.int .u64 ((lo (Int.natAbs ((z).num)) : Nat) : Int), .string (bg (Int.natAbs ((z).num))), .bool (decide (((z).num) < 0)), .int .u64 ((lo ((z).den - 1) : Nat) : Int), .string (bg ((z).den - 1))]) (by simp [results, Tryz.results190, go_sem, lx12 _ r0]) rfl ⟨rfl, HF.out.1⟩
set_option maxHeartbeats 1000000 in
theorem pscale_any (a1 a2 k z1 z2 : Rat) (w : World) (hz1 : a1 * k = z1) (hz2 : a2 * k = z2) (hs_a1 : sz a1 ≤ 100000000000) (hs_a2 : sz a2 ≤ 100000000000) (hs_k : sz k ≤ 100000000000) :
    Calls Tryz.prog 82 #[(Value.agg #[.int .u64 ((lo (Int.natAbs ((a1).num)) : Nat) : Int), .string (bg (Int.natAbs ((a1).num))), .bool (decide (((a1).num) < 0)), .int .u64 ((lo ((a1).den - 1) : Nat) : Int), .string (bg ((a1).den - 1)), .int .u64 ((lo (Int.natAbs ((a2).num)) : Nat) : Int), .string (bg (Int.natAbs ((a2).num))), .bool (decide (((a2).num) < 0)), .int .u64 ((lo ((a2).den - 1) : Nat) : Int), .string (bg ((a2).den - 1))]), (Value.agg #[.int .u64 ((lo (Int.natAbs ((k).num)) : Nat) : Int), .string (bg (Int.natAbs ((k).num))), .bool (decide (((k).num) < 0)), .int .u64 ((lo ((k).den - 1) : Nat) : Int), .string (bg ((k).den - 1))])] w fun e w' => e = .returned (.agg #[.int .u64 ((lo (Int.natAbs ((z1).num)) : Nat) : Int), .string (bg (Int.natAbs ((z1).num))), .bool (decide (((z1).num) < 0)), .int .u64 ((lo ((z1).den - 1) : Nat) : Int), .string (bg ((z1).den - 1)), .int .u64 ((lo (Int.natAbs ((z2).num)) : Nat) : Int), .string (bg (Int.natAbs ((z2).num))), .bool (decide (((z2).num) < 0)), .int .u64 ((lo ((z2).den - 1) : Nat) : Int), .string (bg ((z2).den - 1))]) ∧ Below w.heap.size w w' := by
  replace hz1 := Lib.hid hz1
  replace hz2 := Lib.hid hz2
  go_enter Tryz.func82, Tryz.ntmps82
  have HF := Lib.hid (hp0 w)
  refine kS fun K hK => ?_
  refine wp_region_lit ?_
  go_wp2
  refine kO hK ?_; clear hK K
  refine fH ((((HF.out).aL (w.heap.size)).aL (w.heap.size + 1)).aL (w.heap.size + 1 + 1)) fun Wx0 HG => ?_
  clear HF; have HF := HG; clear HG
  generalize w.heap.size + 1 + 1 = gx2 at *
  generalize w.heap.size + 1 = gx1 at *
  have HZ1 : Hid ((a1) * (k) = z1) := Lib.hid (hz1.out)
  have HZ2 : Hid ((a2) * (k) = z2) := Lib.hid (hz2.out)
  have lx0 := HF.out.c 0 rfl
  refine kS fun K hK => ?_
  refine sq 4 [(true, 0), (true, 1), (true, 2), (true, 3)] fun T hT => ?_
  iterate 3 refine tk ?_
  refine ck Tryz.call188 (fun w' hw => both_any 190 [.pointer (some ⟨gx1, 0, none⟩)] (a1) (a2) (a1) (a2) (z1) (z2) (Lib.hid Tryz.call190) _ (Lib.hid fun w2 hw2 => pclos_any (a1) (a1) (k) (z1) (gx1) w2 ((HF.out.bx 1 rfl).gr (hw.trans hw2)) HZ1.out om om) (Lib.hid fun w2 hw2 => pclos_any (a2) (a2) (k) (z2) (gx1) w2 ((HF.out.bx 1 rfl).gr (hw.trans hw2)) HZ2.out om om)) ?_
  refine nlS hT HF fun vw1 HG => ?_
  clear hT T HF lx0
  have lx2 := HG.out.c 2 rfl; have fx2 := HG.out.f 2 rfl
  have r0 := Gr.refl vw1
  go_wp2
  refine kO hK ?_; clear hK K
  clear r0 lx2 fx2
  refine fH ((((((((HG.out).put2 2 0 rfl).put2 2 2 rfl).put2 2 4 rfl).put2 2 6 rfl).put2 2 8 rfl).er 1).er 0) fun Wx1 HF => ?_
  clear HG
  refine wp_ret ?_
  try simp only [Exit.then, Exit.inBlock]
  have lx2 := HF.out.c 0 rfl
  have r0 := Gr.refl Wx1
  exact bodyPost_ret (v := .agg #[.int .u64 ((lo (Int.natAbs ((z1).num)) : Nat) : Int), .string (bg (Int.natAbs ((z1).num))), .bool (decide (((z1).num) < 0)), .int .u64 ((lo ((z1).den - 1) : Nat) : Int), .string (bg ((z1).den - 1)), .int .u64 ((lo (Int.natAbs ((z2).num)) : Nat) : Int), .string (bg (Int.natAbs ((z2).num))), .bool (decide (((z2).num) < 0)), .int .u64 ((lo ((z2).den - 1) : Nat) : Int), .string (bg ((z2).den - 1))]) (by simp [results, Tryz.results82, go_sem, lx2 _ r0]) rfl ⟨rfl, HF.out.1⟩
set_option maxHeartbeats 1000000 in
theorem pcross_any (a1 a2 b1 b2 z : Rat) (w : World) (hz : a1 * b2 - a2 * b1 = z) (hs_a1 : sz a1 ≤ 10000000000) (hs_a2 : sz a2 ≤ 10000000000) (hs_b1 : sz b1 ≤ 10000000000) (hs_b2 : sz b2 ≤ 10000000000) :
    Calls Tryz.prog 80 #[(Value.agg #[.int .u64 ((lo (Int.natAbs ((a1).num)) : Nat) : Int), .string (bg (Int.natAbs ((a1).num))), .bool (decide (((a1).num) < 0)), .int .u64 ((lo ((a1).den - 1) : Nat) : Int), .string (bg ((a1).den - 1)), .int .u64 ((lo (Int.natAbs ((a2).num)) : Nat) : Int), .string (bg (Int.natAbs ((a2).num))), .bool (decide (((a2).num) < 0)), .int .u64 ((lo ((a2).den - 1) : Nat) : Int), .string (bg ((a2).den - 1))]), (Value.agg #[.int .u64 ((lo (Int.natAbs ((b1).num)) : Nat) : Int), .string (bg (Int.natAbs ((b1).num))), .bool (decide (((b1).num) < 0)), .int .u64 ((lo ((b1).den - 1) : Nat) : Int), .string (bg ((b1).den - 1)), .int .u64 ((lo (Int.natAbs ((b2).num)) : Nat) : Int), .string (bg (Int.natAbs ((b2).num))), .bool (decide (((b2).num) < 0)), .int .u64 ((lo ((b2).den - 1) : Nat) : Int), .string (bg ((b2).den - 1))])] w fun e w' => e = .returned (.agg #[.int .u64 ((lo (Int.natAbs ((z).num)) : Nat) : Int), .string (bg (Int.natAbs ((z).num))), .bool (decide (((z).num) < 0)), .int .u64 ((lo ((z).den - 1) : Nat) : Int), .string (bg ((z).den - 1))]) ∧ Below w.heap.size w w' := by
  replace hz := Lib.hid hz
  go_enter Tryz.func80, Tryz.ntmps80
  have HF := Lib.hid (hp0 w)
  refine kS fun K hK => ?_
  refine wp_region_lit ?_
  go_wp2
  refine kO hK ?_; clear hK K
  refine fH ((((HF.out).aL (w.heap.size)).aL (w.heap.size + 1)).aL (w.heap.size + 1 + 1)) fun Wx0 HG => ?_
  clear HF; have HF := HG; clear HG
  generalize w.heap.size + 1 + 1 = gx2 at *
  generalize w.heap.size + 1 = gx1 at *
  obtain ⟨u1, HZ1⟩ : ∃ z, Hid ((a1) * (b2) = z) := ⟨_, Lib.hid rfl⟩
  have su1 : sz u1 ≤ 20000000000 := by rw [← HZ1.out]; have := sz_mul (a1) (b2); omega
  obtain ⟨u2, HZ2⟩ : ∃ z, Hid ((a2) * (b1) = z) := ⟨_, Lib.hid rfl⟩
  have su2 : sz u2 ≤ 20000000000 := by rw [← HZ2.out]; have := sz_mul (a2) (b1); omega
  have HZ3 : Hid ((u1) - (u2) = z) := Lib.hid (by rw [← HZ1.out, ← HZ2.out, ← hz.out])
  have lx0 := HF.out.c 0 rfl
  have lx1 := HF.out.c 1 rfl
  refine kS fun K hK => ?_
  refine pd 11 [(true, 0), (true, 1), (true, 2), (true, 3), (true, 5), (true, 6), (true, 7), (true, 8), (true, 4), (true, 9), (true, 10)] fun T hT => ?_
  iterate 8 refine tk ?_
  refine ck Tryz.call134 (fun w' hw => fmul_any (a1) (b2) (u1) _ HZ1.out om om) ?_
  refine ck Tryz.call134 (fun w' hw => fmul_any (a2) (b1) (u2) _ HZ2.out om om) ?_
  refine ck Tryz.call132 (fun w' hw => fsub_any (u1) (u2) (z) _ HZ3.out om om) ?_
  refine nlD hT HF fun vw1 HG => ?_
  clear hT T HF lx0 lx1
  have lx2 := HG.out.c 2 rfl; have fx2 := HG.out.f 2 rfl
  have r0 := Gr.refl vw1
  go_wp2
  refine kO hK ?_; clear hK K
  clear r0 lx2 fx2
  refine fH ((((((HG.out).put2 2 0 rfl).put2 2 2 rfl).put 2 4 _ rfl).er 1).er 0) fun Wx1 HF => ?_
  clear HG
  refine wp_ret ?_
  try simp only [Exit.then, Exit.inBlock]
  have lx2 := HF.out.c 0 rfl
  have r0 := Gr.refl Wx1
  exact bodyPost_ret (v := .agg #[.int .u64 ((lo (Int.natAbs ((z).num)) : Nat) : Int), .string (bg (Int.natAbs ((z).num))), .bool (decide (((z).num) < 0)), .int .u64 ((lo ((z).den - 1) : Nat) : Int), .string (bg ((z).den - 1))]) (by simp [results, Tryz.results80, go_sem, lx2 _ r0]) rfl ⟨rfl, HF.out.1⟩
set_option maxHeartbeats 1000000 in
theorem pdot_any (a1 a2 b1 b2 z : Rat) (w : World) (hz : a1 * b1 + a2 * b2 = z) (hs_a1 : sz a1 ≤ 10000000000) (hs_a2 : sz a2 ≤ 10000000000) (hs_b1 : sz b1 ≤ 10000000000) (hs_b2 : sz b2 ≤ 10000000000) :
    Calls Tryz.prog 197 #[(Value.agg #[.int .u64 ((lo (Int.natAbs ((a1).num)) : Nat) : Int), .string (bg (Int.natAbs ((a1).num))), .bool (decide (((a1).num) < 0)), .int .u64 ((lo ((a1).den - 1) : Nat) : Int), .string (bg ((a1).den - 1)), .int .u64 ((lo (Int.natAbs ((a2).num)) : Nat) : Int), .string (bg (Int.natAbs ((a2).num))), .bool (decide (((a2).num) < 0)), .int .u64 ((lo ((a2).den - 1) : Nat) : Int), .string (bg ((a2).den - 1))]), (Value.agg #[.int .u64 ((lo (Int.natAbs ((b1).num)) : Nat) : Int), .string (bg (Int.natAbs ((b1).num))), .bool (decide (((b1).num) < 0)), .int .u64 ((lo ((b1).den - 1) : Nat) : Int), .string (bg ((b1).den - 1)), .int .u64 ((lo (Int.natAbs ((b2).num)) : Nat) : Int), .string (bg (Int.natAbs ((b2).num))), .bool (decide (((b2).num) < 0)), .int .u64 ((lo ((b2).den - 1) : Nat) : Int), .string (bg ((b2).den - 1))])] w fun e w' => e = .returned (.agg #[.int .u64 ((lo (Int.natAbs ((z).num)) : Nat) : Int), .string (bg (Int.natAbs ((z).num))), .bool (decide (((z).num) < 0)), .int .u64 ((lo ((z).den - 1) : Nat) : Int), .string (bg ((z).den - 1))]) ∧ Below w.heap.size w w' := by
  replace hz := Lib.hid hz
  go_enter Tryz.func197, Tryz.ntmps197
  have HF := Lib.hid (hp0 w)
  refine kS fun K hK => ?_
  refine wp_region_lit ?_
  go_wp2
  refine kO hK ?_; clear hK K
  refine fH ((((HF.out).aL (w.heap.size)).aL (w.heap.size + 1)).aL (w.heap.size + 1 + 1)) fun Wx0 HG => ?_
  clear HF; have HF := HG; clear HG
  generalize w.heap.size + 1 + 1 = gx2 at *
  generalize w.heap.size + 1 = gx1 at *
  obtain ⟨u1, HZ1⟩ : ∃ z, Hid ((a1) * (b1) = z) := ⟨_, Lib.hid rfl⟩
  have su1 : sz u1 ≤ 20000000000 := by rw [← HZ1.out]; have := sz_mul (a1) (b1); omega
  obtain ⟨u2, HZ2⟩ : ∃ z, Hid ((a2) * (b2) = z) := ⟨_, Lib.hid rfl⟩
  have su2 : sz u2 ≤ 20000000000 := by rw [← HZ2.out]; have := sz_mul (a2) (b2); omega
  have HZ3 : Hid ((u1) + (u2) = z) := Lib.hid (by rw [← HZ1.out, ← HZ2.out, ← hz.out])
  have lx0 := HF.out.c 0 rfl
  have lx1 := HF.out.c 1 rfl
  refine kS fun K hK => ?_
  refine pd 11 [(true, 0), (true, 1), (true, 2), (true, 3), (true, 5), (true, 6), (true, 7), (true, 8), (true, 4), (true, 9), (true, 10)] fun T hT => ?_
  iterate 8 refine tk ?_
  refine ck Tryz.call134 (fun w' hw => fmul_any (a1) (b1) (u1) _ HZ1.out om om) ?_
  refine ck Tryz.call134 (fun w' hw => fmul_any (a2) (b2) (u2) _ HZ2.out om om) ?_
  refine ck Tryz.call130 (fun w' hw => fadd_any (u1) (u2) (z) _ HZ3.out om om) ?_
  refine nlD hT HF fun vw1 HG => ?_
  clear hT T HF lx0 lx1
  have lx2 := HG.out.c 2 rfl; have fx2 := HG.out.f 2 rfl
  have r0 := Gr.refl vw1
  go_wp2
  refine kO hK ?_; clear hK K
  clear r0 lx2 fx2
  refine fH ((((((HG.out).put2 2 0 rfl).put2 2 2 rfl).put 2 4 _ rfl).er 1).er 0) fun Wx1 HF => ?_
  clear HG
  refine wp_ret ?_
  try simp only [Exit.then, Exit.inBlock]
  have lx2 := HF.out.c 0 rfl
  have r0 := Gr.refl Wx1
  exact bodyPost_ret (v := .agg #[.int .u64 ((lo (Int.natAbs ((z).num)) : Nat) : Int), .string (bg (Int.natAbs ((z).num))), .bool (decide (((z).num) < 0)), .int .u64 ((lo ((z).den - 1) : Nat) : Int), .string (bg ((z).den - 1))]) (by simp [results, Tryz.results197, go_sem, lx2 _ r0]) rfl ⟨rfl, HF.out.1⟩
set_option maxHeartbeats 1000000 in
theorem pless_1 (a1 a2 b1 b2 : Rat) (r : Bool) (t : Int) (w : World) (ht : Hid (sgQ (a1 - b1) = t)) (h0 : (t == 0) = false) (h1 : (t != 0) = true) (hl : decide (t < 0) = r) (hs_a1 : sz a1 ≤ 10000000000) (hs_a2 : sz a2 ≤ 10000000000) (hs_b1 : sz b1 ≤ 10000000000) (hs_b2 : sz b2 ≤ 10000000000) :
    Calls Tryz.prog 187 #[(Value.agg #[.int .u64 ((lo (Int.natAbs ((a1).num)) : Nat) : Int), .string (bg (Int.natAbs ((a1).num))), .bool (decide (((a1).num) < 0)), .int .u64 ((lo ((a1).den - 1) : Nat) : Int), .string (bg ((a1).den - 1)), .int .u64 ((lo (Int.natAbs ((a2).num)) : Nat) : Int), .string (bg (Int.natAbs ((a2).num))), .bool (decide (((a2).num) < 0)), .int .u64 ((lo ((a2).den - 1) : Nat) : Int), .string (bg ((a2).den - 1))]), (Value.agg #[.int .u64 ((lo (Int.natAbs ((b1).num)) : Nat) : Int), .string (bg (Int.natAbs ((b1).num))), .bool (decide (((b1).num) < 0)), .int .u64 ((lo ((b1).den - 1) : Nat) : Int), .string (bg ((b1).den - 1)), .int .u64 ((lo (Int.natAbs ((b2).num)) : Nat) : Int), .string (bg (Int.natAbs ((b2).num))), .bool (decide (((b2).num) < 0)), .int .u64 ((lo ((b2).den - 1) : Nat) : Int), .string (bg ((b2).den - 1))])] w fun e w' => e = .returned (.bool (r)) ∧ Below w.heap.size w w' := by
  go_enter Tryz.func187, Tryz.ntmps187
  have HF := Lib.hid (hp0 w)
  refine kS fun K hK => ?_
  refine wp_region_lit ?_
  go_wp2
  refine kO hK ?_; clear hK K
  refine fH (((HF.out).aL (w.heap.size)).aL (w.heap.size + 1)) fun Wx0 HG => ?_
  clear HF; have HF := HG; clear HG
  generalize w.heap.size + 1 = gx1 at *
  refine wp_seq ?_
  have lx0 := HF.out.c 0 rfl
  have lx1 := HF.out.c 1 rfl
  refine kS fun K hK => ?_
  refine sq 6 [(true, 0), (true, 1), (true, 2), (true, 3), (true, 4), (true, 5)] fun T hT => ?_
  iterate 4 refine tk ?_
  refine ck Tryz.call140 (fun w' hw => fcmp_any (a1) (b1) (t) _ (ht.out) om om) ?_
  refine tk ?_
  refine nlS hT HF fun vw1 HG => ?_
  clear hT T HF lx0 lx1
  go_wp2
  refine kO hK ?_; clear hK K
  have HF := HG; clear HG
  refine kS fun K hK => ?_
  refine sq 2 [(true, 0), (true, 1)] fun T hT => ?_
  iterate 2 refine tk ?_
  refine nlS hT HF fun vw2 HG => ?_
  clear hT T HF
  go_wp2
  refine kO hK ?_; clear hK K
  have HF := HG; clear HG
  refine wp_cond_true (by rfl) ?_
  refine kS fun K hK => ?_
  refine sq 3 [(true, 0), (true, 1), (true, 2)] fun T hT => ?_
  iterate 3 refine tk ?_
  refine nlS hT HF fun vw3 HG => ?_
  clear hT T HF
  go_wp2
  refine kO hK ?_; clear hK K
  have HF := HG; clear HG
  refine wp_ret ?_
  try simp only [Exit.then, Exit.inBlock]
  exact bodyPost_ret (v := .bool (r)) (by simp [results, Tryz.results187, go_sem]) rfl ⟨rfl, HF.out.1⟩
set_option maxHeartbeats 1000000 in
theorem pless_2 (a1 a2 b1 b2 : Rat) (r : Bool) (t u : Int) (w : World) (ht : Hid (sgQ (a1 - b1) = t)) (hu : Hid (sgQ (a2 - b2) = u)) (h0 : (t == 0) = true) (h1 : (t != 0) = false) (hl : decide (u < 0) = r) (hs_a1 : sz a1 ≤ 10000000000) (hs_a2 : sz a2 ≤ 10000000000) (hs_b1 : sz b1 ≤ 10000000000) (hs_b2 : sz b2 ≤ 10000000000) :
    Calls Tryz.prog 187 #[(Value.agg #[.int .u64 ((lo (Int.natAbs ((a1).num)) : Nat) : Int), .string (bg (Int.natAbs ((a1).num))), .bool (decide (((a1).num) < 0)), .int .u64 ((lo ((a1).den - 1) : Nat) : Int), .string (bg ((a1).den - 1)), .int .u64 ((lo (Int.natAbs ((a2).num)) : Nat) : Int), .string (bg (Int.natAbs ((a2).num))), .bool (decide (((a2).num) < 0)), .int .u64 ((lo ((a2).den - 1) : Nat) : Int), .string (bg ((a2).den - 1))]), (Value.agg #[.int .u64 ((lo (Int.natAbs ((b1).num)) : Nat) : Int), .string (bg (Int.natAbs ((b1).num))), .bool (decide (((b1).num) < 0)), .int .u64 ((lo ((b1).den - 1) : Nat) : Int), .string (bg ((b1).den - 1)), .int .u64 ((lo (Int.natAbs ((b2).num)) : Nat) : Int), .string (bg (Int.natAbs ((b2).num))), .bool (decide (((b2).num) < 0)), .int .u64 ((lo ((b2).den - 1) : Nat) : Int), .string (bg ((b2).den - 1))])] w fun e w' => e = .returned (.bool (r)) ∧ Below w.heap.size w w' := by
  go_enter Tryz.func187, Tryz.ntmps187
  have HF := Lib.hid (hp0 w)
  refine kS fun K hK => ?_
  refine wp_region_lit ?_
  go_wp2
  refine kO hK ?_; clear hK K
  refine fH (((HF.out).aL (w.heap.size)).aL (w.heap.size + 1)) fun Wx0 HG => ?_
  clear HF; have HF := HG; clear HG
  generalize w.heap.size + 1 = gx1 at *
  refine wp_seq ?_
  have lx0 := HF.out.c 0 rfl
  have lx1 := HF.out.c 1 rfl
  refine kS fun K hK => ?_
  refine sq 6 [(true, 0), (true, 1), (true, 2), (true, 3), (true, 4), (true, 5)] fun T hT => ?_
  iterate 4 refine tk ?_
  refine ck Tryz.call140 (fun w' hw => fcmp_any (a1) (b1) (t) _ (ht.out) om om) ?_
  refine tk ?_
  refine nlS hT HF fun vw1 HG => ?_
  clear hT T HF lx0 lx1
  go_wp2
  refine kO hK ?_; clear hK K
  have HF := HG; clear HG
  refine kS fun K hK => ?_
  refine sq 2 [(true, 0), (true, 1)] fun T hT => ?_
  iterate 2 refine tk ?_
  refine nlS hT HF fun vw2 HG => ?_
  clear hT T HF
  go_wp2
  refine kO hK ?_; clear hK K
  have HF := HG; clear HG
  refine wp_cond_false (by rfl) ?_
  refine wp_skip ?_
  show Code.wp _ _ _ _ _
  have lx0 := HF.out.c 0 rfl
  have lx1 := HF.out.c 1 rfl
  refine kS fun K hK => ?_
  refine sq 7 [(true, 0), (true, 1), (true, 2), (true, 3), (true, 4), (true, 5), (true, 6)] fun T hT => ?_
  iterate 4 refine tk ?_
  refine ck Tryz.call140 (fun w' hw => fcmp_any (a2) (b2) (u) _ (hu.out) om om) ?_
  iterate 2 refine tk ?_
  refine nlS hT HF fun vw3 HG => ?_
  clear hT T HF lx0 lx1
  go_wp2
  refine kO hK ?_; clear hK K
  refine fH (((HG.out).er 1).er 0) fun Wx4 HF => ?_
  clear HG
  refine wp_ret ?_
  try simp only [Exit.then, Exit.inBlock]
  exact bodyPost_ret (v := .bool (r)) (by simp [results, Tryz.results187, go_sem]) rfl ⟨rfl, HF.out.1⟩
def plt (a1 a2 b1 b2 : Rat) : Bool := if a1 = b1 then decide (a2 < b2) else decide (a1 < b1)
theorem sgQ_lt (x y : Rat) : decide (sgQ (x - y) < 0) = decide (x < y) := by
  apply decide_eq_decide.2
  unfold sgQ
  by_cases h : x - y = 0
  · have : x = y := by grind
    subst this
    simp [Rat.lt_irrefl, Rat.sub_self]
  · rw [if_neg h]
    by_cases h2 : x - y < 0
    · rw [if_pos h2]
      have : x < y := by grind
      simp [this]
    · rw [if_neg h2]
      have : ¬ x < y := by grind
      simp [this]
theorem sgQ_eq_zero (x y : Rat) : sgQ (x - y) = 0 ↔ x = y := by
  unfold sgQ
  constructor
  · intro h
    split at h
    · grind
    · split at h <;> simp at h
  · intro h; subst h; rw [Rat.sub_self]; rfl
theorem pless_any (a1 a2 b1 b2 : Rat) (r : Bool) (w : World) (hr : plt a1 a2 b1 b2 = r) (hs_a1 : sz a1 ≤ 10000000000) (hs_a2 : sz a2 ≤ 10000000000) (hs_b1 : sz b1 ≤ 10000000000) (hs_b2 : sz b2 ≤ 10000000000) :
    Calls Tryz.prog 187 #[(Value.agg #[.int .u64 ((lo (Int.natAbs ((a1).num)) : Nat) : Int), .string (bg (Int.natAbs ((a1).num))), .bool (decide (((a1).num) < 0)), .int .u64 ((lo ((a1).den - 1) : Nat) : Int), .string (bg ((a1).den - 1)), .int .u64 ((lo (Int.natAbs ((a2).num)) : Nat) : Int), .string (bg (Int.natAbs ((a2).num))), .bool (decide (((a2).num) < 0)), .int .u64 ((lo ((a2).den - 1) : Nat) : Int), .string (bg ((a2).den - 1))]), (Value.agg #[.int .u64 ((lo (Int.natAbs ((b1).num)) : Nat) : Int), .string (bg (Int.natAbs ((b1).num))), .bool (decide (((b1).num) < 0)), .int .u64 ((lo ((b1).den - 1) : Nat) : Int), .string (bg ((b1).den - 1)), .int .u64 ((lo (Int.natAbs ((b2).num)) : Nat) : Int), .string (bg (Int.natAbs ((b2).num))), .bool (decide (((b2).num) < 0)), .int .u64 ((lo ((b2).den - 1) : Nat) : Int), .string (bg ((b2).den - 1))])] w fun e w' => e = .returned (.bool r) ∧ Below w.heap.size w w' := by
  unfold plt at hr
  by_cases h : a1 = b1
  · rw [if_pos h] at hr
    have h0 : sgQ (a1 - b1) = 0 := (sgQ_eq_zero _ _).2 h
    exact pless_2 a1 a2 b1 b2 r (sgQ (a1 - b1)) (sgQ (a2 - b2)) w (Lib.hid rfl) (Lib.hid rfl) (by rw [h0]; rfl) (by rw [h0]; rfl) (by rw [sgQ_lt]; exact hr) hs_a1 hs_a2 hs_b1 hs_b2
  · rw [if_neg h] at hr
    have h0 : sgQ (a1 - b1) ≠ 0 := fun e => h ((sgQ_eq_zero _ _).1 e)
    exact pless_1 a1 a2 b1 b2 r (sgQ (a1 - b1)) w (Lib.hid rfl) (by simpa using h0) (by simpa using h0) (by rw [sgQ_lt]; exact hr) hs_a1 hs_a2 hs_b1 hs_b2
def turn (a1 a2 b1 b2 c1 c2 : Rat) : Int := sgQ ((b1 - a1) * (c2 - a2) - (b2 - a2) * (c1 - a1))
set_option maxHeartbeats 1000000 in
theorem pturn_any (a1 a2 b1 b2 c1 c2 : Rat) (t : Int) (w : World) (ht : turn a1 a2 b1 b2 c1 c2 = t) (hs_a1 : sz a1 ≤ 1000000000) (hs_a2 : sz a2 ≤ 1000000000) (hs_b1 : sz b1 ≤ 1000000000) (hs_b2 : sz b2 ≤ 1000000000) (hs_c1 : sz c1 ≤ 1000000000) (hs_c2 : sz c2 ≤ 1000000000) :
    Calls Tryz.prog 76 #[(Value.agg #[.int .u64 ((lo (Int.natAbs ((a1).num)) : Nat) : Int), .string (bg (Int.natAbs ((a1).num))), .bool (decide (((a1).num) < 0)), .int .u64 ((lo ((a1).den - 1) : Nat) : Int), .string (bg ((a1).den - 1)), .int .u64 ((lo (Int.natAbs ((a2).num)) : Nat) : Int), .string (bg (Int.natAbs ((a2).num))), .bool (decide (((a2).num) < 0)), .int .u64 ((lo ((a2).den - 1) : Nat) : Int), .string (bg ((a2).den - 1))]), (Value.agg #[.int .u64 ((lo (Int.natAbs ((b1).num)) : Nat) : Int), .string (bg (Int.natAbs ((b1).num))), .bool (decide (((b1).num) < 0)), .int .u64 ((lo ((b1).den - 1) : Nat) : Int), .string (bg ((b1).den - 1)), .int .u64 ((lo (Int.natAbs ((b2).num)) : Nat) : Int), .string (bg (Int.natAbs ((b2).num))), .bool (decide (((b2).num) < 0)), .int .u64 ((lo ((b2).den - 1) : Nat) : Int), .string (bg ((b2).den - 1))]), (Value.agg #[.int .u64 ((lo (Int.natAbs ((c1).num)) : Nat) : Int), .string (bg (Int.natAbs ((c1).num))), .bool (decide (((c1).num) < 0)), .int .u64 ((lo ((c1).den - 1) : Nat) : Int), .string (bg ((c1).den - 1)), .int .u64 ((lo (Int.natAbs ((c2).num)) : Nat) : Int), .string (bg (Int.natAbs ((c2).num))), .bool (decide (((c2).num) < 0)), .int .u64 ((lo ((c2).den - 1) : Nat) : Int), .string (bg ((c2).den - 1))])] w fun e w' => e = .returned (.int .i64 (t)) ∧ Below w.heap.size w w' := by
  replace ht := Lib.hid ht
  go_enter Tryz.func76, Tryz.ntmps76
  have HF := Lib.hid (hp0 w)
  refine kS fun K hK => ?_
  refine wp_region_lit ?_
  go_wp2
  refine kO hK ?_; clear hK K
  refine fH ((((HF.out).aL (w.heap.size)).aL (w.heap.size + 1)).aL (w.heap.size + 1 + 1)) fun Wx0 HG => ?_
  clear HF; have HF := HG; clear HG
  generalize w.heap.size + 1 + 1 = gx2 at *
  generalize w.heap.size + 1 = gx1 at *
  obtain ⟨u1, HZ1⟩ : ∃ z, Hid ((b1) - (a1) = z) := ⟨_, Lib.hid rfl⟩
  have su1 : sz u1 ≤ 2000000001 := by rw [← HZ1.out]; have := sz_sub (b1) (a1); omega
  obtain ⟨u2, HZ2⟩ : ∃ z, Hid ((b2) - (a2) = z) := ⟨_, Lib.hid rfl⟩
  have su2 : sz u2 ≤ 2000000001 := by rw [← HZ2.out]; have := sz_sub (b2) (a2); omega
  obtain ⟨u3, HZ3⟩ : ∃ z, Hid ((c1) - (a1) = z) := ⟨_, Lib.hid rfl⟩
  have su3 : sz u3 ≤ 2000000001 := by rw [← HZ3.out]; have := sz_sub (c1) (a1); omega
  obtain ⟨u4, HZ4⟩ : ∃ z, Hid ((c2) - (a2) = z) := ⟨_, Lib.hid rfl⟩
  have su4 : sz u4 ≤ 2000000001 := by rw [← HZ4.out]; have := sz_sub (c2) (a2); omega
  obtain ⟨u5, HZ5⟩ : ∃ z, Hid ((u1) * (u4) - (u2) * (u3) = z) := ⟨_, Lib.hid rfl⟩
  have su5 : sz u5 ≤ 8000000005 := by rw [← HZ5.out]; have := sz_cross (u1) (u2) (u3) (u4); omega
  have lx0 := HF.out.c 0 rfl
  have lx1 := HF.out.c 1 rfl
  have lx2 := HF.out.c 2 rfl
  refine kS fun K hK => ?_
  refine pd 8 [(true, 0), (true, 1), (true, 3), (true, 4), (true, 2), (true, 5), (true, 6), (true, 7)] fun T hT => ?_
  iterate 4 refine tk ?_
  refine ck Tryz.call78 (fun w' hw => psub_any (b1) (b2) (a1) (a2) (u1) (u2) _ HZ1.out HZ2.out om om om om) ?_
  refine ck Tryz.call78 (fun w' hw => psub_any (c1) (c2) (a1) (a2) (u3) (u4) _ HZ3.out HZ4.out om om om om) ?_
  refine ck Tryz.call80 (fun w' hw => pcross_any (u1) (u2) (u3) (u4) (u5) _ HZ5.out om om om om) ?_
  refine ck Tryz.call139 (fun w' hw => fsign_any (u5) (t) _ (by rw [← HZ5.out, ← HZ1.out, ← HZ2.out, ← HZ3.out, ← HZ4.out]; exact ht.out)) ?_
  refine nlD hT HF fun vw1 HG => ?_
  clear hT T HF lx0 lx1 lx2
  go_wp2
  refine kO hK ?_; clear hK K
  refine fH ((((HG.out).er 2).er 1).er 0) fun Wx1 HF => ?_
  clear HG
  refine wp_ret ?_
  try simp only [Exit.then, Exit.inBlock]
  exact bodyPost_ret (v := .int .i64 (t)) (by simp [results, Tryz.results76, go_sem]) rfl ⟨rfl, HF.out.1⟩
set_option maxHeartbeats 1000000 in
theorem ppint_any (n m : Int) (z1 z2 : Rat) (w : World) (hz1 : (n : Rat) = z1) (hz2 : (m : Rat) = z2) (h1 : -9223372036854775808 ≤ n) (h2 : n ≤ 9223372036854775807) (h3 : -9223372036854775808 ≤ m) (h4 : m ≤ 9223372036854775807) :
    Calls Tryz.prog 93 #[.int .i64 (n), .int .i64 (m)] w fun e w' => e = .returned (.agg #[.int .u64 ((lo (Int.natAbs ((z1).num)) : Nat) : Int), .string (bg (Int.natAbs ((z1).num))), .bool (decide (((z1).num) < 0)), .int .u64 ((lo ((z1).den - 1) : Nat) : Int), .string (bg ((z1).den - 1)), .int .u64 ((lo (Int.natAbs ((z2).num)) : Nat) : Int), .string (bg (Int.natAbs ((z2).num))), .bool (decide (((z2).num) < 0)), .int .u64 ((lo ((z2).den - 1) : Nat) : Int), .string (bg ((z2).den - 1))]) ∧ Below w.heap.size w w' := by
  replace hz1 := Lib.hid hz1
  replace hz2 := Lib.hid hz2
  go_enter Tryz.func93, Tryz.ntmps93
  have HF := Lib.hid (hp0 w)
  refine kS fun K hK => ?_
  refine wp_region_lit ?_
  go_wp2
  refine kO hK ?_; clear hK K
  refine fH ((HF.out).aL (w.heap.size)) fun Wx0 HG => ?_
  clear HF; have HF := HG; clear HG
  have HZ1 : Hid (((n : Int) : Rat) = z1) := Lib.hid (hz1.out)
  have HZ2 : Hid (((m : Int) : Rat) = z2) := Lib.hid (hz2.out)
  refine kS fun K hK => ?_
  refine sq 5 [(true, 0), (true, 1), (true, 2), (true, 3), (true, 4)] fun T hT => ?_
  refine tk ?_
  refine ck Tryz.call147 (fun w' hw => fint_any (n) (z1) _ HZ1.out om om) ?_
  refine tk ?_
  refine ck Tryz.call147 (fun w' hw => fint_any (m) (z2) _ HZ2.out om om) ?_
  refine tk ?_
  refine nlS hT HF fun vw1 HG => ?_
  clear hT T HF
  have lx0 := HG.out.c 0 rfl; have fx0 := HG.out.f 0 rfl
  have r0 := Gr.refl vw1
  go_wp2
  refine kO hK ?_; clear hK K
  clear r0 lx0 fx0
  refine fH ((((((HG.out).put2 0 0 rfl).put2 0 2 rfl).put2 0 4 rfl).put2 0 6 rfl).put2 0 8 rfl) fun Wx1 HF => ?_
  clear HG
  refine wp_ret ?_
  try simp only [Exit.then, Exit.inBlock]
  have lx0 := HF.out.c 0 rfl
  have r0 := Gr.refl Wx1
  exact bodyPost_ret (v := .agg #[.int .u64 ((lo (Int.natAbs ((z1).num)) : Nat) : Int), .string (bg (Int.natAbs ((z1).num))), .bool (decide (((z1).num) < 0)), .int .u64 ((lo ((z1).den - 1) : Nat) : Int), .string (bg ((z1).den - 1)), .int .u64 ((lo (Int.natAbs ((z2).num)) : Nat) : Int), .string (bg (Int.natAbs ((z2).num))), .bool (decide (((z2).num) < 0)), .int .u64 ((lo ((z2).den - 1) : Nat) : Int), .string (bg ((z2).den - 1))]) (by simp [results, Tryz.results93, go_sem, lx0 _ r0]) rfl ⟨rfl, HF.out.1⟩
end Go.Proofs.YtobojnodohjiaaaGreatDoor
