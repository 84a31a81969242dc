/- points: On, Circle. -/
import Derived.Test.YtenpbnmmadbkdaaPts2
import Derived.Test.YtenpbnmmadbkdaaEarly
namespace Go.Proofs.Ytenpbnmmadbkdaa
open Go.RowKit
set_option linter.unusedSimpArgs false
set_option linter.unusedVariables false
attribute [local go_sem ↓] Go.wp_at_zero Go.wp_at_succ
set_option maxHeartbeats 1000000 in
theorem pon_no (a1 a2 b1 b2 p1 p2 : Rat) (t : Int) (w : World) (ht : Hid (turn a1 a2 b1 b2 p1 p2 = t)) (h0 : (t == 0) = false) (hs_a1 : sz a1 ≤ 1000000000) (hs_a2 : sz a2 ≤ 1000000000) (hs_b1 : sz b1 ≤ 1000000000) (hs_b2 : sz b2 ≤ 1000000000) (hs_p1 : sz p1 ≤ 1000000000) (hs_p2 : sz p2 ≤ 1000000000) :
    Calls Try.prog 22 #[(Value.agg #[.int .u64 ((lo (Int.natAbs ((a1).num)) : Nat) : Int), .string (bg (Int.natAbs ((a1).num))), .bool (decide (((a1).num) < 0)), .int .u64 ((lo ((a1).den - 1) : Nat) : Int), .string (bg ((a1).den - 1)), .int .u64 ((lo (Int.natAbs ((a2).num)) : Nat) : Int), .string (bg (Int.natAbs ((a2).num))), .bool (decide (((a2).num) < 0)), .int .u64 ((lo ((a2).den - 1) : Nat) : Int), .string (bg ((a2).den - 1))]), (Value.agg #[.int .u64 ((lo (Int.natAbs ((b1).num)) : Nat) : Int), .string (bg (Int.natAbs ((b1).num))), .bool (decide (((b1).num) < 0)), .int .u64 ((lo ((b1).den - 1) : Nat) : Int), .string (bg ((b1).den - 1)), .int .u64 ((lo (Int.natAbs ((b2).num)) : Nat) : Int), .string (bg (Int.natAbs ((b2).num))), .bool (decide (((b2).num) < 0)), .int .u64 ((lo ((b2).den - 1) : Nat) : Int), .string (bg ((b2).den - 1))]), (Value.agg #[.int .u64 ((lo (Int.natAbs ((p1).num)) : Nat) : Int), .string (bg (Int.natAbs ((p1).num))), .bool (decide (((p1).num) < 0)), .int .u64 ((lo ((p1).den - 1) : Nat) : Int), .string (bg ((p1).den - 1)), .int .u64 ((lo (Int.natAbs ((p2).num)) : Nat) : Int), .string (bg (Int.natAbs ((p2).num))), .bool (decide (((p2).num) < 0)), .int .u64 ((lo ((p2).den - 1) : Nat) : Int), .string (bg ((p2).den - 1))])] w fun e w' => e = .returned (.bool false) ∧ Below w.heap.size w w' := by
  go_enter Try.func22, Try.ntmps22
  -- region 0
  refine wp_seq_k fun K hK => ?_
  replace hK := Lib.hid hK
  refine wp_region_lit ?_
  go_wp2
  refine hK.out _ _ ?_; clear hK K
  show Code.wp _ _ _ _ _
  refine forgetW (fun w2 => Bx w2 (w.heap.size) 38 #[.int .u64 ((lo (Int.natAbs ((a1).num)) : Nat) : Int), .string (bg (Int.natAbs ((a1).num))), .bool (decide (((a1).num) < 0)), .int .u64 ((lo ((a1).den - 1) : Nat) : Int), .string (bg ((a1).den - 1)), .int .u64 ((lo (Int.natAbs ((a2).num)) : Nat) : Int), .string (bg (Int.natAbs ((a2).num))), .bool (decide (((a2).num) < 0)), .int .u64 ((lo ((a2).den - 1) : Nat) : Int), .string (bg ((a2).den - 1))] ∧ Bx w2 (w.heap.size + 1) 38 #[.int .u64 ((lo (Int.natAbs ((b1).num)) : Nat) : Int), .string (bg (Int.natAbs ((b1).num))), .bool (decide (((b1).num) < 0)), .int .u64 ((lo ((b1).den - 1) : Nat) : Int), .string (bg ((b1).den - 1)), .int .u64 ((lo (Int.natAbs ((b2).num)) : Nat) : Int), .string (bg (Int.natAbs ((b2).num))), .bool (decide (((b2).num) < 0)), .int .u64 ((lo ((b2).den - 1) : Nat) : Int), .string (bg ((b2).den - 1))] ∧ Bx w2 (w.heap.size + 1 + 1) 38 #[.int .u64 ((lo (Int.natAbs ((p1).num)) : Nat) : Int), .string (bg (Int.natAbs ((p1).num))), .bool (decide (((p1).num) < 0)), .int .u64 ((lo ((p1).den - 1) : Nat) : Int), .string (bg ((p1).den - 1)), .int .u64 ((lo (Int.natAbs ((p2).num)) : Nat) : Int), .string (bg (Int.natAbs ((p2).num))), .bool (decide (((p2).num) < 0)), .int .u64 ((lo ((p2).den - 1) : Nat) : Int), .string (bg ((p2).den - 1))] ∧ Below w.heap.size w w2) ⟨((Bx.at rfl).alloc _).alloc _, (Bx.at (by simp)).alloc _, Bx.at (by simp), (((Below.refl _ _).alloc (Nat.le_refl _) _).alloc (by simp) _).alloc (by simp; omega) _⟩ ?_
  rintro Wx ⟨bx0, bx1, bx2, HB⟩
  replace HB := Lib.hid HB
  -- region 1
  have lx0 := bx0.cells
  have lx1 := bx1.cells
  have lx2 := bx2.cells
  have BX0 := Lib.hid bx0
  have BX1 := Lib.hid bx1
  have BX2 := Lib.hid bx2
  clear bx0 bx1 bx2
  refine wp_seq_k fun K hK => ?_
  replace hK := Lib.hid hK
  refine wp_region_early 23 [] [] (fun _ => 0) (fun _ => .cells #[] 0) (fun _ => (0, #[], 0)) [(0, 0), (0, 1), (0, 2), (0, 3), (0, 4), (0, 5), (0, 6), (0, 7), (0, 8), (0, 9), (0, 10), (0, 11), (0, 12), (0, 13), (0, 14), (0, 15), (0, 16), (0, 17), (0, 19), (0, 18), (0, 20), (0, 21), (0, 22)] (by kernel_rfl) (by kernel_rfl) (fun i hi => by cases hi) (fun i hi => by cases hi) (fun _ _ _ _ _ h => h) (fun T hT => ?_)
  iterate 3
    refine wpEarly_takeL (v := ?_) rfl (by rfl) (fun w' hw => ?_) ?_
    rotate_left
    · go_simp
      with_reducible rfl
    simp only [Act.put, List.setIfInBounds_toArray, List.set_cons_zero, List.set_cons_succ]
  refine wpEarly_callL rfl (by rfl) Try.call13 (fun w' hw => pturn_any (a1) (a2) (b1) (b2) (p1) (p2) (t) _ (ht.out) (by first | omega | exact Nat.le_trans (wl_small (by decide)) (by decide)) (by first | omega | exact Nat.le_trans (wl_small (by decide)) (by decide)) (by first | omega | exact Nat.le_trans (wl_small (by decide)) (by decide)) (by first | omega | exact Nat.le_trans (wl_small (by decide)) (by decide)) (by first | omega | exact Nat.le_trans (wl_small (by decide)) (by decide)) (by first | omega | exact Nat.le_trans (wl_small (by decide)) (by decide))) (by rfl) ?_
  simp only [Act.put, List.setIfInBounds_toArray, List.set_cons_zero, List.set_cons_succ]
  iterate 2
    refine wpEarly_takeL (v := ?_) rfl (by rfl) (fun w' hw => ?_) ?_
    rotate_left
    · go_simp
      with_reducible rfl
    simp only [Act.put, List.setIfInBounds_toArray, List.set_cons_zero, List.set_cons_succ]
  refine wpEarly_skipL rfl (by rfl) ?_
  simp only [Act.put, List.setIfInBounds_toArray, List.set_cons_zero, List.set_cons_succ]
  refine wpEarly_skipL rfl (by rfl) ?_
  simp only [Act.put, List.setIfInBounds_toArray, List.set_cons_zero, List.set_cons_succ]
  refine wpEarly_skipL rfl (by rfl) ?_
  simp only [Act.put, List.setIfInBounds_toArray, List.set_cons_zero, List.set_cons_succ]
  refine wpEarly_skipL rfl (by rfl) ?_
  simp only [Act.put, List.setIfInBounds_toArray, List.set_cons_zero, List.set_cons_succ]
  refine wpEarly_skipL rfl (by rfl) ?_
  simp only [Act.put, List.setIfInBounds_toArray, List.set_cons_zero, List.set_cons_succ]
  refine wpEarly_skipL rfl (by rfl) ?_
  simp only [Act.put, List.setIfInBounds_toArray, List.set_cons_zero, List.set_cons_succ]
  refine wpEarly_skipL rfl (by rfl) ?_
  simp only [Act.put, List.setIfInBounds_toArray, List.set_cons_zero, List.set_cons_succ]
  iterate 2
    refine wpEarly_takeL (v := ?_) rfl (by rfl) (fun w' hw => ?_) ?_
    rotate_left
    · go_simp
      with_reducible rfl
    simp only [Act.put, List.setIfInBounds_toArray, List.set_cons_zero, List.set_cons_succ]
  refine wpEarly_skipL rfl (by rfl) ?_
  simp only [Act.put, List.setIfInBounds_toArray, List.set_cons_zero, List.set_cons_succ]
  refine wpEarly_skipL rfl (by rfl) ?_
  simp only [Act.put, List.setIfInBounds_toArray, List.set_cons_zero, List.set_cons_succ]
  refine wpEarly_skipL rfl (by rfl) ?_
  simp only [Act.put, List.setIfInBounds_toArray, List.set_cons_zero, List.set_cons_succ]
  refine wpEarly_skipL rfl (by rfl) ?_
  simp only [Act.put, List.setIfInBounds_toArray, List.set_cons_zero, List.set_cons_succ]
  refine wpEarly_skipL rfl (by rfl) ?_
  simp only [Act.put, List.setIfInBounds_toArray, List.set_cons_zero, List.set_cons_succ]
  refine wpEarly_skipL rfl (by rfl) ?_
  simp only [Act.put, List.setIfInBounds_toArray, List.set_cons_zero, List.set_cons_succ]
  refine wpEarly_skipL rfl (by rfl) ?_
  simp only [Act.put, List.setIfInBounds_toArray, List.set_cons_zero, List.set_cons_succ]
  iterate 1
    refine wpEarly_takeL (v := ?_) rfl (by rfl) (fun w' hw => ?_) ?_
    rotate_left
    · go_simp
      with_reducible rfl
    simp only [Act.put, List.setIfInBounds_toArray, List.set_cons_zero, List.set_cons_succ]
  refine wpEarly_nil (hT.out _ _ ?_); clear hT T
  intro G vw1 hg hf
  simp only [puts, Act.put, List.setIfInBounds_toArray, List.set_cons_zero, List.set_cons_succ, List.drop_succ_cons, List.drop_zero, ↓reduceIte, Nat.reduceEqDiff]
  clear lx0 lx1 lx2
  have HG := Lib.hid (hg)
  clear hg
  have bx0 := BX0.out.gr HG.out; clear BX0
  have bx1 := BX1.out.gr HG.out; clear BX1
  have bx2 := BX2.out.gr HG.out; clear BX2
  have r0 := Gr.refl vw1
  have BX0 := Lib.hid bx0; clear bx0
  have BX1 := Lib.hid bx1; clear bx1
  have BX2 := Lib.hid bx2; clear bx2
  go_wp2
  refine hK.out _ _ ?_; clear hK K
  show Code.wp _ _ _ _ _
  clear r0
  refine forgetW (fun w2 => Below w.heap.size w w2) (HB.out.trans (HG.out.mono HB.out.size)) ?_
  clear HB HG BX0 BX1 BX2
  rintro Wx1 HB
  replace HB := Lib.hid HB
  refine wp_ret ?_
  try simp only [Exit.then, Exit.inBlock]
  have r0 := Gr.refl Wx1
  exact bodyPost_ret (v := .bool false) (by simp [results, Try.results22, go_sem]) rfl ⟨rfl, HB.out⟩

set_option maxHeartbeats 1000000 in
theorem pon_low (a1 a2 b1 b2 p1 p2 : Rat) (t : Int) (r : Bool) (lo1 lo2 : Rat) (w : World) (ht : Hid (turn a1 a2 b1 b2 p1 p2 = t)) (h0 : (t == 0) = true) (hr : Hid (plt b1 b2 a1 a2 = r)) (hl1 : Hid ((if r then b1 else a1) = lo1)) (hl2 : Hid ((if r then b2 else a2) = lo2)) (hs_lo1 : sz lo1 ≤ 1000000000) (hs_lo2 : sz lo2 ≤ 1000000000) (h : Hid (plt p1 p2 lo1 lo2 = true)) (hs_a1 : sz a1 ≤ 1000000000) (hs_a2 : sz a2 ≤ 1000000000) (hs_b1 : sz b1 ≤ 1000000000) (hs_b2 : sz b2 ≤ 1000000000) (hs_p1 : sz p1 ≤ 1000000000) (hs_p2 : sz p2 ≤ 1000000000) :
    Calls Try.prog 22 #[(Value.agg #[.int .u64 ((lo (Int.natAbs ((a1).num)) : Nat) : Int), .string (bg (Int.natAbs ((a1).num))), .bool (decide (((a1).num) < 0)), .int .u64 ((lo ((a1).den - 1) : Nat) : Int), .string (bg ((a1).den - 1)), .int .u64 ((lo (Int.natAbs ((a2).num)) : Nat) : Int), .string (bg (Int.natAbs ((a2).num))), .bool (decide (((a2).num) < 0)), .int .u64 ((lo ((a2).den - 1) : Nat) : Int), .string (bg ((a2).den - 1))]), (Value.agg #[.int .u64 ((lo (Int.natAbs ((b1).num)) : Nat) : Int), .string (bg (Int.natAbs ((b1).num))), .bool (decide (((b1).num) < 0)), .int .u64 ((lo ((b1).den - 1) : Nat) : Int), .string (bg ((b1).den - 1)), .int .u64 ((lo (Int.natAbs ((b2).num)) : Nat) : Int), .string (bg (Int.natAbs ((b2).num))), .bool (decide (((b2).num) < 0)), .int .u64 ((lo ((b2).den - 1) : Nat) : Int), .string (bg ((b2).den - 1))]), (Value.agg #[.int .u64 ((lo (Int.natAbs ((p1).num)) : Nat) : Int), .string (bg (Int.natAbs ((p1).num))), .bool (decide (((p1).num) < 0)), .int .u64 ((lo ((p1).den - 1) : Nat) : Int), .string (bg ((p1).den - 1)), .int .u64 ((lo (Int.natAbs ((p2).num)) : Nat) : Int), .string (bg (Int.natAbs ((p2).num))), .bool (decide (((p2).num) < 0)), .int .u64 ((lo ((p2).den - 1) : Nat) : Int), .string (bg ((p2).den - 1))])] w fun e w' => e = .returned (.bool false) ∧ Below w.heap.size w w' := by
  go_enter Try.func22, Try.ntmps22
  -- region 0
  refine wp_seq_k fun K hK => ?_
  replace hK := Lib.hid hK
  refine wp_region_lit ?_
  go_wp2
  refine hK.out _ _ ?_; clear hK K
  show Code.wp _ _ _ _ _
  refine forgetW (fun w2 => Bx w2 (w.heap.size) 38 #[.int .u64 ((lo (Int.natAbs ((a1).num)) : Nat) : Int), .string (bg (Int.natAbs ((a1).num))), .bool (decide (((a1).num) < 0)), .int .u64 ((lo ((a1).den - 1) : Nat) : Int), .string (bg ((a1).den - 1)), .int .u64 ((lo (Int.natAbs ((a2).num)) : Nat) : Int), .string (bg (Int.natAbs ((a2).num))), .bool (decide (((a2).num) < 0)), .int .u64 ((lo ((a2).den - 1) : Nat) : Int), .string (bg ((a2).den - 1))] ∧ Bx w2 (w.heap.size + 1) 38 #[.int .u64 ((lo (Int.natAbs ((b1).num)) : Nat) : Int), .string (bg (Int.natAbs ((b1).num))), .bool (decide (((b1).num) < 0)), .int .u64 ((lo ((b1).den - 1) : Nat) : Int), .string (bg ((b1).den - 1)), .int .u64 ((lo (Int.natAbs ((b2).num)) : Nat) : Int), .string (bg (Int.natAbs ((b2).num))), .bool (decide (((b2).num) < 0)), .int .u64 ((lo ((b2).den - 1) : Nat) : Int), .string (bg ((b2).den - 1))] ∧ Bx w2 (w.heap.size + 1 + 1) 38 #[.int .u64 ((lo (Int.natAbs ((p1).num)) : Nat) : Int), .string (bg (Int.natAbs ((p1).num))), .bool (decide (((p1).num) < 0)), .int .u64 ((lo ((p1).den - 1) : Nat) : Int), .string (bg ((p1).den - 1)), .int .u64 ((lo (Int.natAbs ((p2).num)) : Nat) : Int), .string (bg (Int.natAbs ((p2).num))), .bool (decide (((p2).num) < 0)), .int .u64 ((lo ((p2).den - 1) : Nat) : Int), .string (bg ((p2).den - 1))] ∧ Below w.heap.size w w2) ⟨((Bx.at rfl).alloc _).alloc _, (Bx.at (by simp)).alloc _, Bx.at (by simp), (((Below.refl _ _).alloc (Nat.le_refl _) _).alloc (by simp) _).alloc (by simp; omega) _⟩ ?_
  rintro Wx ⟨bx0, bx1, bx2, HB⟩
  replace HB := Lib.hid HB
  -- region 1
  have lx0 := bx0.cells
  have lx1 := bx1.cells
  have lx2 := bx2.cells
  have BX0 := Lib.hid bx0
  have BX1 := Lib.hid bx1
  have BX2 := Lib.hid bx2
  clear bx0 bx1 bx2
  refine wp_seq_k fun K hK => ?_
  replace hK := Lib.hid hK
  have HS0 := Lib.hid (HB.out.size)
  have MX0 : w.heap.size < Wx.heap.size := BX0.out.lt
  have MX1 : w.heap.size + 1 < Wx.heap.size := BX1.out.lt
  have MX2 : w.heap.size + 1 + 1 < Wx.heap.size := BX2.out.lt
  refine wp_region_early 23 [] [] (fun _ => 0) (fun _ => .cells #[] 0) (fun i => (1, #[.int .u64 ((lo (Int.natAbs ((b1).num)) : Nat) : Int), .string (bg (Int.natAbs ((b1).num))), .bool (decide (((b1).num) < 0)), .int .u64 ((lo ((b1).den - 1) : Nat) : Int), .string (bg ((b1).den - 1)), .int .u64 ((lo (Int.natAbs ((b2).num)) : Nat) : Int), .string (bg (Int.natAbs ((b2).num))), .bool (decide (((b2).num) < 0)), .int .u64 ((lo ((b2).den - 1) : Nat) : Int), .string (bg ((b2).den - 1))], 38)) [(0, 0), (0, 1), (0, 2), (0, 3), (0, 4), (0, 5), (0, 6), (0, 7), (0, 8), (1, 9), (2, 9), (0, 10), (0, 11), (0, 12), (0, 13), (0, 14), (0, 15), (0, 16), (0, 17), (0, 19), (0, 18), (0, 20), (0, 21), (0, 22)] (by kernel_rfl) (by kernel_rfl) (fun i hi => by cases hi) (fun i hi => by cases hi) (fun _ _ _ _ _ h => h) (fun T hT => ?_)
  iterate 3
    refine wpEarly_takeL (v := ?_) rfl (by rfl) (fun w' hw => ?_) ?_
    rotate_left
    · go_simp
      with_reducible rfl
    simp only [Act.put, List.setIfInBounds_toArray, List.set_cons_zero, List.set_cons_succ]
  refine wpEarly_callL rfl (by rfl) Try.call13 (fun w' hw => pturn_any (a1) (a2) (b1) (b2) (p1) (p2) (t) _ (ht.out) (by first | omega | exact Nat.le_trans (wl_small (by decide)) (by decide)) (by first | omega | exact Nat.le_trans (wl_small (by decide)) (by decide)) (by first | omega | exact Nat.le_trans (wl_small (by decide)) (by decide)) (by first | omega | exact Nat.le_trans (wl_small (by decide)) (by decide)) (by first | omega | exact Nat.le_trans (wl_small (by decide)) (by decide)) (by first | omega | exact Nat.le_trans (wl_small (by decide)) (by decide))) (by rfl) ?_
  simp only [Act.put, List.setIfInBounds_toArray, List.set_cons_zero, List.set_cons_succ]
  iterate 5
    refine wpEarly_takeL (v := ?_) rfl (by rfl) (fun w' hw => ?_) ?_
    rotate_left
    · go_simp
      with_reducible rfl
    simp only [Act.put, List.setIfInBounds_toArray, List.set_cons_zero, List.set_cons_succ]
  refine wpEarly_mk rfl (by rfl) (fun w' => ?_) ?_
  · go_simp
  refine wpEarly_use rfl (by rfl) (fun gx3 vv1 hg0 yx3 bx3 => ?_)
  have HG0 := Lib.hid hg0; clear hg0
  replace yx3 : w.heap.size ≤ gx3 := by first | exact Nat.le_trans HS0.out yx3 | exact Nat.le_trans HB.out.size yx3
  have BX3 := Lib.hid bx3; clear bx3
  have BX0_ := Lib.hid (BX0.out.gr HG0.out); clear BX0; have BX0 := BX0_; clear BX0_
  have BX1_ := Lib.hid (BX1.out.gr HG0.out); clear BX1; have BX1 := BX1_; clear BX1_
  have BX2_ := Lib.hid (BX2.out.gr HG0.out); clear BX2; have BX2 := BX2_; clear BX2_
  have HB_ := Lib.hid (HB.out.trans (HG0.out.mono HB.out.size)); clear HB; have HB := HB_; clear HB_
  clear HG0
  clear lx0; have lx0 := BX0.out.cells
  clear lx1; have lx1 := BX1.out.cells
  clear lx2; have lx2 := BX2.out.cells
  simp only [Act.put, List.setIfInBounds_toArray, List.set_cons_zero, List.set_cons_succ]
  refine wpEarly_callL rfl (by rfl) Try.call44 (fun w' hw => pleast_any (a1) (a2) (b1) (b2) lo1 lo2 (gx3) _ (BX3.out.gr hw) (r) (hr.out) (hl1.out) (hl2.out) (by first | omega | exact Nat.le_trans (wl_small (by decide)) (by decide)) (by first | omega | exact Nat.le_trans (wl_small (by decide)) (by decide)) (by first | omega | exact Nat.le_trans (wl_small (by decide)) (by decide)) (by first | omega | exact Nat.le_trans (wl_small (by decide)) (by decide))) (by rfl) ?_
  simp only [Act.put, List.setIfInBounds_toArray, List.set_cons_zero, List.set_cons_succ]
  refine wpEarly_callL rfl (by rfl) Try.call27 (fun w' hw => pless_any (p1) (p2) (lo1) (lo2) true _ (h.out) (by first | omega | exact Nat.le_trans (wl_small (by decide)) (by decide)) (by first | omega | exact Nat.le_trans (wl_small (by decide)) (by decide)) (by first | omega | exact Nat.le_trans (wl_small (by decide)) (by decide)) (by first | omega | exact Nat.le_trans (wl_small (by decide)) (by decide))) (by rfl) ?_
  simp only [Act.put, List.setIfInBounds_toArray, List.set_cons_zero, List.set_cons_succ]
  iterate 3
    refine wpEarly_takeL (v := ?_) rfl (by rfl) (fun w' hw => ?_) ?_
    rotate_left
    · go_simp
      with_reducible rfl
    simp only [Act.put, List.setIfInBounds_toArray, List.set_cons_zero, List.set_cons_succ]
  refine wpEarly_skipL rfl (by rfl) ?_
  simp only [Act.put, List.setIfInBounds_toArray, List.set_cons_zero, List.set_cons_succ]
  refine wpEarly_skipL rfl (by rfl) ?_
  simp only [Act.put, List.setIfInBounds_toArray, List.set_cons_zero, List.set_cons_succ]
  refine wpEarly_skipL rfl (by rfl) ?_
  simp only [Act.put, List.setIfInBounds_toArray, List.set_cons_zero, List.set_cons_succ]
  refine wpEarly_skipL rfl (by rfl) ?_
  simp only [Act.put, List.setIfInBounds_toArray, List.set_cons_zero, List.set_cons_succ]
  refine wpEarly_skipL rfl (by rfl) ?_
  simp only [Act.put, List.setIfInBounds_toArray, List.set_cons_zero, List.set_cons_succ]
  refine wpEarly_skipL rfl (by rfl) ?_
  simp only [Act.put, List.setIfInBounds_toArray, List.set_cons_zero, List.set_cons_succ]
  refine wpEarly_skipL rfl (by rfl) ?_
  simp only [Act.put, List.setIfInBounds_toArray, List.set_cons_zero, List.set_cons_succ]
  iterate 1
    refine wpEarly_takeL (v := ?_) rfl (by rfl) (fun w' hw => ?_) ?_
    rotate_left
    · go_simp
      with_reducible rfl
    simp only [Act.put, List.setIfInBounds_toArray, List.set_cons_zero, List.set_cons_succ]
  refine wpEarly_nil (hT.out _ _ ?_); clear hT T
  intro G vw1 hg hf
  simp only [puts, Act.put, List.setIfInBounds_toArray, List.set_cons_zero, List.set_cons_succ, List.drop_succ_cons, List.drop_zero, ↓reduceIte, Nat.reduceEqDiff]
  clear lx0 lx1 lx2
  clear BX3
  have HG := Lib.hid (hg)
  clear hg
  have bx0 := BX0.out.gr HG.out; clear BX0
  have bx1 := BX1.out.gr HG.out; clear BX1
  have bx2 := BX2.out.gr HG.out; clear BX2
  have r0 := Gr.refl vw1
  have BX0 := Lib.hid bx0; clear bx0
  have BX1 := Lib.hid bx1; clear bx1
  have BX2 := Lib.hid bx2; clear bx2
  go_wp2
  refine hK.out _ _ ?_; clear hK K
  show Code.wp _ _ _ _ _
  clear r0
  refine forgetW (fun w2 => Below w.heap.size w w2) (HB.out.trans (HG.out.mono HB.out.size)) ?_
  clear HB HG BX0 BX1 BX2
  rintro Wx1 HB
  replace HB := Lib.hid HB
  refine wp_ret ?_
  try simp only [Exit.then, Exit.inBlock]
  have r0 := Gr.refl Wx1
  exact bodyPost_ret (v := .bool false) (by simp [results, Try.results22, go_sem]) rfl ⟨rfl, HB.out⟩

set_option maxHeartbeats 1000000 in
theorem pon_high (a1 a2 b1 b2 p1 p2 : Rat) (t : Int) (r : Bool) (lo1 lo2 : Rat) (q : Bool) (hi1 hi2 : Rat) (r2 : Bool) (w : World) (ht : Hid (turn a1 a2 b1 b2 p1 p2 = t)) (h0 : (t == 0) = true) (hr : Hid (plt b1 b2 a1 a2 = r)) (hl1 : Hid ((if r then b1 else a1) = lo1)) (hl2 : Hid ((if r then b2 else a2) = lo2)) (hs_lo1 : sz lo1 ≤ 1000000000) (hs_lo2 : sz lo2 ≤ 1000000000) (h : Hid (plt p1 p2 lo1 lo2 = false)) (hq : Hid (plt a1 a2 b1 b2 = q)) (hh1 : Hid ((if q then b1 else a1) = hi1)) (hh2 : Hid ((if q then b2 else a2) = hi2)) (hs_hi1 : sz hi1 ≤ 1000000000) (hs_hi2 : sz hi2 ≤ 1000000000) (h2 : Hid (plt hi1 hi2 p1 p2 = r2)) (hs_a1 : sz a1 ≤ 1000000000) (hs_a2 : sz a2 ≤ 1000000000) (hs_b1 : sz b1 ≤ 1000000000) (hs_b2 : sz b2 ≤ 1000000000) (hs_p1 : sz p1 ≤ 1000000000) (hs_p2 : sz p2 ≤ 1000000000) :
    Calls Try.prog 22 #[(Value.agg #[.int .u64 ((lo (Int.natAbs ((a1).num)) : Nat) : Int), .string (bg (Int.natAbs ((a1).num))), .bool (decide (((a1).num) < 0)), .int .u64 ((lo ((a1).den - 1) : Nat) : Int), .string (bg ((a1).den - 1)), .int .u64 ((lo (Int.natAbs ((a2).num)) : Nat) : Int), .string (bg (Int.natAbs ((a2).num))), .bool (decide (((a2).num) < 0)), .int .u64 ((lo ((a2).den - 1) : Nat) : Int), .string (bg ((a2).den - 1))]), (Value.agg #[.int .u64 ((lo (Int.natAbs ((b1).num)) : Nat) : Int), .string (bg (Int.natAbs ((b1).num))), .bool (decide (((b1).num) < 0)), .int .u64 ((lo ((b1).den - 1) : Nat) : Int), .string (bg ((b1).den - 1)), .int .u64 ((lo (Int.natAbs ((b2).num)) : Nat) : Int), .string (bg (Int.natAbs ((b2).num))), .bool (decide (((b2).num) < 0)), .int .u64 ((lo ((b2).den - 1) : Nat) : Int), .string (bg ((b2).den - 1))]), (Value.agg #[.int .u64 ((lo (Int.natAbs ((p1).num)) : Nat) : Int), .string (bg (Int.natAbs ((p1).num))), .bool (decide (((p1).num) < 0)), .int .u64 ((lo ((p1).den - 1) : Nat) : Int), .string (bg ((p1).den - 1)), .int .u64 ((lo (Int.natAbs ((p2).num)) : Nat) : Int), .string (bg (Int.natAbs ((p2).num))), .bool (decide (((p2).num) < 0)), .int .u64 ((lo ((p2).den - 1) : Nat) : Int), .string (bg ((p2).den - 1))])] w fun e w' => e = .returned (.bool (!r2)) ∧ Below w.heap.size w w' := by
  go_enter Try.func22, Try.ntmps22
  -- region 0
  refine wp_seq_k fun K hK => ?_
  replace hK := Lib.hid hK
  refine wp_region_lit ?_
  go_wp2
  refine hK.out _ _ ?_; clear hK K
  show Code.wp _ _ _ _ _
  refine forgetW (fun w2 => Bx w2 (w.heap.size) 38 #[.int .u64 ((lo (Int.natAbs ((a1).num)) : Nat) : Int), .string (bg (Int.natAbs ((a1).num))), .bool (decide (((a1).num) < 0)), .int .u64 ((lo ((a1).den - 1) : Nat) : Int), .string (bg ((a1).den - 1)), .int .u64 ((lo (Int.natAbs ((a2).num)) : Nat) : Int), .string (bg (Int.natAbs ((a2).num))), .bool (decide (((a2).num) < 0)), .int .u64 ((lo ((a2).den - 1) : Nat) : Int), .string (bg ((a2).den - 1))] ∧ Bx w2 (w.heap.size + 1) 38 #[.int .u64 ((lo (Int.natAbs ((b1).num)) : Nat) : Int), .string (bg (Int.natAbs ((b1).num))), .bool (decide (((b1).num) < 0)), .int .u64 ((lo ((b1).den - 1) : Nat) : Int), .string (bg ((b1).den - 1)), .int .u64 ((lo (Int.natAbs ((b2).num)) : Nat) : Int), .string (bg (Int.natAbs ((b2).num))), .bool (decide (((b2).num) < 0)), .int .u64 ((lo ((b2).den - 1) : Nat) : Int), .string (bg ((b2).den - 1))] ∧ Bx w2 (w.heap.size + 1 + 1) 38 #[.int .u64 ((lo (Int.natAbs ((p1).num)) : Nat) : Int), .string (bg (Int.natAbs ((p1).num))), .bool (decide (((p1).num) < 0)), .int .u64 ((lo ((p1).den - 1) : Nat) : Int), .string (bg ((p1).den - 1)), .int .u64 ((lo (Int.natAbs ((p2).num)) : Nat) : Int), .string (bg (Int.natAbs ((p2).num))), .bool (decide (((p2).num) < 0)), .int .u64 ((lo ((p2).den - 1) : Nat) : Int), .string (bg ((p2).den - 1))] ∧ Below w.heap.size w w2) ⟨((Bx.at rfl).alloc _).alloc _, (Bx.at (by simp)).alloc _, Bx.at (by simp), (((Below.refl _ _).alloc (Nat.le_refl _) _).alloc (by simp) _).alloc (by simp; omega) _⟩ ?_
  rintro Wx ⟨bx0, bx1, bx2, HB⟩
  replace HB := Lib.hid HB
  -- region 1
  have lx0 := bx0.cells
  have lx1 := bx1.cells
  have lx2 := bx2.cells
  have BX0 := Lib.hid bx0
  have BX1 := Lib.hid bx1
  have BX2 := Lib.hid bx2
  clear bx0 bx1 bx2
  refine wp_seq_k fun K hK => ?_
  replace hK := Lib.hid hK
  have HS0 := Lib.hid (HB.out.size)
  have MX0 : w.heap.size < Wx.heap.size := BX0.out.lt
  have MX1 : w.heap.size + 1 < Wx.heap.size := BX1.out.lt
  have MX2 : w.heap.size + 1 + 1 < Wx.heap.size := BX2.out.lt
  refine wp_region_early 23 [] [] (fun _ => 0) (fun _ => .cells #[] 0) (fun i => if i = 9 then (1, #[.int .u64 ((lo (Int.natAbs ((b1).num)) : Nat) : Int), .string (bg (Int.natAbs ((b1).num))), .bool (decide (((b1).num) < 0)), .int .u64 ((lo ((b1).den - 1) : Nat) : Int), .string (bg ((b1).den - 1)), .int .u64 ((lo (Int.natAbs ((b2).num)) : Nat) : Int), .string (bg (Int.natAbs ((b2).num))), .bool (decide (((b2).num) < 0)), .int .u64 ((lo ((b2).den - 1) : Nat) : Int), .string (bg ((b2).den - 1))], 38) else (1, #[.int .u64 ((lo (Int.natAbs ((b1).num)) : Nat) : Int), .string (bg (Int.natAbs ((b1).num))), .bool (decide (((b1).num) < 0)), .int .u64 ((lo ((b1).den - 1) : Nat) : Int), .string (bg ((b1).den - 1)), .int .u64 ((lo (Int.natAbs ((b2).num)) : Nat) : Int), .string (bg (Int.natAbs ((b2).num))), .bool (decide (((b2).num) < 0)), .int .u64 ((lo ((b2).den - 1) : Nat) : Int), .string (bg ((b2).den - 1))], 38)) [(0, 0), (0, 1), (0, 2), (0, 3), (0, 4), (0, 5), (0, 6), (0, 7), (0, 8), (1, 9), (2, 9), (0, 10), (0, 11), (0, 12), (0, 13), (0, 14), (0, 15), (0, 16), (1, 17), (0, 19), (2, 17), (0, 18), (0, 20), (0, 21), (0, 22)] (by kernel_rfl) (by kernel_rfl) (fun i hi => by cases hi) (fun i hi => by cases hi) (fun _ _ _ _ _ h => h) (fun T hT => ?_)
  iterate 3
    refine wpEarly_takeL (v := ?_) rfl (by rfl) (fun w' hw => ?_) ?_
    rotate_left
    · go_simp
      with_reducible rfl
    simp only [Act.put, List.setIfInBounds_toArray, List.set_cons_zero, List.set_cons_succ]
  refine wpEarly_callL rfl (by rfl) Try.call13 (fun w' hw => pturn_any (a1) (a2) (b1) (b2) (p1) (p2) (t) _ (ht.out) (by first | omega | exact Nat.le_trans (wl_small (by decide)) (by decide)) (by first | omega | exact Nat.le_trans (wl_small (by decide)) (by decide)) (by first | omega | exact Nat.le_trans (wl_small (by decide)) (by decide)) (by first | omega | exact Nat.le_trans (wl_small (by decide)) (by decide)) (by first | omega | exact Nat.le_trans (wl_small (by decide)) (by decide)) (by first | omega | exact Nat.le_trans (wl_small (by decide)) (by decide))) (by rfl) ?_
  simp only [Act.put, List.setIfInBounds_toArray, List.set_cons_zero, List.set_cons_succ]
  iterate 5
    refine wpEarly_takeL (v := ?_) rfl (by rfl) (fun w' hw => ?_) ?_
    rotate_left
    · go_simp
      with_reducible rfl
    simp only [Act.put, List.setIfInBounds_toArray, List.set_cons_zero, List.set_cons_succ]
  refine wpEarly_mk rfl (by rfl) (fun w' => ?_) ?_
  · go_simp
  refine wpEarly_use rfl (by rfl) (fun gx3 vv1 hg0 yx3 bx3 => ?_)
  have HG0 := Lib.hid hg0; clear hg0
  replace yx3 : w.heap.size ≤ gx3 := by first | exact Nat.le_trans HS0.out yx3 | exact Nat.le_trans HB.out.size yx3
  have BX3 := Lib.hid bx3; clear bx3
  have BX0_ := Lib.hid (BX0.out.gr HG0.out); clear BX0; have BX0 := BX0_; clear BX0_
  have BX1_ := Lib.hid (BX1.out.gr HG0.out); clear BX1; have BX1 := BX1_; clear BX1_
  have BX2_ := Lib.hid (BX2.out.gr HG0.out); clear BX2; have BX2 := BX2_; clear BX2_
  have HB_ := Lib.hid (HB.out.trans (HG0.out.mono HB.out.size)); clear HB; have HB := HB_; clear HB_
  clear HG0
  clear lx0; have lx0 := BX0.out.cells
  clear lx1; have lx1 := BX1.out.cells
  clear lx2; have lx2 := BX2.out.cells
  simp only [Act.put, List.setIfInBounds_toArray, List.set_cons_zero, List.set_cons_succ]
  refine wpEarly_callL rfl (by rfl) Try.call44 (fun w' hw => pleast_any (a1) (a2) (b1) (b2) lo1 lo2 (gx3) _ (BX3.out.gr hw) (r) (hr.out) (hl1.out) (hl2.out) (by first | omega | exact Nat.le_trans (wl_small (by decide)) (by decide)) (by first | omega | exact Nat.le_trans (wl_small (by decide)) (by decide)) (by first | omega | exact Nat.le_trans (wl_small (by decide)) (by decide)) (by first | omega | exact Nat.le_trans (wl_small (by decide)) (by decide))) (by rfl) ?_
  simp only [Act.put, List.setIfInBounds_toArray, List.set_cons_zero, List.set_cons_succ]
  refine wpEarly_callL rfl (by rfl) Try.call27 (fun w' hw => pless_any (p1) (p2) (lo1) (lo2) false _ (h.out) (by first | omega | exact Nat.le_trans (wl_small (by decide)) (by decide)) (by first | omega | exact Nat.le_trans (wl_small (by decide)) (by decide)) (by first | omega | exact Nat.le_trans (wl_small (by decide)) (by decide)) (by first | omega | exact Nat.le_trans (wl_small (by decide)) (by decide))) (by rfl) ?_
  simp only [Act.put, List.setIfInBounds_toArray, List.set_cons_zero, List.set_cons_succ]
  iterate 5
    refine wpEarly_takeL (v := ?_) rfl (by rfl) (fun w' hw => ?_) ?_
    rotate_left
    · go_simp
      with_reducible rfl
    simp only [Act.put, List.setIfInBounds_toArray, List.set_cons_zero, List.set_cons_succ]
  refine wpEarly_mk rfl (by rfl) (fun w' => ?_) ?_
  · go_simp
  iterate 1
    refine wpEarly_takeL (v := ?_) rfl (by rfl) (fun w' hw => ?_) ?_
    rotate_left
    · go_simp
      with_reducible rfl
    simp only [Act.put, List.setIfInBounds_toArray, List.set_cons_zero, List.set_cons_succ]
  refine wpEarly_use rfl (by rfl) (fun gx4 vv2 hg0 yx4 bx4 => ?_)
  have HG0 := Lib.hid hg0; clear hg0
  replace yx4 : w.heap.size ≤ gx4 := by first | exact Nat.le_trans HS0.out yx4 | exact Nat.le_trans HB.out.size yx4
  have BX4 := Lib.hid bx4; clear bx4
  have BX0_ := Lib.hid (BX0.out.gr HG0.out); clear BX0; have BX0 := BX0_; clear BX0_
  have BX1_ := Lib.hid (BX1.out.gr HG0.out); clear BX1; have BX1 := BX1_; clear BX1_
  have BX2_ := Lib.hid (BX2.out.gr HG0.out); clear BX2; have BX2 := BX2_; clear BX2_
  have BX3_ := Lib.hid (BX3.out.gr HG0.out); clear BX3; have BX3 := BX3_; clear BX3_
  have HB_ := Lib.hid (HB.out.trans (HG0.out.mono HB.out.size)); clear HB; have HB := HB_; clear HB_
  clear HG0
  clear lx0; have lx0 := BX0.out.cells
  clear lx1; have lx1 := BX1.out.cells
  clear lx2; have lx2 := BX2.out.cells
  simp only [Act.put, List.setIfInBounds_toArray, List.set_cons_zero, List.set_cons_succ]
  refine wpEarly_callL rfl (by rfl) Try.call45 (fun w' hw => pgreatest_any (a1) (a2) (b1) (b2) hi1 hi2 (gx4) _ (BX4.out.gr hw) (q) (hq.out) (hh1.out) (hh2.out) (by first | omega | exact Nat.le_trans (wl_small (by decide)) (by decide)) (by first | omega | exact Nat.le_trans (wl_small (by decide)) (by decide)) (by first | omega | exact Nat.le_trans (wl_small (by decide)) (by decide)) (by first | omega | exact Nat.le_trans (wl_small (by decide)) (by decide))) (by rfl) ?_
  simp only [Act.put, List.setIfInBounds_toArray, List.set_cons_zero, List.set_cons_succ]
  refine wpEarly_callL rfl (by rfl) Try.call27 (fun w' hw => pless_any (hi1) (hi2) (p1) (p2) r2 _ (h2.out) (by first | omega | exact Nat.le_trans (wl_small (by decide)) (by decide)) (by first | omega | exact Nat.le_trans (wl_small (by decide)) (by decide)) (by first | omega | exact Nat.le_trans (wl_small (by decide)) (by decide)) (by first | omega | exact Nat.le_trans (wl_small (by decide)) (by decide))) (by rfl) ?_
  simp only [Act.put, List.setIfInBounds_toArray, List.set_cons_zero, List.set_cons_succ]
  iterate 2
    refine wpEarly_takeL (v := ?_) rfl (by rfl) (fun w' hw => ?_) ?_
    rotate_left
    · go_simp
      with_reducible rfl
    simp only [Act.put, List.setIfInBounds_toArray, List.set_cons_zero, List.set_cons_succ]
  refine wpEarly_nil (hT.out _ _ ?_); clear hT T
  intro G vw1 hg hf
  simp only [puts, Act.put, List.setIfInBounds_toArray, List.set_cons_zero, List.set_cons_succ, List.drop_succ_cons, List.drop_zero, ↓reduceIte, Nat.reduceEqDiff]
  clear lx0 lx1 lx2
  clear BX3
  clear BX4
  have HG := Lib.hid (hg)
  clear hg
  have bx0 := BX0.out.gr HG.out; clear BX0
  have bx1 := BX1.out.gr HG.out; clear BX1
  have bx2 := BX2.out.gr HG.out; clear BX2
  have r0 := Gr.refl vw1
  have BX0 := Lib.hid bx0; clear bx0
  have BX1 := Lib.hid bx1; clear bx1
  have BX2 := Lib.hid bx2; clear bx2
  go_wp2
  refine hK.out _ _ ?_; clear hK K
  show Code.wp _ _ _ _ _
  clear r0
  refine forgetW (fun w2 => Below w.heap.size w w2) (HB.out.trans (HG.out.mono HB.out.size)) ?_
  clear HB HG BX0 BX1 BX2
  rintro Wx1 HB
  replace HB := Lib.hid HB
  refine wp_ret ?_
  try simp only [Exit.then, Exit.inBlock]
  have r0 := Gr.refl Wx1
  exact bodyPost_ret (v := .bool (!r2)) (by simp [results, Try.results22, go_sem]) rfl ⟨rfl, HB.out⟩

/-- whether a point lies on a segment -/
def onB (a1 a2 b1 b2 p1 p2 : Rat) : Bool :=
  (turn a1 a2 b1 b2 p1 p2 == 0) && (!plt p1 p2 (if plt b1 b2 a1 a2 then b1 else a1) (if plt b1 b2 a1 a2 then b2 else a2) && !plt (if plt a1 a2 b1 b2 then b1 else a1) (if plt a1 a2 b1 b2 then b2 else a2) p1 p2)
theorem sz_if {r : Bool} {x y : Rat} {M : Nat} (hx : sz x ≤ M) (hy : sz y ≤ M) : sz (if r then x else y) ≤ M := by cases r; exact hy; exact hx
theorem pon_any (a1 a2 b1 b2 p1 p2 : Rat) (r : Bool) (w : World) (hr : onB a1 a2 b1 b2 p1 p2 = r) (hs_a1 : sz a1 ≤ 1000000000) (hs_a2 : sz a2 ≤ 1000000000) (hs_b1 : sz b1 ≤ 1000000000) (hs_b2 : sz b2 ≤ 1000000000) (hs_p1 : sz p1 ≤ 1000000000) (hs_p2 : sz p2 ≤ 1000000000) :
    Calls Try.prog 22 #[(Value.agg #[.int .u64 ((lo (Int.natAbs ((a1).num)) : Nat) : Int), .string (bg (Int.natAbs ((a1).num))), .bool (decide (((a1).num) < 0)), .int .u64 ((lo ((a1).den - 1) : Nat) : Int), .string (bg ((a1).den - 1)), .int .u64 ((lo (Int.natAbs ((a2).num)) : Nat) : Int), .string (bg (Int.natAbs ((a2).num))), .bool (decide (((a2).num) < 0)), .int .u64 ((lo ((a2).den - 1) : Nat) : Int), .string (bg ((a2).den - 1))]), (Value.agg #[.int .u64 ((lo (Int.natAbs ((b1).num)) : Nat) : Int), .string (bg (Int.natAbs ((b1).num))), .bool (decide (((b1).num) < 0)), .int .u64 ((lo ((b1).den - 1) : Nat) : Int), .string (bg ((b1).den - 1)), .int .u64 ((lo (Int.natAbs ((b2).num)) : Nat) : Int), .string (bg (Int.natAbs ((b2).num))), .bool (decide (((b2).num) < 0)), .int .u64 ((lo ((b2).den - 1) : Nat) : Int), .string (bg ((b2).den - 1))]), (Value.agg #[.int .u64 ((lo (Int.natAbs ((p1).num)) : Nat) : Int), .string (bg (Int.natAbs ((p1).num))), .bool (decide (((p1).num) < 0)), .int .u64 ((lo ((p1).den - 1) : Nat) : Int), .string (bg ((p1).den - 1)), .int .u64 ((lo (Int.natAbs ((p2).num)) : Nat) : Int), .string (bg (Int.natAbs ((p2).num))), .bool (decide (((p2).num) < 0)), .int .u64 ((lo ((p2).den - 1) : Nat) : Int), .string (bg ((p2).den - 1))])] w fun e w' => e = .returned (.bool r) ∧ Below w.heap.size w w' := by
  unfold onB at hr
  cases h0 : (turn a1 a2 b1 b2 p1 p2 == 0)
  · rw [h0] at hr
    rw [← hr]
    exact pon_no a1 a2 b1 b2 p1 p2 _ w (Lib.hid rfl) h0 hs_a1 hs_a2 hs_b1 hs_b2 hs_p1 hs_p2
  · rw [h0, Bool.true_and] at hr
    cases h1 : plt p1 p2 (if plt b1 b2 a1 a2 then b1 else a1) (if plt b1 b2 a1 a2 then b2 else a2)
    · rw [h1] at hr
      rw [← hr]
      exact pon_high a1 a2 b1 b2 p1 p2 _ _ _ _ _ _ _ _ w (Lib.hid rfl) h0 (Lib.hid rfl) (Lib.hid rfl) (Lib.hid rfl) (sz_if hs_b1 hs_a1) (sz_if hs_b2 hs_a2) (Lib.hid h1) (Lib.hid rfl) (Lib.hid rfl) (Lib.hid rfl) (sz_if hs_b1 hs_a1) (sz_if hs_b2 hs_a2) (Lib.hid rfl) hs_a1 hs_a2 hs_b1 hs_b2 hs_p1 hs_p2
    · rw [h1] at hr
      rw [← hr]
      exact pon_low a1 a2 b1 b2 p1 p2 _ _ _ _ w (Lib.hid rfl) h0 (Lib.hid rfl) (Lib.hid rfl) (Lib.hid rfl) (sz_if hs_b1 hs_a1) (sz_if hs_b2 hs_a2) (Lib.hid h1) hs_a1 hs_a2 hs_b1 hs_b2 hs_p1 hs_p2

/-- the terms of the determinant of Circle -/
def incirc (a1 a2 b1 b2 c1 c2 d1 d2 : Rat) : Rat :=
  psum [((a1 - d1) * (a1 - d1) + (a2 - d2) * (a2 - d2)) * ((b1 - d1) * (c2 - d2) - (b2 - d2) * (c1 - d1)),
    ((b1 - d1) * (b1 - d1) + (b2 - d2) * (b2 - d2)) * ((c1 - d1) * (a2 - d2) - (c2 - d2) * (a1 - d1)),
    ((c1 - d1) * (c1 - d1) + (c2 - d2) * (c2 - d2)) * ((a1 - d1) * (b2 - d2) - (a2 - d2) * (b1 - d1))] 3
set_option maxHeartbeats 1000000 in
theorem pcircle_any (a1 a2 b1 b2 c1 c2 d1 d2 : Rat) (s t r : Int) (w : World) (hsg : sgQ (incirc a1 a2 b1 b2 c1 c2 d1 d2) = s) (ht : turn a1 a2 b1 b2 c1 c2 = t) (hw : IntKind.i64.wrap (s * t) = r) (hs_a1 : sz a1 ≤ 50) (hs_a2 : sz a2 ≤ 50) (hs_b1 : sz b1 ≤ 50) (hs_b2 : sz b2 ≤ 50) (hs_c1 : sz c1 ≤ 50) (hs_c2 : sz c2 ≤ 50) (hs_d1 : sz d1 ≤ 50) (hs_d2 : sz d2 ≤ 50) :
    Calls Try.prog 17 #[(Value.agg #[.int .u64 ((lo (Int.natAbs ((a1).num)) : Nat) : Int), .string (bg (Int.natAbs ((a1).num))), .bool (decide (((a1).num) < 0)), .int .u64 ((lo ((a1).den - 1) : Nat) : Int), .string (bg ((a1).den - 1)), .int .u64 ((lo (Int.natAbs ((a2).num)) : Nat) : Int), .string (bg (Int.natAbs ((a2).num))), .bool (decide (((a2).num) < 0)), .int .u64 ((lo ((a2).den - 1) : Nat) : Int), .string (bg ((a2).den - 1))]), (Value.agg #[.int .u64 ((lo (Int.natAbs ((b1).num)) : Nat) : Int), .string (bg (Int.natAbs ((b1).num))), .bool (decide (((b1).num) < 0)), .int .u64 ((lo ((b1).den - 1) : Nat) : Int), .string (bg ((b1).den - 1)), .int .u64 ((lo (Int.natAbs ((b2).num)) : Nat) : Int), .string (bg (Int.natAbs ((b2).num))), .bool (decide (((b2).num) < 0)), .int .u64 ((lo ((b2).den - 1) : Nat) : Int), .string (bg ((b2).den - 1))]), (Value.agg #[.int .u64 ((lo (Int.natAbs ((c1).num)) : Nat) : Int), .string (bg (Int.natAbs ((c1).num))), .bool (decide (((c1).num) < 0)), .int .u64 ((lo ((c1).den - 1) : Nat) : Int), .string (bg ((c1).den - 1)), .int .u64 ((lo (Int.natAbs ((c2).num)) : Nat) : Int), .string (bg (Int.natAbs ((c2).num))), .bool (decide (((c2).num) < 0)), .int .u64 ((lo ((c2).den - 1) : Nat) : Int), .string (bg ((c2).den - 1))]), (Value.agg #[.int .u64 ((lo (Int.natAbs ((d1).num)) : Nat) : Int), .string (bg (Int.natAbs ((d1).num))), .bool (decide (((d1).num) < 0)), .int .u64 ((lo ((d1).den - 1) : Nat) : Int), .string (bg ((d1).den - 1)), .int .u64 ((lo (Int.natAbs ((d2).num)) : Nat) : Int), .string (bg (Int.natAbs ((d2).num))), .bool (decide (((d2).num) < 0)), .int .u64 ((lo ((d2).den - 1) : Nat) : Int), .string (bg ((d2).den - 1))])] w fun e w' => e = .returned (.int .i64 (r)) ∧ Below w.heap.size w w' := by
  replace hsg := Lib.hid hsg
  replace ht := Lib.hid ht
  go_enter Try.func17, Try.ntmps17
  -- region 0
  refine wp_seq_k fun K hK => ?_
  replace hK := Lib.hid hK
  refine wp_region_lit ?_
  go_wp2
  refine hK.out _ _ ?_; clear hK K
  show Code.wp _ _ _ _ _
  refine forgetW (fun w2 => Bx w2 (w.heap.size) 38 #[.int .u64 ((lo (Int.natAbs ((a1).num)) : Nat) : Int), .string (bg (Int.natAbs ((a1).num))), .bool (decide (((a1).num) < 0)), .int .u64 ((lo ((a1).den - 1) : Nat) : Int), .string (bg ((a1).den - 1)), .int .u64 ((lo (Int.natAbs ((a2).num)) : Nat) : Int), .string (bg (Int.natAbs ((a2).num))), .bool (decide (((a2).num) < 0)), .int .u64 ((lo ((a2).den - 1) : Nat) : Int), .string (bg ((a2).den - 1))] ∧ Bx w2 (w.heap.size + 1) 38 #[.int .u64 ((lo (Int.natAbs ((b1).num)) : Nat) : Int), .string (bg (Int.natAbs ((b1).num))), .bool (decide (((b1).num) < 0)), .int .u64 ((lo ((b1).den - 1) : Nat) : Int), .string (bg ((b1).den - 1)), .int .u64 ((lo (Int.natAbs ((b2).num)) : Nat) : Int), .string (bg (Int.natAbs ((b2).num))), .bool (decide (((b2).num) < 0)), .int .u64 ((lo ((b2).den - 1) : Nat) : Int), .string (bg ((b2).den - 1))] ∧ Bx w2 (w.heap.size + 1 + 1) 38 #[.int .u64 ((lo (Int.natAbs ((c1).num)) : Nat) : Int), .string (bg (Int.natAbs ((c1).num))), .bool (decide (((c1).num) < 0)), .int .u64 ((lo ((c1).den - 1) : Nat) : Int), .string (bg ((c1).den - 1)), .int .u64 ((lo (Int.natAbs ((c2).num)) : Nat) : Int), .string (bg (Int.natAbs ((c2).num))), .bool (decide (((c2).num) < 0)), .int .u64 ((lo ((c2).den - 1) : Nat) : Int), .string (bg ((c2).den - 1))] ∧ Bx w2 (w.heap.size + 1 + 1 + 1) 38 #[.int .u64 ((lo (Int.natAbs ((d1).num)) : Nat) : Int), .string (bg (Int.natAbs ((d1).num))), .bool (decide (((d1).num) < 0)), .int .u64 ((lo ((d1).den - 1) : Nat) : Int), .string (bg ((d1).den - 1)), .int .u64 ((lo (Int.natAbs ((d2).num)) : Nat) : Int), .string (bg (Int.natAbs ((d2).num))), .bool (decide (((d2).num) < 0)), .int .u64 ((lo ((d2).den - 1) : Nat) : Int), .string (bg ((d2).den - 1))] ∧ Below w.heap.size w w2) ⟨(((Bx.at rfl).alloc _).alloc _).alloc _, ((Bx.at (by simp)).alloc _).alloc _, (Bx.at (by simp)).alloc _, Bx.at (by simp), ((((Below.refl _ _).alloc (Nat.le_refl _) _).alloc (by simp) _).alloc (by simp; omega) _).alloc (by simp; omega) _⟩ ?_
  rintro Wx ⟨bx0, bx1, bx2, bx3, HB⟩
  replace HB := Lib.hid HB
  -- region 1
  obtain ⟨u1, HZ1⟩ : ∃ z, Hid ((a1) - (d1) = z) := ⟨_, Lib.hid rfl⟩
  have su1 : sz u1 ≤ 101 := by rw [← HZ1.out]; have := sz_sub (a1) (d1); omega
  obtain ⟨u2, HZ2⟩ : ∃ z, Hid ((a2) - (d2) = z) := ⟨_, Lib.hid rfl⟩
  have su2 : sz u2 ≤ 101 := by rw [← HZ2.out]; have := sz_sub (a2) (d2); omega
  obtain ⟨u3, HZ3⟩ : ∃ z, Hid ((b1) - (d1) = z) := ⟨_, Lib.hid rfl⟩
  have su3 : sz u3 ≤ 101 := by rw [← HZ3.out]; have := sz_sub (b1) (d1); omega
  obtain ⟨u4, HZ4⟩ : ∃ z, Hid ((b2) - (d2) = z) := ⟨_, Lib.hid rfl⟩
  have su4 : sz u4 ≤ 101 := by rw [← HZ4.out]; have := sz_sub (b2) (d2); omega
  obtain ⟨u5, HZ5⟩ : ∃ z, Hid ((c1) - (d1) = z) := ⟨_, Lib.hid rfl⟩
  have su5 : sz u5 ≤ 101 := by rw [← HZ5.out]; have := sz_sub (c1) (d1); omega
  obtain ⟨u6, HZ6⟩ : ∃ z, Hid ((c2) - (d2) = z) := ⟨_, Lib.hid rfl⟩
  have su6 : sz u6 ≤ 101 := by rw [← HZ6.out]; have := sz_sub (c2) (d2); omega
  have lx0 := bx0.cells
  have lx1 := bx1.cells
  have lx2 := bx2.cells
  have lx3 := bx3.cells
  have BX0 := Lib.hid bx0
  have BX1 := Lib.hid bx1
  have BX2 := Lib.hid bx2
  have BX3 := Lib.hid bx3
  clear bx0 bx1 bx2 bx3
  refine wp_seq_k fun K hK => ?_
  replace hK := Lib.hid hK
  refine wp_region_plan 12 [9, 10, 11] [] (fun i => if i = 9 then 9 else if i = 10 then 10 else 11) (fun i => if i = 9 then .cells #[.int .u64 0, .string ⟨#[]⟩, .bool false, .int .u64 0, .string ⟨#[]⟩, .int .u64 0, .string ⟨#[]⟩, .bool false, .int .u64 0, .string ⟨#[]⟩] 38 else if i = 10 then .cells #[.int .u64 0, .string ⟨#[]⟩, .bool false, .int .u64 0, .string ⟨#[]⟩, .int .u64 0, .string ⟨#[]⟩, .bool false, .int .u64 0, .string ⟨#[]⟩] 38 else .cells #[.int .u64 0, .string ⟨#[]⟩, .bool false, .int .u64 0, .string ⟨#[]⟩, .int .u64 0, .string ⟨#[]⟩, .bool false, .int .u64 0, .string ⟨#[]⟩] 38) [(true, 0), (true, 1), (true, 3), (true, 4), (true, 6), (true, 7), (true, 2), (true, 5), (true, 8)] (by kernel_rfl) (by kernel_rfl) (by intro i hi; simp only [List.mem_cons, List.not_mem_nil, or_false] at hi; rcases hi with rfl | rfl | rfl <;> exact ⟨_, rfl, rfl, rfl, by simp, fun ρ w => by kernel_rfl⟩) (fun i hi => by cases hi) (fun _ _ _ _ _ h => h) (fun T hT => ?_)
  iterate 6
    refine wpPlan_takeL (v := ?_) rfl (by rfl) (fun w' hw => ?_) ?_
    rotate_left
    · go_simp
      with_reducible rfl
    simp only [Act.put, List.setIfInBounds_toArray, List.set_cons_zero, List.set_cons_succ]
  refine wpPlan_callL rfl (by rfl) Try.call8 (fun w' hw => psub_any (a1) (a2) (d1) (d2) (u1) (u2) _ HZ1.out HZ2.out (by first | omega | exact Nat.le_trans (wl_small (by decide)) (by decide)) (by first | omega | exact Nat.le_trans (wl_small (by decide)) (by decide)) (by first | omega | exact Nat.le_trans (wl_small (by decide)) (by decide)) (by first | omega | exact Nat.le_trans (wl_small (by decide)) (by decide))) (by rfl) ?_
  simp only [Act.put, List.setIfInBounds_toArray, List.set_cons_zero, List.set_cons_succ]
  refine wpPlan_callL rfl (by rfl) Try.call8 (fun w' hw => psub_any (b1) (b2) (d1) (d2) (u3) (u4) _ HZ3.out HZ4.out (by first | omega | exact Nat.le_trans (wl_small (by decide)) (by decide)) (by first | omega | exact Nat.le_trans (wl_small (by decide)) (by decide)) (by first | omega | exact Nat.le_trans (wl_small (by decide)) (by decide)) (by first | omega | exact Nat.le_trans (wl_small (by decide)) (by decide))) (by rfl) ?_
  simp only [Act.put, List.setIfInBounds_toArray, List.set_cons_zero, List.set_cons_succ]
  refine wpPlan_callL rfl (by rfl) Try.call8 (fun w' hw => psub_any (c1) (c2) (d1) (d2) (u5) (u6) _ HZ5.out HZ6.out (by first | omega | exact Nat.le_trans (wl_small (by decide)) (by decide)) (by first | omega | exact Nat.le_trans (wl_small (by decide)) (by decide)) (by first | omega | exact Nat.le_trans (wl_small (by decide)) (by decide)) (by first | omega | exact Nat.le_trans (wl_small (by decide)) (by decide))) (by rfl) ?_
  simp only [Act.put, List.setIfInBounds_toArray, List.set_cons_zero, List.set_cons_succ]
  refine wpPlan_nil (hT.out _ _ ?_); clear hT T
  intro G vw1 hg hf
  simp only [puts, Act.put, List.setIfInBounds_toArray, List.set_cons_zero, List.set_cons_succ, List.drop_succ_cons, List.drop_zero, ↓reduceIte, Nat.reduceEqDiff]
  clear lx0 lx1 lx2 lx3
  have HG := Lib.hid (hg)
  clear hg
  have bx4 := Bx.of_fresh hf (i := 9) (by decide) rfl
  have yx4 := (hf.1 9 (by decide)).1
  have bx5 := Bx.of_fresh hf (i := 10) (by decide) rfl
  have yx5 := (hf.1 10 (by decide)).1
  have dx4_5 : G 9 ≠ G 10 := fun e => absurd (hf.2 9 (by decide) 10 (by decide) e) (by decide)
  have bx6 := Bx.of_fresh hf (i := 11) (by decide) rfl
  have yx6 := (hf.1 11 (by decide)).1
  have dx4_6 : G 9 ≠ G 11 := fun e => absurd (hf.2 9 (by decide) 11 (by decide) e) (by decide)
  have dx5_6 : G 10 ≠ G 11 := fun e => absurd (hf.2 10 (by decide) 11 (by decide) e) (by decide)
  clear hf
  generalize G 9 = gx4 at *
  generalize G 10 = gx5 at *
  generalize G 11 = gx6 at *
  have qx0_4 : w.heap.size < gx4 := Nat.lt_of_lt_of_le BX0.out.lt yx4
  have qx0_5 : w.heap.size < gx5 := Nat.lt_of_lt_of_le BX0.out.lt yx5
  have qx0_6 : w.heap.size < gx6 := Nat.lt_of_lt_of_le BX0.out.lt yx6
  have qx1_4 : w.heap.size + 1 < gx4 := Nat.lt_of_lt_of_le BX1.out.lt yx4
  have qx1_5 : w.heap.size + 1 < gx5 := Nat.lt_of_lt_of_le BX1.out.lt yx5
  have qx1_6 : w.heap.size + 1 < gx6 := Nat.lt_of_lt_of_le BX1.out.lt yx6
  have qx2_4 : w.heap.size + 1 + 1 < gx4 := Nat.lt_of_lt_of_le BX2.out.lt yx4
  have qx2_5 : w.heap.size + 1 + 1 < gx5 := Nat.lt_of_lt_of_le BX2.out.lt yx5
  have qx2_6 : w.heap.size + 1 + 1 < gx6 := Nat.lt_of_lt_of_le BX2.out.lt yx6
  have qx3_4 : w.heap.size + 1 + 1 + 1 < gx4 := Nat.lt_of_lt_of_le BX3.out.lt yx4
  have qx3_5 : w.heap.size + 1 + 1 + 1 < gx5 := Nat.lt_of_lt_of_le BX3.out.lt yx5
  have qx3_6 : w.heap.size + 1 + 1 + 1 < gx6 := Nat.lt_of_lt_of_le BX3.out.lt yx6
  replace yx4 : w.heap.size ≤ gx4 := Nat.le_trans HB.out.size yx4
  replace yx5 : w.heap.size ≤ gx5 := Nat.le_trans HB.out.size yx5
  replace yx6 : w.heap.size ≤ gx6 := Nat.le_trans HB.out.size yx6
  have bx0 := BX0.out.gr HG.out; clear BX0
  have bx1 := BX1.out.gr HG.out; clear BX1
  have bx2 := BX2.out.gr HG.out; clear BX2
  have bx3 := BX3.out.gr HG.out; clear BX3
  have lx4 := bx4.cells; have fx4 := bx4.free
  have lx5 := bx5.cells; have fx5 := bx5.free
  have lx6 := bx6.cells; have fx6 := bx6.free
  have r0 := Gr.refl vw1
  have BX0 := Lib.hid bx0; clear bx0
  have BX1 := Lib.hid bx1; clear bx1
  have BX2 := Lib.hid bx2; clear bx2
  have BX3 := Lib.hid bx3; clear bx3
  have BX4 := Lib.hid bx4; clear bx4
  have BX5 := Lib.hid bx5; clear bx5
  have BX6 := Lib.hid bx6; clear bx6
  go_wp2
  refine hK.out _ _ ?_; clear hK K
  show Code.wp _ _ _ _ _
  clear lx4 fx4
  clear lx5 fx5
  clear lx6 fx6
  clear r0
  refine forgetW (fun w2 => Bx w2 (w.heap.size) 38 #[.int .u64 ((lo (Int.natAbs ((a1).num)) : Nat) : Int), .string (bg (Int.natAbs ((a1).num))), .bool (decide (((a1).num) < 0)), .int .u64 ((lo ((a1).den - 1) : Nat) : Int), .string (bg ((a1).den - 1)), .int .u64 ((lo (Int.natAbs ((a2).num)) : Nat) : Int), .string (bg (Int.natAbs ((a2).num))), .bool (decide (((a2).num) < 0)), .int .u64 ((lo ((a2).den - 1) : Nat) : Int), .string (bg ((a2).den - 1))] ∧ Bx w2 (w.heap.size + 1) 38 #[.int .u64 ((lo (Int.natAbs ((b1).num)) : Nat) : Int), .string (bg (Int.natAbs ((b1).num))), .bool (decide (((b1).num) < 0)), .int .u64 ((lo ((b1).den - 1) : Nat) : Int), .string (bg ((b1).den - 1)), .int .u64 ((lo (Int.natAbs ((b2).num)) : Nat) : Int), .string (bg (Int.natAbs ((b2).num))), .bool (decide (((b2).num) < 0)), .int .u64 ((lo ((b2).den - 1) : Nat) : Int), .string (bg ((b2).den - 1))] ∧ Bx w2 (w.heap.size + 1 + 1) 38 #[.int .u64 ((lo (Int.natAbs ((c1).num)) : Nat) : Int), .string (bg (Int.natAbs ((c1).num))), .bool (decide (((c1).num) < 0)), .int .u64 ((lo ((c1).den - 1) : Nat) : Int), .string (bg ((c1).den - 1)), .int .u64 ((lo (Int.natAbs ((c2).num)) : Nat) : Int), .string (bg (Int.natAbs ((c2).num))), .bool (decide (((c2).num) < 0)), .int .u64 ((lo ((c2).den - 1) : Nat) : Int), .string (bg ((c2).den - 1))] ∧ Bx w2 gx4 38 #[.int .u64 ((lo (Int.natAbs ((u1).num)) : Nat) : Int), .string (bg (Int.natAbs ((u1).num))), .bool (decide (((u1).num) < 0)), .int .u64 ((lo ((u1).den - 1) : Nat) : Int), .string (bg ((u1).den - 1)), .int .u64 ((lo (Int.natAbs ((u2).num)) : Nat) : Int), .string (bg (Int.natAbs ((u2).num))), .bool (decide (((u2).num) < 0)), .int .u64 ((lo ((u2).den - 1) : Nat) : Int), .string (bg ((u2).den - 1))] ∧ Bx w2 gx5 38 #[.int .u64 ((lo (Int.natAbs ((u3).num)) : Nat) : Int), .string (bg (Int.natAbs ((u3).num))), .bool (decide (((u3).num) < 0)), .int .u64 ((lo ((u3).den - 1) : Nat) : Int), .string (bg ((u3).den - 1)), .int .u64 ((lo (Int.natAbs ((u4).num)) : Nat) : Int), .string (bg (Int.natAbs ((u4).num))), .bool (decide (((u4).num) < 0)), .int .u64 ((lo ((u4).den - 1) : Nat) : Int), .string (bg ((u4).den - 1))] ∧ Bx w2 gx6 38 #[.int .u64 ((lo (Int.natAbs ((u5).num)) : Nat) : Int), .string (bg (Int.natAbs ((u5).num))), .bool (decide (((u5).num) < 0)), .int .u64 ((lo ((u5).den - 1) : Nat) : Int), .string (bg ((u5).den - 1)), .int .u64 ((lo (Int.natAbs ((u6).num)) : Nat) : Int), .string (bg (Int.natAbs ((u6).num))), .bool (decide (((u6).num) < 0)), .int .u64 ((lo ((u6).den - 1) : Nat) : Int), .string (bg ((u6).den - 1))] ∧ Below w.heap.size w w2) ⟨((((((((((((((((((((((((((((((BX0.out).setOther (by show w.heap.size ≠ gx4; omega) _).setOther (by show w.heap.size ≠ gx4; omega) _).setOther (by show w.heap.size ≠ gx4; omega) _).setOther (by show w.heap.size ≠ gx4; omega) _).setOther (by show w.heap.size ≠ gx4; omega) _).setOther (by show w.heap.size ≠ gx4; omega) _).setOther (by show w.heap.size ≠ gx4; omega) _).setOther (by show w.heap.size ≠ gx4; omega) _).setOther (by show w.heap.size ≠ gx4; omega) _).setOther (by show w.heap.size ≠ gx4; omega) _).setOther (by show w.heap.size ≠ gx5; omega) _).setOther (by show w.heap.size ≠ gx5; omega) _).setOther (by show w.heap.size ≠ gx5; omega) _).setOther (by show w.heap.size ≠ gx5; omega) _).setOther (by show w.heap.size ≠ gx5; omega) _).setOther (by show w.heap.size ≠ gx5; omega) _).setOther (by show w.heap.size ≠ gx5; omega) _).setOther (by show w.heap.size ≠ gx5; omega) _).setOther (by show w.heap.size ≠ gx5; omega) _).setOther (by show w.heap.size ≠ gx5; omega) _).setOther (by show w.heap.size ≠ gx6; omega) _).setOther (by show w.heap.size ≠ gx6; omega) _).setOther (by show w.heap.size ≠ gx6; omega) _).setOther (by show w.heap.size ≠ gx6; omega) _).setOther (by show w.heap.size ≠ gx6; omega) _).setOther (by show w.heap.size ≠ gx6; omega) _).setOther (by show w.heap.size ≠ gx6; omega) _).setOther (by show w.heap.size ≠ gx6; omega) _).setOther (by show w.heap.size ≠ gx6; omega) _).setOther (by show w.heap.size ≠ gx6; omega) _, ((((((((((((((((((((((((((((((BX1.out).setOther (by show w.heap.size + 1 ≠ gx4; omega) _).setOther (by show w.heap.size + 1 ≠ gx4; omega) _).setOther (by show w.heap.size + 1 ≠ gx4; omega) _).setOther (by show w.heap.size + 1 ≠ gx4; omega) _).setOther (by show w.heap.size + 1 ≠ gx4; omega) _).setOther (by show w.heap.size + 1 ≠ gx4; omega) _).setOther (by show w.heap.size + 1 ≠ gx4; omega) _).setOther (by show w.heap.size + 1 ≠ gx4; omega) _).setOther (by show w.heap.size + 1 ≠ gx4; omega) _).setOther (by show w.heap.size + 1 ≠ gx4; omega) _).setOther (by show w.heap.size + 1 ≠ gx5; omega) _).setOther (by show w.heap.size + 1 ≠ gx5; omega) _).setOther (by show w.heap.size + 1 ≠ gx5; omega) _).setOther (by show w.heap.size + 1 ≠ gx5; omega) _).setOther (by show w.heap.size + 1 ≠ gx5; omega) _).setOther (by show w.heap.size + 1 ≠ gx5; omega) _).setOther (by show w.heap.size + 1 ≠ gx5; omega) _).setOther (by show w.heap.size + 1 ≠ gx5; omega) _).setOther (by show w.heap.size + 1 ≠ gx5; omega) _).setOther (by show w.heap.size + 1 ≠ gx5; omega) _).setOther (by show w.heap.size + 1 ≠ gx6; omega) _).setOther (by show w.heap.size + 1 ≠ gx6; omega) _).setOther (by show w.heap.size + 1 ≠ gx6; omega) _).setOther (by show w.heap.size + 1 ≠ gx6; omega) _).setOther (by show w.heap.size + 1 ≠ gx6; omega) _).setOther (by show w.heap.size + 1 ≠ gx6; omega) _).setOther (by show w.heap.size + 1 ≠ gx6; omega) _).setOther (by show w.heap.size + 1 ≠ gx6; omega) _).setOther (by show w.heap.size + 1 ≠ gx6; omega) _).setOther (by show w.heap.size + 1 ≠ gx6; omega) _, ((((((((((((((((((((((((((((((BX2.out).setOther (by show w.heap.size + 1 + 1 ≠ gx4; omega) _).setOther (by show w.heap.size + 1 + 1 ≠ gx4; omega) _).setOther (by show w.heap.size + 1 + 1 ≠ gx4; omega) _).setOther (by show w.heap.size + 1 + 1 ≠ gx4; omega) _).setOther (by show w.heap.size + 1 + 1 ≠ gx4; omega) _).setOther (by show w.heap.size + 1 + 1 ≠ gx4; omega) _).setOther (by show w.heap.size + 1 + 1 ≠ gx4; omega) _).setOther (by show w.heap.size + 1 + 1 ≠ gx4; omega) _).setOther (by show w.heap.size + 1 + 1 ≠ gx4; omega) _).setOther (by show w.heap.size + 1 + 1 ≠ gx4; omega) _).setOther (by show w.heap.size + 1 + 1 ≠ gx5; omega) _).setOther (by show w.heap.size + 1 + 1 ≠ gx5; omega) _).setOther (by show w.heap.size + 1 + 1 ≠ gx5; omega) _).setOther (by show w.heap.size + 1 + 1 ≠ gx5; omega) _).setOther (by show w.heap.size + 1 + 1 ≠ gx5; omega) _).setOther (by show w.heap.size + 1 + 1 ≠ gx5; omega) _).setOther (by show w.heap.size + 1 + 1 ≠ gx5; omega) _).setOther (by show w.heap.size + 1 + 1 ≠ gx5; omega) _).setOther (by show w.heap.size + 1 + 1 ≠ gx5; omega) _).setOther (by show w.heap.size + 1 + 1 ≠ gx5; omega) _).setOther (by show w.heap.size + 1 + 1 ≠ gx6; omega) _).setOther (by show w.heap.size + 1 + 1 ≠ gx6; omega) _).setOther (by show w.heap.size + 1 + 1 ≠ gx6; omega) _).setOther (by show w.heap.size + 1 + 1 ≠ gx6; omega) _).setOther (by show w.heap.size + 1 + 1 ≠ gx6; omega) _).setOther (by show w.heap.size + 1 + 1 ≠ gx6; omega) _).setOther (by show w.heap.size + 1 + 1 ≠ gx6; omega) _).setOther (by show w.heap.size + 1 + 1 ≠ gx6; omega) _).setOther (by show w.heap.size + 1 + 1 ≠ gx6; omega) _).setOther (by show w.heap.size + 1 + 1 ≠ gx6; omega) _, (((((((((((((((((((((((((((((((BX4.out).set 0 _).set 1 _).set 2 _).set 3 _).set 4 _).set 5 _).set 6 _).set 7 _).set 8 _).set 9 _).setOther (by show gx4 ≠ gx5; omega) _).setOther (by show gx4 ≠ gx5; omega) _).setOther (by show gx4 ≠ gx5; omega) _).setOther (by show gx4 ≠ gx5; omega) _).setOther (by show gx4 ≠ gx5; omega) _).setOther (by show gx4 ≠ gx5; omega) _).setOther (by show gx4 ≠ gx5; omega) _).setOther (by show gx4 ≠ gx5; omega) _).setOther (by show gx4 ≠ gx5; omega) _).setOther (by show gx4 ≠ gx5; omega) _).setOther (by show gx4 ≠ gx6; omega) _).setOther (by show gx4 ≠ gx6; omega) _).setOther (by show gx4 ≠ gx6; omega) _).setOther (by show gx4 ≠ gx6; omega) _).setOther (by show gx4 ≠ gx6; omega) _).setOther (by show gx4 ≠ gx6; omega) _).setOther (by show gx4 ≠ gx6; omega) _).setOther (by show gx4 ≠ gx6; omega) _).setOther (by show gx4 ≠ gx6; omega) _).setOther (by show gx4 ≠ gx6; omega) _).eq (by simp only [List.setIfInBounds_toArray, List.set_cons_zero, List.set_cons_succ]), (((((((((((((((((((((((((((((((BX5.out).setOther (by show gx5 ≠ gx4; omega) _).setOther (by show gx5 ≠ gx4; omega) _).setOther (by show gx5 ≠ gx4; omega) _).setOther (by show gx5 ≠ gx4; omega) _).setOther (by show gx5 ≠ gx4; omega) _).setOther (by show gx5 ≠ gx4; omega) _).setOther (by show gx5 ≠ gx4; omega) _).setOther (by show gx5 ≠ gx4; omega) _).setOther (by show gx5 ≠ gx4; omega) _).setOther (by show gx5 ≠ gx4; omega) _).set 0 _).set 1 _).set 2 _).set 3 _).set 4 _).set 5 _).set 6 _).set 7 _).set 8 _).set 9 _).setOther (by show gx5 ≠ gx6; omega) _).setOther (by show gx5 ≠ gx6; omega) _).setOther (by show gx5 ≠ gx6; omega) _).setOther (by show gx5 ≠ gx6; omega) _).setOther (by show gx5 ≠ gx6; omega) _).setOther (by show gx5 ≠ gx6; omega) _).setOther (by show gx5 ≠ gx6; omega) _).setOther (by show gx5 ≠ gx6; omega) _).setOther (by show gx5 ≠ gx6; omega) _).setOther (by show gx5 ≠ gx6; omega) _).eq (by simp only [List.setIfInBounds_toArray, List.set_cons_zero, List.set_cons_succ]), (((((((((((((((((((((((((((((((BX6.out).setOther (by show gx6 ≠ gx4; omega) _).setOther (by show gx6 ≠ gx4; omega) _).setOther (by show gx6 ≠ gx4; omega) _).setOther (by show gx6 ≠ gx4; omega) _).setOther (by show gx6 ≠ gx4; omega) _).setOther (by show gx6 ≠ gx4; omega) _).setOther (by show gx6 ≠ gx4; omega) _).setOther (by show gx6 ≠ gx4; omega) _).setOther (by show gx6 ≠ gx4; omega) _).setOther (by show gx6 ≠ gx4; omega) _).setOther (by show gx6 ≠ gx5; omega) _).setOther (by show gx6 ≠ gx5; omega) _).setOther (by show gx6 ≠ gx5; omega) _).setOther (by show gx6 ≠ gx5; omega) _).setOther (by show gx6 ≠ gx5; omega) _).setOther (by show gx6 ≠ gx5; omega) _).setOther (by show gx6 ≠ gx5; omega) _).setOther (by show gx6 ≠ gx5; omega) _).setOther (by show gx6 ≠ gx5; omega) _).setOther (by show gx6 ≠ gx5; omega) _).set 0 _).set 1 _).set 2 _).set 3 _).set 4 _).set 5 _).set 6 _).set 7 _).set 8 _).set 9 _).eq (by simp only [List.setIfInBounds_toArray, List.set_cons_zero, List.set_cons_succ]), ((((((((((((((((((((((((((((((HB.out.trans (HG.out.mono HB.out.size)).setCell (by show w.heap.size ≤ gx4; omega) _).setCell (by show w.heap.size ≤ gx4; omega) _).setCell (by show w.heap.size ≤ gx4; omega) _).setCell (by show w.heap.size ≤ gx4; omega) _).setCell (by show w.heap.size ≤ gx4; omega) _).setCell (by show w.heap.size ≤ gx4; omega) _).setCell (by show w.heap.size ≤ gx4; omega) _).setCell (by show w.heap.size ≤ gx4; omega) _).setCell (by show w.heap.size ≤ gx4; omega) _).setCell (by show w.heap.size ≤ gx4; omega) _).setCell (by show w.heap.size ≤ gx5; omega) _).setCell (by show w.heap.size ≤ gx5; omega) _).setCell (by show w.heap.size ≤ gx5; omega) _).setCell (by show w.heap.size ≤ gx5; omega) _).setCell (by show w.heap.size ≤ gx5; omega) _).setCell (by show w.heap.size ≤ gx5; omega) _).setCell (by show w.heap.size ≤ gx5; omega) _).setCell (by show w.heap.size ≤ gx5; omega) _).setCell (by show w.heap.size ≤ gx5; omega) _).setCell (by show w.heap.size ≤ gx5; omega) _).setCell (by show w.heap.size ≤ gx6; omega) _).setCell (by show w.heap.size ≤ gx6; omega) _).setCell (by show w.heap.size ≤ gx6; omega) _).setCell (by show w.heap.size ≤ gx6; omega) _).setCell (by show w.heap.size ≤ gx6; omega) _).setCell (by show w.heap.size ≤ gx6; omega) _).setCell (by show w.heap.size ≤ gx6; omega) _).setCell (by show w.heap.size ≤ gx6; omega) _).setCell (by show w.heap.size ≤ gx6; omega) _).setCell (by show w.heap.size ≤ gx6; omega) _⟩ ?_
  clear HB HG BX0 BX1 BX2 BX3 BX4 BX5 BX6
  rintro Wx1 ⟨bx0, bx1, bx2, bx4, bx5, bx6, HB⟩
  replace HB := Lib.hid HB
  -- region 2
  obtain ⟨u7, HZ7⟩ : ∃ z, Hid ((u1) * (u1) + (u2) * (u2) = z) := ⟨_, Lib.hid rfl⟩
  have su7 : sz u7 ≤ 405 := by rw [← HZ7.out]; have := sz_dot (u1) (u2) (u1) (u2); omega
  obtain ⟨u8, HZ8⟩ : ∃ z, Hid ((u3) * (u6) - (u4) * (u5) = z) := ⟨_, Lib.hid rfl⟩
  have su8 : sz u8 ≤ 405 := by rw [← HZ8.out]; have := sz_cross (u3) (u4) (u5) (u6); omega
  obtain ⟨u9, HZ9⟩ : ∃ z, Hid ((u7) * (u8) = z) := ⟨_, Lib.hid rfl⟩
  have su9 : sz u9 ≤ 810 := by rw [← HZ9.out]; have := sz_mul (u7) (u8); omega
  obtain ⟨u10, HZ10⟩ : ∃ z, Hid ((u3) * (u3) + (u4) * (u4) = z) := ⟨_, Lib.hid rfl⟩
  have su10 : sz u10 ≤ 405 := by rw [← HZ10.out]; have := sz_dot (u3) (u4) (u3) (u4); omega
  obtain ⟨u11, HZ11⟩ : ∃ z, Hid ((u5) * (u2) - (u6) * (u1) = z) := ⟨_, Lib.hid rfl⟩
  have su11 : sz u11 ≤ 405 := by rw [← HZ11.out]; have := sz_cross (u5) (u6) (u1) (u2); omega
  obtain ⟨u12, HZ12⟩ : ∃ z, Hid ((u10) * (u11) = z) := ⟨_, Lib.hid rfl⟩
  have su12 : sz u12 ≤ 810 := by rw [← HZ12.out]; have := sz_mul (u10) (u11); omega
  obtain ⟨u13, HZ13⟩ : ∃ z, Hid ((u5) * (u5) + (u6) * (u6) = z) := ⟨_, Lib.hid rfl⟩
  have su13 : sz u13 ≤ 405 := by rw [← HZ13.out]; have := sz_dot (u5) (u6) (u5) (u6); omega
  obtain ⟨u14, HZ14⟩ : ∃ z, Hid ((u1) * (u4) - (u2) * (u3) = z) := ⟨_, Lib.hid rfl⟩
  have su14 : sz u14 ≤ 405 := by rw [← HZ14.out]; have := sz_cross (u1) (u2) (u3) (u4); omega
  obtain ⟨u15, HZ15⟩ : ∃ z, Hid ((u13) * (u14) = z) := ⟨_, Lib.hid rfl⟩
  have su15 : sz u15 ≤ 810 := by rw [← HZ15.out]; have := sz_mul (u13) (u14); omega
  obtain ⟨u16, HZ16⟩ : ∃ z, Hid (psum [u9, u12, u15] 3 = z) := ⟨_, Lib.hid rfl⟩
  have su16 : sz u16 ≤ 3004 := by rw [← HZ16.out]; have := sz_psum [u9, u12, u15] 1000 (by intro q hq; simp only [List.mem_cons, List.not_mem_nil, or_false] at hq; rcases hq with rfl | rfl | rfl <;> omega) 3 (by simp); omega
  have lx4 := bx4.cells
  have lx5 := bx5.cells
  have lx6 := bx6.cells
  have BX0 := Lib.hid bx0
  have BX1 := Lib.hid bx1
  have BX2 := Lib.hid bx2
  have BX4 := Lib.hid bx4
  have BX5 := Lib.hid bx5
  have BX6 := Lib.hid bx6
  clear bx0 bx1 bx2 bx4 bx5 bx6
  refine wp_seq_k fun K hK => ?_
  replace hK := Lib.hid hK
  have HS0 := Lib.hid (HB.out.size)
  have MX0 : w.heap.size < Wx1.heap.size := BX0.out.lt
  have MX1 : w.heap.size + 1 < Wx1.heap.size := BX1.out.lt
  have MX2 : w.heap.size + 1 + 1 < Wx1.heap.size := BX2.out.lt
  have MX4 : gx4 < Wx1.heap.size := BX4.out.lt
  have MX5 : gx5 < Wx1.heap.size := BX5.out.lt
  have MX6 : gx6 < Wx1.heap.size := BX6.out.lt
  refine wp_region_early 24 [23] [] (fun _ => 12) (fun _ => .cells #[.int .u64 0, .string ⟨#[]⟩, .bool false, .int .u64 0, .string ⟨#[]⟩] 36) (fun i => (3, #[.int .u64 ((lo (Int.natAbs ((u9).num)) : Nat) : Int), .string (bg (Int.natAbs ((u9).num))), .bool (decide (((u9).num) < 0)), .int .u64 ((lo ((u9).den - 1) : Nat) : Int), .string (bg ((u9).den - 1)), .int .u64 ((lo (Int.natAbs ((u12).num)) : Nat) : Int), .string (bg (Int.natAbs ((u12).num))), .bool (decide (((u12).num) < 0)), .int .u64 ((lo ((u12).den - 1) : Nat) : Int), .string (bg ((u12).den - 1)), .int .u64 ((lo (Int.natAbs ((u15).num)) : Nat) : Int), .string (bg (Int.natAbs ((u15).num))), .bool (decide (((u15).num) < 0)), .int .u64 ((lo ((u15).den - 1) : Nat) : Int), .string (bg ((u15).den - 1))], 36)) [(0, 0), (0, 1), (0, 3), (0, 4), (0, 7), (0, 8), (0, 10), (0, 11), (0, 14), (0, 15), (0, 17), (0, 18), (0, 2), (0, 5), (0, 6), (0, 9), (0, 12), (0, 13), (0, 16), (0, 19), (0, 20), (1, 21), (2, 21), (0, 22)] (by kernel_rfl) (by kernel_rfl) (by intro i hi; simp only [List.mem_cons, List.not_mem_nil, or_false] at hi; rcases hi with rfl <;> exact ⟨_, rfl, rfl, rfl, by simp, fun ρ w => by kernel_rfl⟩) (fun i hi => by cases hi) (fun _ _ _ _ _ h => h) (fun T hT => ?_)
  iterate 12
    refine wpEarly_takeL (v := ?_) rfl (by rfl) (fun w' hw => ?_) ?_
    rotate_left
    · go_simp
      with_reducible rfl
    simp only [Act.put, List.setIfInBounds_toArray, List.set_cons_zero, List.set_cons_succ]
  refine wpEarly_callL rfl (by rfl) Try.call26 (fun w' hw => pdot_any (u1) (u2) (u1) (u2) (u7) _ HZ7.out (by first | omega | exact Nat.le_trans (wl_small (by decide)) (by decide)) (by first | omega | exact Nat.le_trans (wl_small (by decide)) (by decide)) (by first | omega | exact Nat.le_trans (wl_small (by decide)) (by decide)) (by first | omega | exact Nat.le_trans (wl_small (by decide)) (by decide))) (by rfl) ?_
  simp only [Act.put, List.setIfInBounds_toArray, List.set_cons_zero, List.set_cons_succ]
  refine wpEarly_callL rfl (by rfl) Try.call11 (fun w' hw => pcross_any (u3) (u4) (u5) (u6) (u8) _ HZ8.out (by first | omega | exact Nat.le_trans (wl_small (by decide)) (by decide)) (by first | omega | exact Nat.le_trans (wl_small (by decide)) (by decide)) (by first | omega | exact Nat.le_trans (wl_small (by decide)) (by decide)) (by first | omega | exact Nat.le_trans (wl_small (by decide)) (by decide))) (by rfl) ?_
  simp only [Act.put, List.setIfInBounds_toArray, List.set_cons_zero, List.set_cons_succ]
  refine wpEarly_callL rfl (by rfl) Try.call10 (fun w' hw => fmul_any (u7) (u8) (u9) _ HZ9.out (by first | omega | exact Nat.le_trans (wl_small (by decide)) (by decide)) (by first | omega | exact Nat.le_trans (wl_small (by decide)) (by decide))) (by rfl) ?_
  simp only [Act.put, List.setIfInBounds_toArray, List.set_cons_zero, List.set_cons_succ]
  refine wpEarly_callL rfl (by rfl) Try.call26 (fun w' hw => pdot_any (u3) (u4) (u3) (u4) (u10) _ HZ10.out (by first | omega | exact Nat.le_trans (wl_small (by decide)) (by decide)) (by first | omega | exact Nat.le_trans (wl_small (by decide)) (by decide)) (by first | omega | exact Nat.le_trans (wl_small (by decide)) (by decide)) (by first | omega | exact Nat.le_trans (wl_small (by decide)) (by decide))) (by rfl) ?_
  simp only [Act.put, List.setIfInBounds_toArray, List.set_cons_zero, List.set_cons_succ]
  refine wpEarly_callL rfl (by rfl) Try.call11 (fun w' hw => pcross_any (u5) (u6) (u1) (u2) (u11) _ HZ11.out (by first | omega | exact Nat.le_trans (wl_small (by decide)) (by decide)) (by first | omega | exact Nat.le_trans (wl_small (by decide)) (by decide)) (by first | omega | exact Nat.le_trans (wl_small (by decide)) (by decide)) (by first | omega | exact Nat.le_trans (wl_small (by decide)) (by decide))) (by rfl) ?_
  simp only [Act.put, List.setIfInBounds_toArray, List.set_cons_zero, List.set_cons_succ]
  refine wpEarly_callL rfl (by rfl) Try.call10 (fun w' hw => fmul_any (u10) (u11) (u12) _ HZ12.out (by first | omega | exact Nat.le_trans (wl_small (by decide)) (by decide)) (by first | omega | exact Nat.le_trans (wl_small (by decide)) (by decide))) (by rfl) ?_
  simp only [Act.put, List.setIfInBounds_toArray, List.set_cons_zero, List.set_cons_succ]
  refine wpEarly_callL rfl (by rfl) Try.call26 (fun w' hw => pdot_any (u5) (u6) (u5) (u6) (u13) _ HZ13.out (by first | omega | exact Nat.le_trans (wl_small (by decide)) (by decide)) (by first | omega | exact Nat.le_trans (wl_small (by decide)) (by decide)) (by first | omega | exact Nat.le_trans (wl_small (by decide)) (by decide)) (by first | omega | exact Nat.le_trans (wl_small (by decide)) (by decide))) (by rfl) ?_
  simp only [Act.put, List.setIfInBounds_toArray, List.set_cons_zero, List.set_cons_succ]
  refine wpEarly_callL rfl (by rfl) Try.call11 (fun w' hw => pcross_any (u1) (u2) (u3) (u4) (u14) _ HZ14.out (by first | omega | exact Nat.le_trans (wl_small (by decide)) (by decide)) (by first | omega | exact Nat.le_trans (wl_small (by decide)) (by decide)) (by first | omega | exact Nat.le_trans (wl_small (by decide)) (by decide)) (by first | omega | exact Nat.le_trans (wl_small (by decide)) (by decide))) (by rfl) ?_
  simp only [Act.put, List.setIfInBounds_toArray, List.set_cons_zero, List.set_cons_succ]
  refine wpEarly_callL rfl (by rfl) Try.call10 (fun w' hw => fmul_any (u13) (u14) (u15) _ HZ15.out (by first | omega | exact Nat.le_trans (wl_small (by decide)) (by decide)) (by first | omega | exact Nat.le_trans (wl_small (by decide)) (by decide))) (by rfl) ?_
  simp only [Act.put, List.setIfInBounds_toArray, List.set_cons_zero, List.set_cons_succ]
  refine wpEarly_mk rfl (by rfl) (fun w' => ?_) ?_
  · go_simp
  refine wpEarly_use rfl (by rfl) (fun gx7 vv1 hg0 yx7 bx7 => ?_)
  have HG0 := Lib.hid hg0; clear hg0
  replace yx7 : w.heap.size ≤ gx7 := by first | exact Nat.le_trans HS0.out yx7 | exact Nat.le_trans HB.out.size yx7
  have BX7 := Lib.hid bx7; clear bx7
  have BX0_ := Lib.hid (BX0.out.gr HG0.out); clear BX0; have BX0 := BX0_; clear BX0_
  have BX1_ := Lib.hid (BX1.out.gr HG0.out); clear BX1; have BX1 := BX1_; clear BX1_
  have BX2_ := Lib.hid (BX2.out.gr HG0.out); clear BX2; have BX2 := BX2_; clear BX2_
  have BX4_ := Lib.hid (BX4.out.gr HG0.out); clear BX4; have BX4 := BX4_; clear BX4_
  have BX5_ := Lib.hid (BX5.out.gr HG0.out); clear BX5; have BX5 := BX5_; clear BX5_
  have BX6_ := Lib.hid (BX6.out.gr HG0.out); clear BX6; have BX6 := BX6_; clear BX6_
  have HB_ := Lib.hid (HB.out.trans (HG0.out.mono HB.out.size)); clear HB; have HB := HB_; clear HB_
  clear HG0
  clear lx4; have lx4 := BX4.out.cells
  clear lx5; have lx5 := BX5.out.cells
  clear lx6; have lx6 := BX6.out.cells
  simp only [Act.put, List.setIfInBounds_toArray, List.set_cons_zero, List.set_cons_succ]
  refine wpEarly_callL rfl (by rfl) Try.call25 (fun w' hw => fsum_any [u9, u12, u15] (gx7) 3 (u16) _ (BX7.out.gr hw) rfl (by decide) (by intro q hq; simp only [List.mem_cons, List.not_mem_nil, or_false] at hq; rcases hq with rfl | rfl | rfl <;> omega) HZ16.out) (by rfl) ?_
  simp only [Act.put, List.setIfInBounds_toArray, List.set_cons_zero, List.set_cons_succ]
  refine wpEarly_nil (hT.out _ _ ?_); clear hT T
  intro G vw2 hg hf
  simp only [puts, Act.put, List.setIfInBounds_toArray, List.set_cons_zero, List.set_cons_succ, List.drop_succ_cons, List.drop_zero, ↓reduceIte, Nat.reduceEqDiff]
  clear lx4 lx5 lx6
  clear BX7
  have HG := Lib.hid (hg)
  clear hg
  have bx8 := Bx.of_fresh hf (i := 23) (by decide) rfl
  have yx8 := (hf.1 23 (by decide)).1
  clear hf
  generalize G 23 = gx8 at *
  have qx0_8 : w.heap.size < gx8 := Nat.lt_of_lt_of_le MX0 yx8
  have qx1_8 : w.heap.size + 1 < gx8 := Nat.lt_of_lt_of_le MX1 yx8
  have qx2_8 : w.heap.size + 1 + 1 < gx8 := Nat.lt_of_lt_of_le MX2 yx8
  have qx4_8 : gx4 < gx8 := Nat.lt_of_lt_of_le MX4 yx8
  have qx5_8 : gx5 < gx8 := Nat.lt_of_lt_of_le MX5 yx8
  have qx6_8 : gx6 < gx8 := Nat.lt_of_lt_of_le MX6 yx8
  replace yx8 : w.heap.size ≤ gx8 := Nat.le_trans HS0.out yx8
  have bx0 := BX0.out.gr HG.out; clear BX0
  have bx1 := BX1.out.gr HG.out; clear BX1
  have bx2 := BX2.out.gr HG.out; clear BX2
  have bx4 := BX4.out.gr HG.out; clear BX4
  have bx5 := BX5.out.gr HG.out; clear BX5
  have bx6 := BX6.out.gr HG.out; clear BX6
  have lx8 := bx8.cells; have fx8 := bx8.free
  have r0 := Gr.refl vw2
  have BX0 := Lib.hid bx0; clear bx0
  have BX1 := Lib.hid bx1; clear bx1
  have BX2 := Lib.hid bx2; clear bx2
  have BX4 := Lib.hid bx4; clear bx4
  have BX5 := Lib.hid bx5; clear bx5
  have BX6 := Lib.hid bx6; clear bx6
  have BX8 := Lib.hid bx8; clear bx8
  go_wp2
  refine hK.out _ _ ?_; clear hK K
  show Code.wp _ _ _ _ _
  clear lx8 fx8
  clear r0
  refine forgetW (fun w2 => Bx w2 (w.heap.size) 38 #[.int .u64 ((lo (Int.natAbs ((a1).num)) : Nat) : Int), .string (bg (Int.natAbs ((a1).num))), .bool (decide (((a1).num) < 0)), .int .u64 ((lo ((a1).den - 1) : Nat) : Int), .string (bg ((a1).den - 1)), .int .u64 ((lo (Int.natAbs ((a2).num)) : Nat) : Int), .string (bg (Int.natAbs ((a2).num))), .bool (decide (((a2).num) < 0)), .int .u64 ((lo ((a2).den - 1) : Nat) : Int), .string (bg ((a2).den - 1))] ∧ Bx w2 (w.heap.size + 1) 38 #[.int .u64 ((lo (Int.natAbs ((b1).num)) : Nat) : Int), .string (bg (Int.natAbs ((b1).num))), .bool (decide (((b1).num) < 0)), .int .u64 ((lo ((b1).den - 1) : Nat) : Int), .string (bg ((b1).den - 1)), .int .u64 ((lo (Int.natAbs ((b2).num)) : Nat) : Int), .string (bg (Int.natAbs ((b2).num))), .bool (decide (((b2).num) < 0)), .int .u64 ((lo ((b2).den - 1) : Nat) : Int), .string (bg ((b2).den - 1))] ∧ Bx w2 (w.heap.size + 1 + 1) 38 #[.int .u64 ((lo (Int.natAbs ((c1).num)) : Nat) : Int), .string (bg (Int.natAbs ((c1).num))), .bool (decide (((c1).num) < 0)), .int .u64 ((lo ((c1).den - 1) : Nat) : Int), .string (bg ((c1).den - 1)), .int .u64 ((lo (Int.natAbs ((c2).num)) : Nat) : Int), .string (bg (Int.natAbs ((c2).num))), .bool (decide (((c2).num) < 0)), .int .u64 ((lo ((c2).den - 1) : Nat) : Int), .string (bg ((c2).den - 1))] ∧ Bx w2 gx8 36 #[.int .u64 ((lo (Int.natAbs ((u16).num)) : Nat) : Int), .string (bg (Int.natAbs ((u16).num))), .bool (decide (((u16).num) < 0)), .int .u64 ((lo ((u16).den - 1) : Nat) : Int), .string (bg ((u16).den - 1))] ∧ Below w.heap.size w w2) ⟨(((((BX0.out).setOther (by show w.heap.size ≠ gx8; omega) _).setOther (by show w.heap.size ≠ gx8; omega) _).setOther (by show w.heap.size ≠ gx8; omega) _).setOther (by show w.heap.size ≠ gx8; omega) _).setOther (by show w.heap.size ≠ gx8; omega) _, (((((BX1.out).setOther (by show w.heap.size + 1 ≠ gx8; omega) _).setOther (by show w.heap.size + 1 ≠ gx8; omega) _).setOther (by show w.heap.size + 1 ≠ gx8; omega) _).setOther (by show w.heap.size + 1 ≠ gx8; omega) _).setOther (by show w.heap.size + 1 ≠ gx8; omega) _, (((((BX2.out).setOther (by show w.heap.size + 1 + 1 ≠ gx8; omega) _).setOther (by show w.heap.size + 1 + 1 ≠ gx8; omega) _).setOther (by show w.heap.size + 1 + 1 ≠ gx8; omega) _).setOther (by show w.heap.size + 1 + 1 ≠ gx8; omega) _).setOther (by show w.heap.size + 1 + 1 ≠ gx8; omega) _, ((((((BX8.out).set 0 _).set 1 _).set 2 _).set 3 _).set 4 _).eq (by simp only [List.setIfInBounds_toArray, List.set_cons_zero, List.set_cons_succ]), (((((HB.out.trans (HG.out.mono HB.out.size)).setCell (by show w.heap.size ≤ gx8; omega) _).setCell (by show w.heap.size ≤ gx8; omega) _).setCell (by show w.heap.size ≤ gx8; omega) _).setCell (by show w.heap.size ≤ gx8; omega) _).setCell (by show w.heap.size ≤ gx8; omega) _⟩ ?_
  clear HB HG BX0 BX1 BX2 BX4 BX5 BX6 BX8
  rintro Wx2 ⟨bx0, bx1, bx2, bx8, HB⟩
  replace HB := Lib.hid HB
  -- region 3
  have lx0 := bx0.cells
  have lx1 := bx1.cells
  have lx2 := bx2.cells
  have lx8 := bx8.cells
  have BX0 := Lib.hid bx0
  have BX1 := Lib.hid bx1
  have BX2 := Lib.hid bx2
  have BX8 := Lib.hid bx8
  clear bx0 bx1 bx2 bx8
  refine wp_seq_k fun K hK => ?_
  replace hK := Lib.hid hK
  refine wp_region_plan 7 [] [] (fun _ => 0) (fun _ => .cells #[] 0) [(true, 0), (true, 2), (true, 3), (true, 4), (true, 1), (true, 5), (true, 6)] (by kernel_rfl) (by kernel_rfl) (fun i hi => by cases hi) (fun i hi => by cases hi) (fun _ _ _ _ _ h => h) (fun T hT => ?_)
  iterate 4
    refine wpPlan_takeL (v := ?_) rfl (by rfl) (fun w' hw => ?_) ?_
    rotate_left
    · go_simp
      with_reducible rfl
    simp only [Act.put, List.setIfInBounds_toArray, List.set_cons_zero, List.set_cons_succ]
  refine wpPlan_callL rfl (by rfl) Try.call15 (fun w' hw => fsign_any (u16) (s) _ (by simp only [← HZ16.out, ← HZ15.out, ← HZ14.out, ← HZ13.out, ← HZ12.out, ← HZ11.out, ← HZ10.out, ← HZ9.out, ← HZ8.out, ← HZ7.out, ← HZ6.out, ← HZ5.out, ← HZ4.out, ← HZ3.out, ← HZ2.out, ← HZ1.out]; exact hsg.out)) (by rfl) ?_
  simp only [Act.put, List.setIfInBounds_toArray, List.set_cons_zero, List.set_cons_succ]
  refine wpPlan_callL rfl (by rfl) Try.call13 (fun w' hw => pturn_any (a1) (a2) (b1) (b2) (c1) (c2) (t) _ (ht.out) (by first | omega | exact Nat.le_trans (wl_small (by decide)) (by decide)) (by first | omega | exact Nat.le_trans (wl_small (by decide)) (by decide)) (by first | omega | exact Nat.le_trans (wl_small (by decide)) (by decide)) (by first | omega | exact Nat.le_trans (wl_small (by decide)) (by decide)) (by first | omega | exact Nat.le_trans (wl_small (by decide)) (by decide)) (by first | omega | exact Nat.le_trans (wl_small (by decide)) (by decide))) (by rfl) ?_
  simp only [Act.put, List.setIfInBounds_toArray, List.set_cons_zero, List.set_cons_succ]
  iterate 1
    refine wpPlan_takeL (v := ?_) rfl (by rfl) (fun w' hw => ?_) ?_
    rotate_left
    · go_simp
      with_reducible rfl
    simp only [Act.put, List.setIfInBounds_toArray, List.set_cons_zero, List.set_cons_succ]
  refine wpPlan_nil (hT.out _ _ ?_); clear hT T
  intro G vw3 hg hf
  simp only [puts, Act.put, List.setIfInBounds_toArray, List.set_cons_zero, List.set_cons_succ, List.drop_succ_cons, List.drop_zero, ↓reduceIte, Nat.reduceEqDiff]
  clear lx0 lx1 lx2 lx8
  have HG := Lib.hid (hg)
  clear hg
  have bx0 := BX0.out.gr HG.out; clear BX0
  have bx1 := BX1.out.gr HG.out; clear BX1
  have bx2 := BX2.out.gr HG.out; clear BX2
  have bx8 := BX8.out.gr HG.out; clear BX8
  have r0 := Gr.refl vw3
  have BX0 := Lib.hid bx0; clear bx0
  have BX1 := Lib.hid bx1; clear bx1
  have BX2 := Lib.hid bx2; clear bx2
  have BX8 := Lib.hid bx8; clear bx8
  go_wp2
  refine hK.out _ _ ?_; clear hK K
  show Code.wp _ _ _ _ _
  clear r0
  refine forgetW (fun w2 => Below w.heap.size w w2) (HB.out.trans (HG.out.mono HB.out.size)) ?_
  clear HB HG BX0 BX1 BX2 BX8
  rintro Wx3 HB
  replace HB := Lib.hid HB
  refine wp_ret ?_
  try simp only [Exit.then, Exit.inBlock]
  have r0 := Gr.refl Wx3
  exact bodyPost_ret (v := .int .i64 (r)) (by simp [results, Try.results17, go_sem]) rfl ⟨rfl, HB.out⟩

end Go.Proofs.Ytenpbnmmadbkdaa
