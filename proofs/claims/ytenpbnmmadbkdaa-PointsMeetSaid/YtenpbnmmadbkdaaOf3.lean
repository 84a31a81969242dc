/- gussetlaw03.Q.Of, gussetlaw23.P.Of; plain facts on orientation. -/
import Derived.Test.YtenpbnmmadbkdaaLives
namespace Go.Proofs.Ytenpbnmmadbkdaa
open Go.RowKit
set_option linter.unusedSimpArgs false
set_option linter.unusedVariables false
attribute [local go_sem ↓] Go.wp_at_zero Go.wp_at_succ
attribute [local go_sem ↓] eq_nat eq_nat_zero eq_int eq_frac eq_pt
set_option maxHeartbeats 1000000 in
theorem qof_any (n d m : Int) (z : Rat) (w : World) (hm : max d 1 = m) (hz : (n : Rat) / (m : Rat) = z) (h1 : -9223372036854775808 ≤ n) (h2 : n ≤ 9223372036854775807) (h3 : 0 ≤ d) (h4 : d ≤ 4294967295) :
    Calls Try.prog 28 #[(Value.agg #[.int .i64 (n), .int .u32 (d)])] w fun e w' => e = .returned (.agg #[.int .u64 ((lo (Int.natAbs ((z).num)) : Nat) : Int), .string (bg (Int.natAbs ((z).num))), .bool (decide (((z).num) < 0)), .int .u64 ((lo ((z).den - 1) : Nat) : Int), .string (bg ((z).den - 1))]) ∧ Below w.heap.size w w' := by
  have hm1 : 1 ≤ m := by omega
  have hm2 : m ≤ 4294967295 := by omega
  have hwm : IntKind.i64.wrap m = m := by rw [IntKind.wrap_i64]; omega
  replace hz := Lib.hid hz
  go_enter Try.func28, Try.ntmps28
  -- region 0
  refine wp_seq_k fun K hK => ?_
  replace hK := Lib.hid hK
  refine wp_region_lit ?_
  go_wp2
  refine hK.out _ _ ?_; clear hK K
  show Code.wp _ _ _ _ _
  refine forgetW (fun w2 => Bx w2 (w.heap.size) 24 #[.int .i64 (n), .int .u32 (d)] ∧ Bx w2 (w.heap.size + 1) 36 #[.int .u64 0, .string ⟨#[]⟩, .bool false, .int .u64 0, .string ⟨#[]⟩] ∧ Below w.heap.size w w2) ⟨(Bx.at rfl).alloc _, Bx.at (by simp), ((Below.refl _ _).alloc (Nat.le_refl _) _).alloc (by simp) _⟩ ?_
  rintro Wx ⟨bx0, bx1, HB⟩
  replace HB := Lib.hid HB
  -- region 1
  have HZ1 : Hid (((n : Int) : Rat) / ((m : Int) : Rat) = z) := Lib.hid (hz.out)
  have lx0 := bx0.cells
  have BX0 := Lib.hid bx0
  have BX1 := Lib.hid bx1
  clear bx0 bx1
  refine wp_seq_k fun K hK => ?_
  replace hK := Lib.hid hK
  refine wp_region_seqplan 10 [(true, 0), (true, 1), (true, 2), (true, 3), (true, 4), (true, 5), (true, 6), (true, 7), (true, 8), (true, 9)] (by rfl) (by simp) (fun T hT => ?_)
  iterate 6
    refine wpPlan_takeL (v := ?_) rfl (by rfl) (fun w' hw => ?_) ?_
    rotate_left
    · go_simp
      with_reducible rfl
    simp only [Act.put, List.setIfInBounds_toArray, List.set_cons_zero, List.set_cons_succ]
  refine wpPlan_callL rfl (by rfl) Try.call50 (fun w' hw => fof_any (n) (m) (z) _ HZ1.out (by omega) (by first | omega | exact Nat.le_trans (wl_small (by decide)) (by decide)) (by first | omega | exact Nat.le_trans (wl_small (by decide)) (by decide)) (by first | omega | exact Nat.le_trans (wl_small (by decide)) (by decide)) (by first | omega | exact Nat.le_trans (wl_small (by decide)) (by decide))) (by rfl) ?_
  simp only [Act.put, List.setIfInBounds_toArray, List.set_cons_zero, List.set_cons_succ]
  iterate 3
    refine wpPlan_takeL (v := ?_) rfl (by rfl) (fun w' hw => ?_) ?_
    rotate_left
    · go_simp
      with_reducible rfl
    simp only [Act.put, List.setIfInBounds_toArray, List.set_cons_zero, List.set_cons_succ]
  refine wpPlan_nil (hT.out _ _ ?_); clear hT T
  intro vw1 hg
  simp only [puts, Act.put, List.setIfInBounds_toArray, List.set_cons_zero, List.set_cons_succ, List.drop_succ_cons, List.drop_zero, ↓reduceIte, Nat.reduceEqDiff]
  clear lx0
  have HG := Lib.hid (hg)
  clear hg
  have bx0 := BX0.out.gr HG.out; clear BX0
  have bx1 := BX1.out.gr HG.out; clear BX1
  have r0 := Gr.refl vw1
  have BX0 := Lib.hid bx0; clear bx0
  have BX1 := Lib.hid bx1; clear bx1
  go_wp2
  refine hK.out _ _ ?_; clear hK K
  show Code.wp _ _ _ _ _
  clear r0
  have hsz : w.heap.size ≤ vw1.heap.size := Nat.le_trans HB.out.size HG.out.size
  have mx0 : w.heap.size < vw1.heap.size := BX0.out.lt
  have mx1 : w.heap.size + 1 < vw1.heap.size := BX1.out.lt
  refine forgetW (fun w2 => Bx w2 (w.heap.size + 1) 36 #[.int .u64 0, .string ⟨#[]⟩, .bool false, .int .u64 0, .string ⟨#[]⟩] ∧ Bx w2 (vw1.heap.size) 36 #[.int .u64 ((lo (Int.natAbs ((z).num)) : Nat) : Int), .string (bg (Int.natAbs ((z).num))), .bool (decide (((z).num) < 0)), .int .u64 ((lo ((z).den - 1) : Nat) : Int), .string (bg ((z).den - 1))] ∧ Below w.heap.size w w2) ⟨(BX1.out).alloc _, (Bx.at (by simp) : Bx _ (vw1.heap.size) _ _), (HB.out.trans (HG.out.mono HB.out.size)).alloc (by first | omega | (simp; omega)) _⟩ ?_
  clear HB HG BX0 BX1
  rintro Wx1 ⟨bx1, bx2, HB⟩
  replace HB := Lib.hid HB
  have yx2 : w.heap.size ≤ vw1.heap.size := by omega
  have qx0_2 : w.heap.size < vw1.heap.size := by omega
  have qx1_2 : w.heap.size + 1 < vw1.heap.size := by omega
  generalize hx2 : vw1.heap.size = gx2 at *
  clear hx2
  clear hsz mx0 mx1
  -- region 2
  have lx2 := bx2.cells
  have BX1 := Lib.hid bx1
  have BX2 := Lib.hid bx2
  clear bx1 bx2
  refine wp_seq_k fun K hK => ?_
  replace hK := Lib.hid hK
  refine wp_region_seqplan 1 [(true, 0)] (by rfl) (by simp) (fun T hT => ?_)
  iterate 1
    refine wpPlan_takeL (v := ?_) rfl (by rfl) (fun w' hw => ?_) ?_
    rotate_left
    · go_simp
      with_reducible rfl
    simp only [Act.put, List.setIfInBounds_toArray, List.set_cons_zero, List.set_cons_succ]
  refine wpPlan_nil (hT.out _ _ ?_); clear hT T
  intro vw2 hg
  simp only [puts, Act.put, List.setIfInBounds_toArray, List.set_cons_zero, List.set_cons_succ, List.drop_succ_cons, List.drop_zero, ↓reduceIte, Nat.reduceEqDiff]
  clear lx2
  have HG := Lib.hid (hg)
  clear hg
  have bx1 := BX1.out.gr HG.out; clear BX1
  have bx2 := BX2.out.gr HG.out; clear BX2
  have lx1 := bx1.cells; have fx1 := bx1.free
  have r0 := Gr.refl vw2
  have BX1 := Lib.hid bx1; clear bx1
  have BX2 := Lib.hid bx2; clear bx2
  go_wp2
  refine hK.out _ _ ?_; clear hK K
  show Code.wp _ _ _ _ _
  clear lx1 fx1
  clear r0
  refine forgetW (fun w2 => Bx w2 (w.heap.size + 1) 36 #[.int .u64 ((lo (Int.natAbs ((z).num)) : Nat) : Int), .string (bg (Int.natAbs ((z).num))), .bool (decide (((z).num) < 0)), .int .u64 ((lo ((z).den - 1) : Nat) : Int), .string (bg ((z).den - 1))] ∧ Below w.heap.size w w2) ⟨((((((BX1.out).set 0 _).set 1 _).set 2 _).set 3 _).set 4 _).eq (by simp only [List.setIfInBounds_toArray, List.set_cons_zero, List.set_cons_succ]), (((((HB.out.trans (HG.out.mono HB.out.size)).setCell (by show w.heap.size ≤ w.heap.size + 1; omega) _).setCell (by show w.heap.size ≤ w.heap.size + 1; omega) _).setCell (by show w.heap.size ≤ w.heap.size + 1; omega) _).setCell (by show w.heap.size ≤ w.heap.size + 1; omega) _).setCell (by show w.heap.size ≤ w.heap.size + 1; omega) _⟩ ?_
  clear HB HG BX1 BX2
  rintro Wx2 ⟨bx1, HB⟩
  replace HB := Lib.hid HB
  refine wp_ret ?_
  try simp only [Exit.then, Exit.inBlock]
  have lx1 := bx1.cells
  have r0 := Gr.refl Wx2
  exact bodyPost_ret (v := .agg #[.int .u64 ((lo (Int.natAbs ((z).num)) : Nat) : Int), .string (bg (Int.natAbs ((z).num))), .bool (decide (((z).num) < 0)), .int .u64 ((lo ((z).den - 1) : Nat) : Int), .string (bg ((z).den - 1))]) (by simp [results, Try.results28, go_sem, lx1 _ r0]) rfl ⟨rfl, HB.out⟩

/-- the number that a pair stands for -/
def qv (n d : Int) : Rat := (n : Rat) / ((max d 1 : Int) : Rat)
theorem qv_any (n d : Int) (z : Rat) (w : World) (hz : qv n d = z) (h1 : -9223372036854775808 ≤ n) (h2 : n ≤ 9223372036854775807) (h3 : 0 ≤ d) (h4 : d ≤ 4294967295) :
    Calls Try.prog 28 #[.agg #[.int .i64 n, .int .u32 d]] w fun e w' => e = .returned (Value.agg #[.int .u64 ((lo (Int.natAbs ((z).num)) : Nat) : Int), .string (bg (Int.natAbs ((z).num))), .bool (decide (((z).num) < 0)), .int .u64 ((lo ((z).den - 1) : Nat) : Int), .string (bg ((z).den - 1))]) ∧ Below w.heap.size w w' := qof_any n d (max d 1) z w rfl hz h1 h2 h3 h4
theorem sz_qv (n d : Int) (h1 : -9223372036854775808 ≤ n) (h2 : n ≤ 9223372036854775807) (h3 : 0 ≤ d) (h4 : d ≤ 4294967295) : sz (qv n d) ≤ 4 := sz_quot n (max d 1) h1 h2 (by omega) (by omega)

set_option maxHeartbeats 1000000 in
theorem pof_any (n0x d0x n0y d0y : Int) (z1 z2 : Rat) (w : World) (hz1 : qv n0x d0x = z1) (hz2 : qv n0y d0y = z2) (h1_0x : -9223372036854775808 ≤ n0x) (h2_0x : n0x ≤ 9223372036854775807) (h3_0x : 0 ≤ d0x) (h4_0x : d0x ≤ 4294967295) (h1_0y : -9223372036854775808 ≤ n0y) (h2_0y : n0y ≤ 9223372036854775807) (h3_0y : 0 ≤ d0y) (h4_0y : d0y ≤ 4294967295) :
    Calls Try.prog 7 #[(Value.agg #[.int .i64 (n0x), .int .u32 (d0x), .int .i64 (n0y), .int .u32 (d0y)])] w fun e w' => e = .returned (.agg #[.int .u64 ((lo (Int.natAbs ((z1).num)) : Nat) : Int), .string (bg (Int.natAbs ((z1).num))), .bool (decide (((z1).num) < 0)), .int .u64 ((lo ((z1).den - 1) : Nat) : Int), .string (bg ((z1).den - 1)), .int .u64 ((lo (Int.natAbs ((z2).num)) : Nat) : Int), .string (bg (Int.natAbs ((z2).num))), .bool (decide (((z2).num) < 0)), .int .u64 ((lo ((z2).den - 1) : Nat) : Int), .string (bg ((z2).den - 1))]) ∧ Below w.heap.size w w' := by
  replace hz1 := Lib.hid hz1
  replace hz2 := Lib.hid hz2
  go_enter Try.func7, Try.ntmps7
  -- region 0
  refine wp_seq_k fun K hK => ?_
  replace hK := Lib.hid hK
  refine wp_region_lit ?_
  go_wp2
  refine hK.out _ _ ?_; clear hK K
  show Code.wp _ _ _ _ _
  refine forgetW (fun w2 => Bx w2 (w.heap.size) 26 #[.int .i64 (n0x), .int .u32 (d0x), .int .i64 (n0y), .int .u32 (d0y)] ∧ Bx w2 (w.heap.size + 1) 38 #[.int .u64 0, .string ⟨#[]⟩, .bool false, .int .u64 0, .string ⟨#[]⟩, .int .u64 0, .string ⟨#[]⟩, .bool false, .int .u64 0, .string ⟨#[]⟩] ∧ Below w.heap.size w w2) ⟨(Bx.at rfl).alloc _, Bx.at (by simp), ((Below.refl _ _).alloc (Nat.le_refl _) _).alloc (by simp) _⟩ ?_
  rintro Wx ⟨bx0, bx1, HB⟩
  replace HB := Lib.hid HB
  -- region 1
  have HZ1 : Hid (qv (n0x) (d0x) = z1) := Lib.hid (hz1.out)
  have HZ2 : Hid (qv (n0y) (d0y) = z2) := Lib.hid (hz2.out)
  have lx0 := bx0.cells
  have BX0 := Lib.hid bx0
  have BX1 := Lib.hid bx1
  clear bx0 bx1
  refine wp_seq_k fun K hK => ?_
  replace hK := Lib.hid hK
  refine wp_region_plan 7 [] [] (fun _ => 0) (fun _ => .cells #[] 0) [(true, 0), (true, 1), (true, 3), (true, 4), (true, 2), (true, 5), (true, 6)] (by kernel_rfl) (by kernel_rfl) (fun i hi => by cases hi) (fun i hi => by cases hi) (fun _ _ _ _ _ h => h) (fun T hT => ?_)
  iterate 4
    refine wpPlan_takeL (v := ?_) rfl (by rfl) (fun w' hw => ?_) ?_
    rotate_left
    · go_simp
      with_reducible rfl
    simp only [Act.put, List.setIfInBounds_toArray, List.set_cons_zero, List.set_cons_succ]
  refine wpPlan_callL rfl (by rfl) Try.call28 (fun w' hw => qv_any (n0x) (d0x) (z1) _ HZ1.out (by first | omega | exact Nat.le_trans (wl_small (by decide)) (by decide)) (by first | omega | exact Nat.le_trans (wl_small (by decide)) (by decide)) (by first | omega | exact Nat.le_trans (wl_small (by decide)) (by decide)) (by first | omega | exact Nat.le_trans (wl_small (by decide)) (by decide))) (by rfl) ?_
  simp only [Act.put, List.setIfInBounds_toArray, List.set_cons_zero, List.set_cons_succ]
  refine wpPlan_callL rfl (by rfl) Try.call28 (fun w' hw => qv_any (n0y) (d0y) (z2) _ HZ2.out (by first | omega | exact Nat.le_trans (wl_small (by decide)) (by decide)) (by first | omega | exact Nat.le_trans (wl_small (by decide)) (by decide)) (by first | omega | exact Nat.le_trans (wl_small (by decide)) (by decide)) (by first | omega | exact Nat.le_trans (wl_small (by decide)) (by decide))) (by rfl) ?_
  simp only [Act.put, List.setIfInBounds_toArray, List.set_cons_zero, List.set_cons_succ]
  iterate 1
    refine wpPlan_takeL (v := ?_) rfl (by rfl) (fun w' hw => ?_) ?_
    rotate_left
    · go_simp
      with_reducible rfl
    simp only [Act.put, List.setIfInBounds_toArray, List.set_cons_zero, List.set_cons_succ]
  refine wpPlan_nil (hT.out _ _ ?_); clear hT T
  intro G vw1 hg hf
  simp only [puts, Act.put, List.setIfInBounds_toArray, List.set_cons_zero, List.set_cons_succ, List.drop_succ_cons, List.drop_zero, ↓reduceIte, Nat.reduceEqDiff]
  clear lx0
  have HG := Lib.hid (hg)
  clear hg
  have bx0 := BX0.out.gr HG.out; clear BX0
  have bx1 := BX1.out.gr HG.out; clear BX1
  have lx1 := bx1.cells; have fx1 := bx1.free
  have r0 := Gr.refl vw1
  have BX0 := Lib.hid bx0; clear bx0
  have BX1 := Lib.hid bx1; clear bx1
  go_wp2
  refine hK.out _ _ ?_; clear hK K
  show Code.wp _ _ _ _ _
  clear lx1 fx1
  clear r0
  refine forgetW (fun w2 => Bx w2 (w.heap.size + 1) 38 #[.int .u64 ((lo (Int.natAbs ((z1).num)) : Nat) : Int), .string (bg (Int.natAbs ((z1).num))), .bool (decide (((z1).num) < 0)), .int .u64 ((lo ((z1).den - 1) : Nat) : Int), .string (bg ((z1).den - 1)), .int .u64 ((lo (Int.natAbs ((z2).num)) : Nat) : Int), .string (bg (Int.natAbs ((z2).num))), .bool (decide (((z2).num) < 0)), .int .u64 ((lo ((z2).den - 1) : Nat) : Int), .string (bg ((z2).den - 1))] ∧ Below w.heap.size w w2) ⟨(((((((((((BX1.out).set 0 _).set 1 _).set 2 _).set 3 _).set 4 _).set 5 _).set 6 _).set 7 _).set 8 _).set 9 _).eq (by simp only [List.setIfInBounds_toArray, List.set_cons_zero, List.set_cons_succ]), ((((((((((HB.out.trans (HG.out.mono HB.out.size)).setCell (by show w.heap.size ≤ w.heap.size + 1; omega) _).setCell (by show w.heap.size ≤ w.heap.size + 1; omega) _).setCell (by show w.heap.size ≤ w.heap.size + 1; omega) _).setCell (by show w.heap.size ≤ w.heap.size + 1; omega) _).setCell (by show w.heap.size ≤ w.heap.size + 1; omega) _).setCell (by show w.heap.size ≤ w.heap.size + 1; omega) _).setCell (by show w.heap.size ≤ w.heap.size + 1; omega) _).setCell (by show w.heap.size ≤ w.heap.size + 1; omega) _).setCell (by show w.heap.size ≤ w.heap.size + 1; omega) _).setCell (by show w.heap.size ≤ w.heap.size + 1; omega) _⟩ ?_
  clear HB HG BX0 BX1
  rintro Wx1 ⟨bx1, HB⟩
  replace HB := Lib.hid HB
  refine wp_ret ?_
  try simp only [Exit.then, Exit.inBlock]
  have lx1 := bx1.cells
  have r0 := Gr.refl Wx1
  exact bodyPost_ret (v := .agg #[.int .u64 ((lo (Int.natAbs ((z1).num)) : Nat) : Int), .string (bg (Int.natAbs ((z1).num))), .bool (decide (((z1).num) < 0)), .int .u64 ((lo ((z1).den - 1) : Nat) : Int), .string (bg ((z1).den - 1)), .int .u64 ((lo (Int.natAbs ((z2).num)) : Nat) : Int), .string (bg (Int.natAbs ((z2).num))), .bool (decide (((z2).num) < 0)), .int .u64 ((lo ((z2).den - 1) : Nat) : Int), .string (bg ((z2).den - 1))]) (by simp [results, Try.results7, go_sem, lx1 _ r0]) rfl ⟨rfl, HB.out⟩

theorem sgQ_bd (q : Rat) : -1 ≤ sgQ q ∧ sgQ q ≤ 1 := by unfold sgQ; split; decide; split <;> decide
theorem sgQ_negate (q : Rat) : sgQ (-q) = -sgQ q := by
  unfold sgQ
  by_cases h : q = 0
  · subst h; simp
  · have h2 : ¬ (-q = 0) := by grind
    rw [if_neg h, if_neg h2]
    by_cases h3 : q < 0
    · have : ¬ (-q < 0) := by grind
      rw [if_pos h3, if_neg this]; rfl
    · have : -q < 0 := by grind
      rw [if_neg h3, if_pos this]
theorem turn_swap (a1 a2 b1 b2 c1 c2 : Rat) : turn b1 b2 a1 a2 c1 c2 = -turn a1 a2 b1 b2 c1 c2 := by
  unfold turn; rw [← sgQ_negate]; congr 1; grind
theorem turn_rot (a1 a2 b1 b2 c1 c2 : Rat) : turn b1 b2 c1 c2 a1 a2 = turn a1 a2 b1 b2 c1 c2 := by
  unfold turn; congr 1; grind
theorem turn_move (a1 a2 b1 b2 c1 c2 x y : Rat) : turn (a1 + x) (a2 + y) (b1 + x) (b2 + y) (c1 + x) (c2 + y) = turn a1 a2 b1 b2 c1 c2 := by
  unfold turn; congr 1; grind
theorem five (b1 b2 c1 c2 d1 d2 e1 e2 : Rat) : (b1 * c2 - b2 * c1) * (d1 * e2 - d2 * e1) - (b1 * d2 - b2 * d1) * (c1 * e2 - c2 * e1) + (b1 * e2 - b2 * e1) * (c1 * d2 - c2 * d1) = 0 := by grind

end Go.Proofs.Ytenpbnmmadbkdaa
