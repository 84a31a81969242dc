/- the examples of the chapter. -/
import Derived.Test.YtenpbnmmadbkdaaHit
namespace Go.Proofs.Ytenpbnmmadbkdaa
open Go.RowKit
set_option linter.unusedSimpArgs false
set_option linter.unusedVariables false
attribute [local go_sem ↓] Go.wp_at_zero Go.wp_at_succ
attribute [local go_sem ↓] eq_nat eq_nat_zero eq_int eq_frac eq_pt
/-- an integer as a number -/
def qn (n : Int) : Rat := (n : Rat)
theorem sz_qn (n : Int) (h1 : -9223372036854775808 ≤ n := by decide) (h2 : n ≤ 9223372036854775807 := by decide) : sz (qn n) ≤ 2 := sz_int64 h1 h2

set_option maxHeartbeats 4000000 in
theorem lives_any (w : World) :
    Calls Try.prog 16 #[] w fun e w' => e = .returned (.bool true) ∧ Below w.heap.size w w' := by
  go_enter Try.func16, Try.ntmps16
  -- region 0
  refine wp_seq_k fun K hK => ?_
  replace hK := Lib.hid hK
  refine wp_region_lit ?_
  go_wp2
  refine hK.out _ _ ?_; clear hK K
  show Code.wp _ _ _ _ _
  refine forgetW (fun w2 => Below w.heap.size w w2) (Below.refl _ _) ?_
  rintro Wx HB
  replace HB := Lib.hid HB
  -- region 1
  have hqn_0 : sz (qn 0) ≤ 2 := sz_qn 0
  refine wp_seq_k fun K hK => ?_
  replace hK := Lib.hid hK
  refine wp_region_seqplan 1 [(true, 0)] (by rfl) (by simp) (fun T hT => ?_)
  refine wpPlan_callL rfl (by rfl) Try.call23 (fun w' hw => ppint_any 0 0 (qn 0) (qn 0) _ rfl rfl (by decide) (by decide) (by decide) (by decide)) (by rfl) ?_
  simp only [Act.put, List.setIfInBounds_toArray, List.set_cons_zero, List.set_cons_succ]
  refine wpPlan_nil (hT.out _ _ ?_); clear hT T
  intro vw1 hg
  simp only [puts, Act.put, List.setIfInBounds_toArray, List.set_cons_zero, List.set_cons_succ, List.drop_succ_cons, List.drop_zero, ↓reduceIte, Nat.reduceEqDiff]
  have HG := Lib.hid (hg)
  clear hg
  have r0 := Gr.refl vw1
  go_wp2
  refine hK.out _ _ ?_; clear hK K
  show Code.wp _ _ _ _ _
  clear r0
  have hsz : w.heap.size ≤ vw1.heap.size := Nat.le_trans HB.out.size HG.out.size
  refine forgetW (fun w2 => Bx w2 (vw1.heap.size) 38 #[.int .u64 ((lo (Int.natAbs ((qn 0).num)) : Nat) : Int), .string (bg (Int.natAbs ((qn 0).num))), .bool (decide (((qn 0).num) < 0)), .int .u64 ((lo ((qn 0).den - 1) : Nat) : Int), .string (bg ((qn 0).den - 1)), .int .u64 ((lo (Int.natAbs ((qn 0).num)) : Nat) : Int), .string (bg (Int.natAbs ((qn 0).num))), .bool (decide (((qn 0).num) < 0)), .int .u64 ((lo ((qn 0).den - 1) : Nat) : Int), .string (bg ((qn 0).den - 1))] ∧ Below w.heap.size w w2) ⟨(Bx.at (by simp) : Bx _ (vw1.heap.size) _ _), (HB.out.trans (HG.out.mono HB.out.size)).alloc (by first | omega | (simp; omega)) _⟩ ?_
  clear HB HG
  rintro Wx1 ⟨bx0, HB⟩
  replace HB := Lib.hid HB
  have yx0 : w.heap.size ≤ vw1.heap.size := by omega
  generalize hx0 : vw1.heap.size = gx0 at *
  clear hx0
  clear hsz
  -- region 2
  have hqn_2 : sz (qn 2) ≤ 2 := sz_qn 2
  have lx0 := bx0.cells
  have BX0 := Lib.hid bx0
  clear bx0
  refine wp_seq_k fun K hK => ?_
  replace hK := Lib.hid hK
  refine wp_region_plan 10 [8] [] (fun _ => 3) (fun _ => .cells #[.int .u64 0, .string ⟨#[]⟩, .bool false, .int .u64 0, .string ⟨#[]⟩, .int .u64 0, .string ⟨#[]⟩, .bool false, .int .u64 0, .string ⟨#[]⟩] 38) [(true, 0), (true, 1), (true, 2), (true, 3), (true, 4), (true, 5), (true, 6), (true, 7), (true, 9)] (by kernel_rfl) (by kernel_rfl) (by intro i hi; simp only [List.mem_cons, List.not_mem_nil, or_false] at hi; rcases hi with rfl <;> exact ⟨_, rfl, rfl, rfl, by simp, fun ρ w => by kernel_rfl⟩) (fun i hi => by cases hi) (fun _ _ _ _ _ h => h) (fun T hT => ?_)
  iterate 1
    refine wpPlan_takeL (v := ?_) rfl (by rfl) (fun w' hw => ?_) ?_
    rotate_left
    · go_simp
      with_reducible rfl
    simp only [Act.put, List.setIfInBounds_toArray, List.set_cons_zero, List.set_cons_succ]
  refine wpPlan_callL rfl (by rfl) Try.call23 (fun w' hw => ppint_any 2 2 (qn 2) (qn 2) _ rfl rfl (by decide) (by decide) (by decide) (by decide)) (by rfl) ?_
  simp only [Act.put, List.setIfInBounds_toArray, List.set_cons_zero, List.set_cons_succ]
  refine wpPlan_callL rfl (by rfl) Try.call23 (fun w' hw => ppint_any 0 2 (qn 0) (qn 2) _ rfl rfl (by decide) (by decide) (by decide) (by decide)) (by rfl) ?_
  simp only [Act.put, List.setIfInBounds_toArray, List.set_cons_zero, List.set_cons_succ]
  refine wpPlan_callL rfl (by rfl) Try.call23 (fun w' hw => ppint_any 2 0 (qn 2) (qn 0) _ rfl rfl (by decide) (by decide) (by decide) (by decide)) (by rfl) ?_
  simp only [Act.put, List.setIfInBounds_toArray, List.set_cons_zero, List.set_cons_succ]
  refine wpPlan_callL rfl (by rfl) Try.call21 (fun w' hw => pcut_one_0 (qn 0) (qn 0) (qn 2) (qn 2) (qn 0) (qn 2) (qn 2) (qn 0) 1 (-1) (-1) 1 (-1) (-1) (qn (-8)) (qn 1) (qn 1) _ (Lib.hid (by decide +kernel)) (Lib.hid (by decide +kernel)) (Lib.hid (by decide +kernel)) (Lib.hid (by decide +kernel)) rfl (by decide) (by decide) (by decide) (by decide) (Lib.hid (by decide +kernel)) (Lib.hid (by decide +kernel)) (Nat.le_trans (sz_qn (-8)) (by decide)) (Lib.hid (by decide +kernel)) (Lib.hid (by decide +kernel)) (by first | omega | exact Nat.le_trans (wl_small (by decide)) (by decide)) (by first | omega | exact Nat.le_trans (wl_small (by decide)) (by decide)) (by first | omega | exact Nat.le_trans (wl_small (by decide)) (by decide)) (by first | omega | exact Nat.le_trans (wl_small (by decide)) (by decide)) (by first | omega | exact Nat.le_trans (wl_small (by decide)) (by decide)) (by first | omega | exact Nat.le_trans (wl_small (by decide)) (by decide)) (by first | omega | exact Nat.le_trans (wl_small (by decide)) (by decide)) (by first | omega | exact Nat.le_trans (wl_small (by decide)) (by decide))) (by rfl) ?_
  simp only [Act.put, List.setIfInBounds_toArray, List.set_cons_zero, List.set_cons_succ]
  iterate 4
    refine wpPlan_takeL (v := ?_) rfl (by rfl) (fun w' hw => ?_) ?_
    rotate_left
    · go_simp
      with_reducible rfl
    simp only [Act.put, List.setIfInBounds_toArray, List.set_cons_zero, List.set_cons_succ]
  refine wpPlan_nil (hT.out _ _ ?_); clear hT T
  intro G vw2 hg hf
  simp only [puts, Act.put, List.setIfInBounds_toArray, List.set_cons_zero, List.set_cons_succ, List.drop_succ_cons, List.drop_zero, ↓reduceIte, Nat.reduceEqDiff]
  clear lx0
  have HG := Lib.hid (hg)
  clear hg
  have bx1 := Bx.of_fresh hf (i := 8) (by decide) rfl
  have yx1 := (hf.1 8 (by decide)).1
  clear hf
  generalize G 8 = gx1 at *
  have qx0_1 : gx0 < gx1 := Nat.lt_of_lt_of_le BX0.out.lt yx1
  replace yx1 : w.heap.size ≤ gx1 := Nat.le_trans HB.out.size yx1
  have bx0 := BX0.out.gr HG.out; clear BX0
  have lx1 := bx1.cells; have fx1 := bx1.free
  have r0 := Gr.refl vw2
  have BX0 := Lib.hid bx0; clear bx0
  have BX1 := Lib.hid bx1; clear bx1
  go_wp2
  refine hK.out _ _ ?_; clear hK K
  show Code.wp _ _ _ _ _
  clear lx1 fx1
  clear r0
  refine forgetW (fun w2 => Bx w2 gx0 38 #[.int .u64 ((lo (Int.natAbs ((qn 0).num)) : Nat) : Int), .string (bg (Int.natAbs ((qn 0).num))), .bool (decide (((qn 0).num) < 0)), .int .u64 ((lo ((qn 0).den - 1) : Nat) : Int), .string (bg ((qn 0).den - 1)), .int .u64 ((lo (Int.natAbs ((qn 0).num)) : Nat) : Int), .string (bg (Int.natAbs ((qn 0).num))), .bool (decide (((qn 0).num) < 0)), .int .u64 ((lo ((qn 0).den - 1) : Nat) : Int), .string (bg ((qn 0).den - 1))] ∧ Bx w2 gx1 38 #[.int .u64 ((lo (Int.natAbs ((qn 1).num)) : Nat) : Int), .string (bg (Int.natAbs ((qn 1).num))), .bool (decide (((qn 1).num) < 0)), .int .u64 ((lo ((qn 1).den - 1) : Nat) : Int), .string (bg ((qn 1).den - 1)), .int .u64 ((lo (Int.natAbs ((qn 1).num)) : Nat) : Int), .string (bg (Int.natAbs ((qn 1).num))), .bool (decide (((qn 1).num) < 0)), .int .u64 ((lo ((qn 1).den - 1) : Nat) : Int), .string (bg ((qn 1).den - 1))] ∧ Below w.heap.size w w2) ⟨((((((((((BX0.out).setOther (by show gx0 ≠ gx1; omega) _).setOther (by show gx0 ≠ gx1; omega) _).setOther (by show gx0 ≠ gx1; omega) _).setOther (by show gx0 ≠ gx1; omega) _).setOther (by show gx0 ≠ gx1; omega) _).setOther (by show gx0 ≠ gx1; omega) _).setOther (by show gx0 ≠ gx1; omega) _).setOther (by show gx0 ≠ gx1; omega) _).setOther (by show gx0 ≠ gx1; omega) _).setOther (by show gx0 ≠ gx1; omega) _, (((((((((((BX1.out).set 0 _).set 1 _).set 2 _).set 3 _).set 4 _).set 5 _).set 6 _).set 7 _).set 8 _).set 9 _).eq (by simp only [List.setIfInBounds_toArray, List.set_cons_zero, List.set_cons_succ]), ((((((((((HB.out.trans (HG.out.mono HB.out.size)).setCell (by show w.heap.size ≤ gx1; omega) _).setCell (by show w.heap.size ≤ gx1; omega) _).setCell (by show w.heap.size ≤ gx1; omega) _).setCell (by show w.heap.size ≤ gx1; omega) _).setCell (by show w.heap.size ≤ gx1; omega) _).setCell (by show w.heap.size ≤ gx1; omega) _).setCell (by show w.heap.size ≤ gx1; omega) _).setCell (by show w.heap.size ≤ gx1; omega) _).setCell (by show w.heap.size ≤ gx1; omega) _).setCell (by show w.heap.size ≤ gx1; omega) _⟩ ?_
  clear HB HG BX0 BX1
  rintro Wx2 ⟨bx0, bx1, HB⟩
  replace HB := Lib.hid HB
  -- region 3
  have hqn_1 : sz (qn 1) ≤ 2 := sz_qn 1
  have hqn_3 : sz (qn 3) ≤ 2 := sz_qn 3
  have lx0 := bx0.cells
  have BX0 := Lib.hid bx0
  have BX1 := Lib.hid bx1
  clear bx0 bx1
  refine wp_seq_k fun K hK => ?_
  replace hK := Lib.hid hK
  refine wp_region_plan 10 [8] [] (fun _ => 5) (fun _ => .cells #[.int .u64 0, .string ⟨#[]⟩, .bool false, .int .u64 0, .string ⟨#[]⟩, .int .u64 0, .string ⟨#[]⟩, .bool false, .int .u64 0, .string ⟨#[]⟩] 38) [(true, 0), (true, 1), (true, 2), (true, 3), (true, 4), (true, 5), (true, 6), (true, 7), (true, 9)] (by kernel_rfl) (by kernel_rfl) (by intro i hi; simp only [List.mem_cons, List.not_mem_nil, or_false] at hi; rcases hi with rfl <;> exact ⟨_, rfl, rfl, rfl, by simp, fun ρ w => by kernel_rfl⟩) (fun i hi => by cases hi) (fun _ _ _ _ _ h => h) (fun T hT => ?_)
  iterate 1
    refine wpPlan_takeL (v := ?_) rfl (by rfl) (fun w' hw => ?_) ?_
    rotate_left
    · go_simp
      with_reducible rfl
    simp only [Act.put, List.setIfInBounds_toArray, List.set_cons_zero, List.set_cons_succ]
  refine wpPlan_callL rfl (by rfl) Try.call23 (fun w' hw => ppint_any 2 0 (qn 2) (qn 0) _ rfl rfl (by decide) (by decide) (by decide) (by decide)) (by rfl) ?_
  simp only [Act.put, List.setIfInBounds_toArray, List.set_cons_zero, List.set_cons_succ]
  refine wpPlan_callL rfl (by rfl) Try.call23 (fun w' hw => ppint_any 1 0 (qn 1) (qn 0) _ rfl rfl (by decide) (by decide) (by decide) (by decide)) (by rfl) ?_
  simp only [Act.put, List.setIfInBounds_toArray, List.set_cons_zero, List.set_cons_succ]
  refine wpPlan_callL rfl (by rfl) Try.call23 (fun w' hw => ppint_any 3 0 (qn 3) (qn 0) _ rfl rfl (by decide) (by decide) (by decide) (by decide)) (by rfl) ?_
  simp only [Act.put, List.setIfInBounds_toArray, List.set_cons_zero, List.set_cons_succ]
  refine wpPlan_callL rfl (by rfl) Try.call21 (fun w' hw => pcut_piece (qn 0) (qn 0) (qn 2) (qn 0) (qn 1) (qn 0) (qn 3) (qn 0) 0 0 0 0 2 (qn 1) (qn 0) _ (Lib.hid (by decide +kernel)) (Lib.hid (by decide +kernel)) (Lib.hid (by decide +kernel)) (Lib.hid (by decide +kernel)) rfl rfl rfl rfl (Lib.hid (by decide +kernel)) (by first | omega | exact Nat.le_trans (wl_small (by decide)) (by decide)) (by first | omega | exact Nat.le_trans (wl_small (by decide)) (by decide)) (by first | omega | exact Nat.le_trans (wl_small (by decide)) (by decide)) (by first | omega | exact Nat.le_trans (wl_small (by decide)) (by decide)) (by first | omega | exact Nat.le_trans (wl_small (by decide)) (by decide)) (by first | omega | exact Nat.le_trans (wl_small (by decide)) (by decide)) (by first | omega | exact Nat.le_trans (wl_small (by decide)) (by decide)) (by first | omega | exact Nat.le_trans (wl_small (by decide)) (by decide))) (by rfl) ?_
  simp only [Act.put, List.setIfInBounds_toArray, List.set_cons_zero, List.set_cons_succ]
  iterate 4
    refine wpPlan_takeL (v := ?_) rfl (by rfl) (fun w' hw => ?_) ?_
    rotate_left
    · go_simp
      with_reducible rfl
    simp only [Act.put, List.setIfInBounds_toArray, List.set_cons_zero, List.set_cons_succ]
  refine wpPlan_nil (hT.out _ _ ?_); clear hT T
  intro G vw3 hg hf
  simp only [puts, Act.put, List.setIfInBounds_toArray, List.set_cons_zero, List.set_cons_succ, List.drop_succ_cons, List.drop_zero, ↓reduceIte, Nat.reduceEqDiff]
  clear lx0
  have HG := Lib.hid (hg)
  clear hg
  have bx2 := Bx.of_fresh hf (i := 8) (by decide) rfl
  have yx2 := (hf.1 8 (by decide)).1
  clear hf
  generalize G 8 = gx2 at *
  have qx0_2 : gx0 < gx2 := Nat.lt_of_lt_of_le BX0.out.lt yx2
  have qx1_2 : gx1 < gx2 := Nat.lt_of_lt_of_le BX1.out.lt yx2
  replace yx2 : w.heap.size ≤ gx2 := Nat.le_trans HB.out.size yx2
  have bx0 := BX0.out.gr HG.out; clear BX0
  have bx1 := BX1.out.gr HG.out; clear BX1
  have lx2 := bx2.cells; have fx2 := bx2.free
  have r0 := Gr.refl vw3
  have BX0 := Lib.hid bx0; clear bx0
  have BX1 := Lib.hid bx1; clear bx1
  have BX2 := Lib.hid bx2; clear bx2
  go_wp2
  refine hK.out _ _ ?_; clear hK K
  show Code.wp _ _ _ _ _
  clear lx2 fx2
  clear r0
  refine forgetW (fun w2 => Bx w2 gx0 38 #[.int .u64 ((lo (Int.natAbs ((qn 0).num)) : Nat) : Int), .string (bg (Int.natAbs ((qn 0).num))), .bool (decide (((qn 0).num) < 0)), .int .u64 ((lo ((qn 0).den - 1) : Nat) : Int), .string (bg ((qn 0).den - 1)), .int .u64 ((lo (Int.natAbs ((qn 0).num)) : Nat) : Int), .string (bg (Int.natAbs ((qn 0).num))), .bool (decide (((qn 0).num) < 0)), .int .u64 ((lo ((qn 0).den - 1) : Nat) : Int), .string (bg ((qn 0).den - 1))] ∧ Bx w2 gx1 38 #[.int .u64 ((lo (Int.natAbs ((qn 1).num)) : Nat) : Int), .string (bg (Int.natAbs ((qn 1).num))), .bool (decide (((qn 1).num) < 0)), .int .u64 ((lo ((qn 1).den - 1) : Nat) : Int), .string (bg ((qn 1).den - 1)), .int .u64 ((lo (Int.natAbs ((qn 1).num)) : Nat) : Int), .string (bg (Int.natAbs ((qn 1).num))), .bool (decide (((qn 1).num) < 0)), .int .u64 ((lo ((qn 1).den - 1) : Nat) : Int), .string (bg ((qn 1).den - 1))] ∧ Bx w2 gx2 38 #[.int .u64 ((lo (Int.natAbs ((qn 1).num)) : Nat) : Int), .string (bg (Int.natAbs ((qn 1).num))), .bool (decide (((qn 1).num) < 0)), .int .u64 ((lo ((qn 1).den - 1) : Nat) : Int), .string (bg ((qn 1).den - 1)), .int .u64 ((lo (Int.natAbs ((qn 0).num)) : Nat) : Int), .string (bg (Int.natAbs ((qn 0).num))), .bool (decide (((qn 0).num) < 0)), .int .u64 ((lo ((qn 0).den - 1) : Nat) : Int), .string (bg ((qn 0).den - 1))] ∧ Below w.heap.size w w2) ⟨((((((((((BX0.out).setOther (by show gx0 ≠ gx2; omega) _).setOther (by show gx0 ≠ gx2; omega) _).setOther (by show gx0 ≠ gx2; omega) _).setOther (by show gx0 ≠ gx2; omega) _).setOther (by show gx0 ≠ gx2; omega) _).setOther (by show gx0 ≠ gx2; omega) _).setOther (by show gx0 ≠ gx2; omega) _).setOther (by show gx0 ≠ gx2; omega) _).setOther (by show gx0 ≠ gx2; omega) _).setOther (by show gx0 ≠ gx2; omega) _, ((((((((((BX1.out).setOther (by show gx1 ≠ gx2; omega) _).setOther (by show gx1 ≠ gx2; omega) _).setOther (by show gx1 ≠ gx2; omega) _).setOther (by show gx1 ≠ gx2; omega) _).setOther (by show gx1 ≠ gx2; omega) _).setOther (by show gx1 ≠ gx2; omega) _).setOther (by show gx1 ≠ gx2; omega) _).setOther (by show gx1 ≠ gx2; omega) _).setOther (by show gx1 ≠ gx2; omega) _).setOther (by show gx1 ≠ gx2; omega) _, (((((((((((BX2.out).set 0 _).set 1 _).set 2 _).set 3 _).set 4 _).set 5 _).set 6 _).set 7 _).set 8 _).set 9 _).eq (by simp only [List.setIfInBounds_toArray, List.set_cons_zero, List.set_cons_succ]), ((((((((((HB.out.trans (HG.out.mono HB.out.size)).setCell (by show w.heap.size ≤ gx2; omega) _).setCell (by show w.heap.size ≤ gx2; omega) _).setCell (by show w.heap.size ≤ gx2; omega) _).setCell (by show w.heap.size ≤ gx2; omega) _).setCell (by show w.heap.size ≤ gx2; omega) _).setCell (by show w.heap.size ≤ gx2; omega) _).setCell (by show w.heap.size ≤ gx2; omega) _).setCell (by show w.heap.size ≤ gx2; omega) _).setCell (by show w.heap.size ≤ gx2; omega) _).setCell (by show w.heap.size ≤ gx2; omega) _⟩ ?_
  clear HB HG BX0 BX1 BX2
  rintro Wx3 ⟨bx0, bx1, bx2, HB⟩
  replace HB := Lib.hid HB
  -- region 4
  have BX0 := Lib.hid bx0
  have BX1 := Lib.hid bx1
  have BX2 := Lib.hid bx2
  clear bx0 bx1 bx2
  refine wp_seq_k fun K hK => ?_
  replace hK := Lib.hid hK
  refine wp_region_seqplan 1 [(true, 0)] (by rfl) (by simp) (fun T hT => ?_)
  refine wpPlan_callL rfl (by rfl) Try.call23 (fun w' hw => ppint_any 2 0 (qn 2) (qn 0) _ rfl rfl (by decide) (by decide) (by decide) (by decide)) (by rfl) ?_
  simp only [Act.put, List.setIfInBounds_toArray, List.set_cons_zero, List.set_cons_succ]
  refine wpPlan_nil (hT.out _ _ ?_); clear hT T
  intro vw4 hg
  simp only [puts, Act.put, List.setIfInBounds_toArray, List.set_cons_zero, List.set_cons_succ, List.drop_succ_cons, List.drop_zero, ↓reduceIte, Nat.reduceEqDiff]
  have HG := Lib.hid (hg)
  clear hg
  have bx0 := BX0.out.gr HG.out; clear BX0
  have bx1 := BX1.out.gr HG.out; clear BX1
  have bx2 := BX2.out.gr HG.out; clear BX2
  have r0 := Gr.refl vw4
  have BX0 := Lib.hid bx0; clear bx0
  have BX1 := Lib.hid bx1; clear bx1
  have BX2 := Lib.hid bx2; clear bx2
  go_wp2
  refine hK.out _ _ ?_; clear hK K
  show Code.wp _ _ _ _ _
  clear r0
  have hsz : w.heap.size ≤ vw4.heap.size := Nat.le_trans HB.out.size HG.out.size
  have mx0 : gx0 < vw4.heap.size := BX0.out.lt
  have mx1 : gx1 < vw4.heap.size := BX1.out.lt
  have mx2 : gx2 < vw4.heap.size := BX2.out.lt
  refine forgetW (fun w2 => Bx w2 gx0 38 #[.int .u64 ((lo (Int.natAbs ((qn 0).num)) : Nat) : Int), .string (bg (Int.natAbs ((qn 0).num))), .bool (decide (((qn 0).num) < 0)), .int .u64 ((lo ((qn 0).den - 1) : Nat) : Int), .string (bg ((qn 0).den - 1)), .int .u64 ((lo (Int.natAbs ((qn 0).num)) : Nat) : Int), .string (bg (Int.natAbs ((qn 0).num))), .bool (decide (((qn 0).num) < 0)), .int .u64 ((lo ((qn 0).den - 1) : Nat) : Int), .string (bg ((qn 0).den - 1))] ∧ Bx w2 gx1 38 #[.int .u64 ((lo (Int.natAbs ((qn 1).num)) : Nat) : Int), .string (bg (Int.natAbs ((qn 1).num))), .bool (decide (((qn 1).num) < 0)), .int .u64 ((lo ((qn 1).den - 1) : Nat) : Int), .string (bg ((qn 1).den - 1)), .int .u64 ((lo (Int.natAbs ((qn 1).num)) : Nat) : Int), .string (bg (Int.natAbs ((qn 1).num))), .bool (decide (((qn 1).num) < 0)), .int .u64 ((lo ((qn 1).den - 1) : Nat) : Int), .string (bg ((qn 1).den - 1))] ∧ Bx w2 gx2 38 #[.int .u64 ((lo (Int.natAbs ((qn 1).num)) : Nat) : Int), .string (bg (Int.natAbs ((qn 1).num))), .bool (decide (((qn 1).num) < 0)), .int .u64 ((lo ((qn 1).den - 1) : Nat) : Int), .string (bg ((qn 1).den - 1)), .int .u64 ((lo (Int.natAbs ((qn 0).num)) : Nat) : Int), .string (bg (Int.natAbs ((qn 0).num))), .bool (decide (((qn 0).num) < 0)), .int .u64 ((lo ((qn 0).den - 1) : Nat) : Int), .string (bg ((qn 0).den - 1))] ∧ Bx w2 (vw4.heap.size) 38 #[.int .u64 ((lo (Int.natAbs ((qn 2).num)) : Nat) : Int), .string (bg (Int.natAbs ((qn 2).num))), .bool (decide (((qn 2).num) < 0)), .int .u64 ((lo ((qn 2).den - 1) : Nat) : Int), .string (bg ((qn 2).den - 1)), .int .u64 ((lo (Int.natAbs ((qn 0).num)) : Nat) : Int), .string (bg (Int.natAbs ((qn 0).num))), .bool (decide (((qn 0).num) < 0)), .int .u64 ((lo ((qn 0).den - 1) : Nat) : Int), .string (bg ((qn 0).den - 1))] ∧ Below w.heap.size w w2) ⟨(BX0.out).alloc _, (BX1.out).alloc _, (BX2.out).alloc _, (Bx.at (by simp) : Bx _ (vw4.heap.size) _ _), (HB.out.trans (HG.out.mono HB.out.size)).alloc (by first | omega | (simp; omega)) _⟩ ?_
  clear HB HG BX0 BX1 BX2
  rintro Wx4 ⟨bx0, bx1, bx2, bx3, HB⟩
  replace HB := Lib.hid HB
  have yx3 : w.heap.size ≤ vw4.heap.size := by omega
  have qx0_3 : gx0 < vw4.heap.size := by omega
  have qx1_3 : gx1 < vw4.heap.size := by omega
  have qx2_3 : gx2 < vw4.heap.size := by omega
  generalize hx3 : vw4.heap.size = gx3 at *
  clear hx3
  clear hsz mx0 mx1 mx2
  -- region 5
  have BX0 := Lib.hid bx0
  have BX1 := Lib.hid bx1
  have BX2 := Lib.hid bx2
  have BX3 := Lib.hid bx3
  clear bx0 bx1 bx2 bx3
  refine wp_seq_k fun K hK => ?_
  replace hK := Lib.hid hK
  refine wp_region_seqplan 1 [(true, 0)] (by rfl) (by simp) (fun T hT => ?_)
  refine wpPlan_callL rfl (by rfl) Try.call23 (fun w' hw => ppint_any 0 2 (qn 0) (qn 2) _ rfl rfl (by decide) (by decide) (by decide) (by decide)) (by rfl) ?_
  simp only [Act.put, List.setIfInBounds_toArray, List.set_cons_zero, List.set_cons_succ]
  refine wpPlan_nil (hT.out _ _ ?_); clear hT T
  intro vw5 hg
  simp only [puts, Act.put, List.setIfInBounds_toArray, List.set_cons_zero, List.set_cons_succ, List.drop_succ_cons, List.drop_zero, ↓reduceIte, Nat.reduceEqDiff]
  have HG := Lib.hid (hg)
  clear hg
  have bx0 := BX0.out.gr HG.out; clear BX0
  have bx1 := BX1.out.gr HG.out; clear BX1
  have bx2 := BX2.out.gr HG.out; clear BX2
  have bx3 := BX3.out.gr HG.out; clear BX3
  have r0 := Gr.refl vw5
  have BX0 := Lib.hid bx0; clear bx0
  have BX1 := Lib.hid bx1; clear bx1
  have BX2 := Lib.hid bx2; clear bx2
  have BX3 := Lib.hid bx3; clear bx3
  go_wp2
  refine hK.out _ _ ?_; clear hK K
  show Code.wp _ _ _ _ _
  clear r0
  have hsz : w.heap.size ≤ vw5.heap.size := Nat.le_trans HB.out.size HG.out.size
  have mx0 : gx0 < vw5.heap.size := BX0.out.lt
  have mx1 : gx1 < vw5.heap.size := BX1.out.lt
  have mx2 : gx2 < vw5.heap.size := BX2.out.lt
  have mx3 : gx3 < vw5.heap.size := BX3.out.lt
  refine forgetW (fun w2 => Bx w2 gx0 38 #[.int .u64 ((lo (Int.natAbs ((qn 0).num)) : Nat) : Int), .string (bg (Int.natAbs ((qn 0).num))), .bool (decide (((qn 0).num) < 0)), .int .u64 ((lo ((qn 0).den - 1) : Nat) : Int), .string (bg ((qn 0).den - 1)), .int .u64 ((lo (Int.natAbs ((qn 0).num)) : Nat) : Int), .string (bg (Int.natAbs ((qn 0).num))), .bool (decide (((qn 0).num) < 0)), .int .u64 ((lo ((qn 0).den - 1) : Nat) : Int), .string (bg ((qn 0).den - 1))] ∧ Bx w2 gx1 38 #[.int .u64 ((lo (Int.natAbs ((qn 1).num)) : Nat) : Int), .string (bg (Int.natAbs ((qn 1).num))), .bool (decide (((qn 1).num) < 0)), .int .u64 ((lo ((qn 1).den - 1) : Nat) : Int), .string (bg ((qn 1).den - 1)), .int .u64 ((lo (Int.natAbs ((qn 1).num)) : Nat) : Int), .string (bg (Int.natAbs ((qn 1).num))), .bool (decide (((qn 1).num) < 0)), .int .u64 ((lo ((qn 1).den - 1) : Nat) : Int), .string (bg ((qn 1).den - 1))] ∧ Bx w2 gx2 38 #[.int .u64 ((lo (Int.natAbs ((qn 1).num)) : Nat) : Int), .string (bg (Int.natAbs ((qn 1).num))), .bool (decide (((qn 1).num) < 0)), .int .u64 ((lo ((qn 1).den - 1) : Nat) : Int), .string (bg ((qn 1).den - 1)), .int .u64 ((lo (Int.natAbs ((qn 0).num)) : Nat) : Int), .string (bg (Int.natAbs ((qn 0).num))), .bool (decide (((qn 0).num) < 0)), .int .u64 ((lo ((qn 0).den - 1) : Nat) : Int), .string (bg ((qn 0).den - 1))] ∧ Bx w2 gx3 38 #[.int .u64 ((lo (Int.natAbs ((qn 2).num)) : Nat) : Int), .string (bg (Int.natAbs ((qn 2).num))), .bool (decide (((qn 2).num) < 0)), .int .u64 ((lo ((qn 2).den - 1) : Nat) : Int), .string (bg ((qn 2).den - 1)), .int .u64 ((lo (Int.natAbs ((qn 0).num)) : Nat) : Int), .string (bg (Int.natAbs ((qn 0).num))), .bool (decide (((qn 0).num) < 0)), .int .u64 ((lo ((qn 0).den - 1) : Nat) : Int), .string (bg ((qn 0).den - 1))] ∧ Bx w2 (vw5.heap.size) 38 #[.int .u64 ((lo (Int.natAbs ((qn 0).num)) : Nat) : Int), .string (bg (Int.natAbs ((qn 0).num))), .bool (decide (((qn 0).num) < 0)), .int .u64 ((lo ((qn 0).den - 1) : Nat) : Int), .string (bg ((qn 0).den - 1)), .int .u64 ((lo (Int.natAbs ((qn 2).num)) : Nat) : Int), .string (bg (Int.natAbs ((qn 2).num))), .bool (decide (((qn 2).num) < 0)), .int .u64 ((lo ((qn 2).den - 1) : Nat) : Int), .string (bg ((qn 2).den - 1))] ∧ Below w.heap.size w w2) ⟨(BX0.out).alloc _, (BX1.out).alloc _, (BX2.out).alloc _, (BX3.out).alloc _, (Bx.at (by simp) : Bx _ (vw5.heap.size) _ _), (HB.out.trans (HG.out.mono HB.out.size)).alloc (by first | omega | (simp; omega)) _⟩ ?_
  clear HB HG BX0 BX1 BX2 BX3
  rintro Wx5 ⟨bx0, bx1, bx2, bx3, bx4, HB⟩
  replace HB := Lib.hid HB
  have yx4 : w.heap.size ≤ vw5.heap.size := by omega
  have qx0_4 : gx0 < vw5.heap.size := by omega
  have qx1_4 : gx1 < vw5.heap.size := by omega
  have qx2_4 : gx2 < vw5.heap.size := by omega
  have qx3_4 : gx3 < vw5.heap.size := by omega
  generalize hx4 : vw5.heap.size = gx4 at *
  clear hx4
  clear hsz mx0 mx1 mx2 mx3
  -- region 6
  have lx0 := bx0.cells
  have lx3 := bx3.cells
  have lx4 := bx4.cells
  have BX0 := Lib.hid bx0
  have BX1 := Lib.hid bx1
  have BX2 := Lib.hid bx2
  have BX3 := Lib.hid bx3
  have BX4 := Lib.hid bx4
  clear bx0 bx1 bx2 bx3 bx4
  refine wp_seq_k fun K hK => ?_
  replace hK := Lib.hid hK
  refine wp_region_plan 22 [] [] (fun _ => 0) (fun _ => .cells #[] 0) [(true, 0), (true, 1), (true, 2), (true, 3), (true, 4), (true, 5), (true, 6), (true, 7), (true, 8), (true, 9), (true, 10), (true, 11), (true, 12), (true, 13), (true, 14), (true, 15), (true, 16), (true, 17), (true, 18), (true, 19), (true, 20), (true, 21)] (by kernel_rfl) (by kernel_rfl) (fun i hi => by cases hi) (fun i hi => by cases hi) (fun _ _ _ _ _ h => h) (fun T hT => ?_)
  iterate 3
    refine wpPlan_takeL (v := ?_) rfl (by rfl) (fun w' hw => ?_) ?_
    rotate_left
    · go_simp
      with_reducible rfl
    simp only [Act.put, List.setIfInBounds_toArray, List.set_cons_zero, List.set_cons_succ]
  refine wpPlan_callL rfl (by rfl) Try.call23 (fun w' hw => ppint_any 2 2 (qn 2) (qn 2) _ rfl rfl (by decide) (by decide) (by decide) (by decide)) (by rfl) ?_
  simp only [Act.put, List.setIfInBounds_toArray, List.set_cons_zero, List.set_cons_succ]
  refine wpPlan_callL rfl (by rfl) Try.call17 (fun w' hw => pcircle_any (qn 0) (qn 0) (qn 2) (qn 0) (qn 0) (qn 2) (qn 2) (qn 2) (0) (1) (0) _ (by decide +kernel) (by decide +kernel) (by decide) (by first | omega | exact Nat.le_trans (wl_small (by decide)) (by decide)) (by first | omega | exact Nat.le_trans (wl_small (by decide)) (by decide)) (by first | omega | exact Nat.le_trans (wl_small (by decide)) (by decide)) (by first | omega | exact Nat.le_trans (wl_small (by decide)) (by decide)) (by first | omega | exact Nat.le_trans (wl_small (by decide)) (by decide)) (by first | omega | exact Nat.le_trans (wl_small (by decide)) (by decide)) (by first | omega | exact Nat.le_trans (wl_small (by decide)) (by decide)) (by first | omega | exact Nat.le_trans (wl_small (by decide)) (by decide))) (by rfl) ?_
  simp only [Act.put, List.setIfInBounds_toArray, List.set_cons_zero, List.set_cons_succ]
  iterate 5
    refine wpPlan_takeL (v := ?_) rfl (by rfl) (fun w' hw => ?_) ?_
    rotate_left
    · go_simp
      with_reducible rfl
    simp only [Act.put, List.setIfInBounds_toArray, List.set_cons_zero, List.set_cons_succ]
  refine wpPlan_callL rfl (by rfl) Try.call23 (fun w' hw => ppint_any 1 1 (qn 1) (qn 1) _ rfl rfl (by decide) (by decide) (by decide) (by decide)) (by rfl) ?_
  simp only [Act.put, List.setIfInBounds_toArray, List.set_cons_zero, List.set_cons_succ]
  refine wpPlan_callL rfl (by rfl) Try.call17 (fun w' hw => pcircle_any (qn 0) (qn 0) (qn 2) (qn 0) (qn 0) (qn 2) (qn 1) (qn 1) (1) (1) (1) _ (by decide +kernel) (by decide +kernel) (by decide) (by first | omega | exact Nat.le_trans (wl_small (by decide)) (by decide)) (by first | omega | exact Nat.le_trans (wl_small (by decide)) (by decide)) (by first | omega | exact Nat.le_trans (wl_small (by decide)) (by decide)) (by first | omega | exact Nat.le_trans (wl_small (by decide)) (by decide)) (by first | omega | exact Nat.le_trans (wl_small (by decide)) (by decide)) (by first | omega | exact Nat.le_trans (wl_small (by decide)) (by decide)) (by first | omega | exact Nat.le_trans (wl_small (by decide)) (by decide)) (by first | omega | exact Nat.le_trans (wl_small (by decide)) (by decide))) (by rfl) ?_
  simp only [Act.put, List.setIfInBounds_toArray, List.set_cons_zero, List.set_cons_succ]
  iterate 6
    refine wpPlan_takeL (v := ?_) rfl (by rfl) (fun w' hw => ?_) ?_
    rotate_left
    · go_simp
      with_reducible rfl
    simp only [Act.put, List.setIfInBounds_toArray, List.set_cons_zero, List.set_cons_succ]
  refine wpPlan_callL rfl (by rfl) Try.call23 (fun w' hw => ppint_any 3 3 (qn 3) (qn 3) _ rfl rfl (by decide) (by decide) (by decide) (by decide)) (by rfl) ?_
  simp only [Act.put, List.setIfInBounds_toArray, List.set_cons_zero, List.set_cons_succ]
  refine wpPlan_callL rfl (by rfl) Try.call17 (fun w' hw => pcircle_any (qn 0) (qn 0) (qn 2) (qn 0) (qn 0) (qn 2) (qn 3) (qn 3) (-1) (1) (-1) _ (by decide +kernel) (by decide +kernel) (by decide) (by first | omega | exact Nat.le_trans (wl_small (by decide)) (by decide)) (by first | omega | exact Nat.le_trans (wl_small (by decide)) (by decide)) (by first | omega | exact Nat.le_trans (wl_small (by decide)) (by decide)) (by first | omega | exact Nat.le_trans (wl_small (by decide)) (by decide)) (by first | omega | exact Nat.le_trans (wl_small (by decide)) (by decide)) (by first | omega | exact Nat.le_trans (wl_small (by decide)) (by decide)) (by first | omega | exact Nat.le_trans (wl_small (by decide)) (by decide)) (by first | omega | exact Nat.le_trans (wl_small (by decide)) (by decide))) (by rfl) ?_
  simp only [Act.put, List.setIfInBounds_toArray, List.set_cons_zero, List.set_cons_succ]
  iterate 2
    refine wpPlan_takeL (v := ?_) rfl (by rfl) (fun w' hw => ?_) ?_
    rotate_left
    · go_simp
      with_reducible rfl
    simp only [Act.put, List.setIfInBounds_toArray, List.set_cons_zero, List.set_cons_succ]
  refine wpPlan_nil (hT.out _ _ ?_); clear hT T
  intro G vw6 hg hf
  simp only [puts, Act.put, List.setIfInBounds_toArray, List.set_cons_zero, List.set_cons_succ, List.drop_succ_cons, List.drop_zero, ↓reduceIte, Nat.reduceEqDiff]
  clear lx0 lx3 lx4
  have HG := Lib.hid (hg)
  clear hg
  have bx0 := BX0.out.gr HG.out; clear BX0
  have bx1 := BX1.out.gr HG.out; clear BX1
  have bx2 := BX2.out.gr HG.out; clear BX2
  have bx3 := BX3.out.gr HG.out; clear BX3
  have bx4 := BX4.out.gr HG.out; clear BX4
  have r0 := Gr.refl vw6
  have BX0 := Lib.hid bx0; clear bx0
  have BX1 := Lib.hid bx1; clear bx1
  have BX2 := Lib.hid bx2; clear bx2
  have BX3 := Lib.hid bx3; clear bx3
  have BX4 := Lib.hid bx4; clear bx4
  go_wp2
  refine hK.out _ _ ?_; clear hK K
  show Code.wp _ _ _ _ _
  clear r0
  refine forgetW (fun w2 => Bx w2 gx0 38 #[.int .u64 ((lo (Int.natAbs ((qn 0).num)) : Nat) : Int), .string (bg (Int.natAbs ((qn 0).num))), .bool (decide (((qn 0).num) < 0)), .int .u64 ((lo ((qn 0).den - 1) : Nat) : Int), .string (bg ((qn 0).den - 1)), .int .u64 ((lo (Int.natAbs ((qn 0).num)) : Nat) : Int), .string (bg (Int.natAbs ((qn 0).num))), .bool (decide (((qn 0).num) < 0)), .int .u64 ((lo ((qn 0).den - 1) : Nat) : Int), .string (bg ((qn 0).den - 1))] ∧ Bx w2 gx1 38 #[.int .u64 ((lo (Int.natAbs ((qn 1).num)) : Nat) : Int), .string (bg (Int.natAbs ((qn 1).num))), .bool (decide (((qn 1).num) < 0)), .int .u64 ((lo ((qn 1).den - 1) : Nat) : Int), .string (bg ((qn 1).den - 1)), .int .u64 ((lo (Int.natAbs ((qn 1).num)) : Nat) : Int), .string (bg (Int.natAbs ((qn 1).num))), .bool (decide (((qn 1).num) < 0)), .int .u64 ((lo ((qn 1).den - 1) : Nat) : Int), .string (bg ((qn 1).den - 1))] ∧ Bx w2 gx2 38 #[.int .u64 ((lo (Int.natAbs ((qn 1).num)) : Nat) : Int), .string (bg (Int.natAbs ((qn 1).num))), .bool (decide (((qn 1).num) < 0)), .int .u64 ((lo ((qn 1).den - 1) : Nat) : Int), .string (bg ((qn 1).den - 1)), .int .u64 ((lo (Int.natAbs ((qn 0).num)) : Nat) : Int), .string (bg (Int.natAbs ((qn 0).num))), .bool (decide (((qn 0).num) < 0)), .int .u64 ((lo ((qn 0).den - 1) : Nat) : Int), .string (bg ((qn 0).den - 1))] ∧ Below w.heap.size w w2) ⟨BX0.out, BX1.out, BX2.out, HB.out.trans (HG.out.mono HB.out.size)⟩ ?_
  clear HB HG BX0 BX1 BX2 BX3 BX4
  rintro Wx6 ⟨bx0, bx1, bx2, HB⟩
  replace HB := Lib.hid HB
  -- region 7
  have lx0 := bx0.cells
  have lx1 := bx1.cells
  have lx2 := bx2.cells
  have BX0 := Lib.hid bx0
  have BX1 := Lib.hid bx1
  have BX2 := Lib.hid bx2
  clear bx0 bx1 bx2
  refine wp_seq_k fun K hK => ?_
  replace hK := Lib.hid hK
  refine wp_region_plan 26 [] [] (fun _ => 0) (fun _ => .cells #[] 0) [(true, 0), (true, 1), (true, 2), (true, 3), (true, 4), (true, 5), (true, 6), (true, 7), (true, 8), (true, 9), (true, 10), (true, 11), (true, 12), (true, 13), (true, 14), (true, 15), (true, 16), (true, 17), (true, 18), (true, 19), (true, 20), (true, 21), (true, 22), (true, 23), (true, 24), (true, 25)] (by kernel_rfl) (by kernel_rfl) (fun i hi => by cases hi) (fun i hi => by cases hi) (fun _ _ _ _ _ h => h) (fun T hT => ?_)
  iterate 1
    refine wpPlan_takeL (v := ?_) rfl (by rfl) (fun w' hw => ?_) ?_
    rotate_left
    · go_simp
      with_reducible rfl
    simp only [Act.put, List.setIfInBounds_toArray, List.set_cons_zero, List.set_cons_succ]
  refine wpPlan_callL rfl (by rfl) Try.call23 (fun w' hw => ppint_any 1 0 (qn 1) (qn 0) _ rfl rfl (by decide) (by decide) (by decide) (by decide)) (by rfl) ?_
  simp only [Act.put, List.setIfInBounds_toArray, List.set_cons_zero, List.set_cons_succ]
  refine wpPlan_callL rfl (by rfl) Try.call23 (fun w' hw => ppint_any 0 1 (qn 0) (qn 1) _ rfl rfl (by decide) (by decide) (by decide) (by decide)) (by rfl) ?_
  simp only [Act.put, List.setIfInBounds_toArray, List.set_cons_zero, List.set_cons_succ]
  refine wpPlan_callL rfl (by rfl) Try.call13 (fun w' hw => pturn_any (qn 0) (qn 0) (qn 1) (qn 0) (qn 0) (qn 1) (1) _ (by decide +kernel) (by first | omega | exact Nat.le_trans (wl_small (by decide)) (by decide)) (by first | omega | exact Nat.le_trans (wl_small (by decide)) (by decide)) (by first | omega | exact Nat.le_trans (wl_small (by decide)) (by decide)) (by first | omega | exact Nat.le_trans (wl_small (by decide)) (by decide)) (by first | omega | exact Nat.le_trans (wl_small (by decide)) (by decide)) (by first | omega | exact Nat.le_trans (wl_small (by decide)) (by decide))) (by rfl) ?_
  simp only [Act.put, List.setIfInBounds_toArray, List.set_cons_zero, List.set_cons_succ]
  iterate 10
    refine wpPlan_takeL (v := ?_) rfl (by rfl) (fun w' hw => ?_) ?_
    rotate_left
    · go_simp
      with_reducible rfl
    simp only [Act.put, List.setIfInBounds_toArray, List.set_cons_zero, List.set_cons_succ]
  refine wpPlan_callL rfl (by rfl) Try.call23 (fun w' hw => ppint_any 1 1 (qn 1) (qn 1) _ rfl rfl (by decide) (by decide) (by decide) (by decide)) (by rfl) ?_
  simp only [Act.put, List.setIfInBounds_toArray, List.set_cons_zero, List.set_cons_succ]
  iterate 8
    refine wpPlan_takeL (v := ?_) rfl (by rfl) (fun w' hw => ?_) ?_
    rotate_left
    · go_simp
      with_reducible rfl
    simp only [Act.put, List.setIfInBounds_toArray, List.set_cons_zero, List.set_cons_succ]
  refine wpPlan_callL rfl (by rfl) Try.call23 (fun w' hw => ppint_any 1 0 (qn 1) (qn 0) _ rfl rfl (by decide) (by decide) (by decide) (by decide)) (by rfl) ?_
  simp only [Act.put, List.setIfInBounds_toArray, List.set_cons_zero, List.set_cons_succ]
  iterate 2
    refine wpPlan_takeL (v := ?_) rfl (by rfl) (fun w' hw => ?_) ?_
    rotate_left
    · go_simp
      with_reducible rfl
    simp only [Act.put, List.setIfInBounds_toArray, List.set_cons_zero, List.set_cons_succ]
  refine wpPlan_nil (hT.out _ _ ?_); clear hT T
  intro G vw7 hg hf
  simp only [puts, Act.put, List.setIfInBounds_toArray, List.set_cons_zero, List.set_cons_succ, List.drop_succ_cons, List.drop_zero, ↓reduceIte, Nat.reduceEqDiff]
  clear lx0 lx1 lx2
  have HG := Lib.hid (hg)
  clear hg
  have bx0 := BX0.out.gr HG.out; clear BX0
  have bx1 := BX1.out.gr HG.out; clear BX1
  have bx2 := BX2.out.gr HG.out; clear BX2
  have r0 := Gr.refl vw7
  have BX0 := Lib.hid bx0; clear bx0
  have BX1 := Lib.hid bx1; clear bx1
  have BX2 := Lib.hid bx2; clear bx2
  go_wp2
  refine hK.out _ _ ?_; clear hK K
  show Code.wp _ _ _ _ _
  clear r0
  refine forgetW (fun w2 => Below w.heap.size w w2) (HB.out.trans (HG.out.mono HB.out.size)) ?_
  clear HB HG BX0 BX1 BX2
  rintro Wx7 HB
  replace HB := Lib.hid HB
  refine wp_ret ?_
  try simp only [Exit.then, Exit.inBlock]
  have r0 := Gr.refl Wx7
  exact bodyPost_ret (v := .bool true) (by simp [results, Try.results16, go_sem]) rfl ⟨rfl, HB.out⟩

end Go.Proofs.Ytenpbnmmadbkdaa
