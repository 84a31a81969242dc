/- fracs: Cmp, Div, Of. -/
import Derived.Test.YtenpbnmmadbkdaaFrac2
namespace Go.Proofs.Ytenpbnmmadbkdaa
open Go.RowKit
set_option linter.unusedSimpArgs false
set_option linter.unusedVariables false
attribute [local go_sem ↓] Go.wp_at_zero Go.wp_at_succ
attribute [local go_sem ↓] eq_nat eq_nat_zero
set_option maxHeartbeats 1000000 in
theorem fcmp_same (a b : Rat) (t : Int) (ht : sgQ (a - b) = t) (hs_a : sz a ≤ 100000000000) (hs_b : sz b ≤ 100000000000) (h3 : decide (a.den - 1 = b.den - 1) = true) (w : World) :
    Calls Try.prog 49 #[(Value.agg #[.int .u64 ((lo (Int.natAbs ((a).num)) : Nat) : Int), .string (bg (Int.natAbs ((a).num))), .bool (decide (((a).num) < 0)), .int .u64 ((lo ((a).den - 1) : Nat) : Int), .string (bg ((a).den - 1))]), (Value.agg #[.int .u64 ((lo (Int.natAbs ((b).num)) : Nat) : Int), .string (bg (Int.natAbs ((b).num))), .bool (decide (((b).num) < 0)), .int .u64 ((lo ((b).den - 1) : Nat) : Int), .string (bg ((b).den - 1))])] w fun e w' => e = .returned (.int .i64 (t)) ∧ Below w.heap.size w w' := by
  have hn_a := Nat.le_trans (sz_num a) hs_a
  have hd_a := Nat.le_trans (sz_den a) hs_a
  have he_a := Nat.le_trans (wl_mono (Nat.sub_le a.den 1)) hd_a
  have hp_a : 0 < a.den := a.den_pos
  have hn_b := Nat.le_trans (sz_num b) hs_b
  have hd_b := Nat.le_trans (sz_den b) hs_b
  have he_b := Nat.le_trans (wl_mono (Nat.sub_le b.den 1)) hd_b
  have hp_b : 0 < b.den := b.den_pos
  replace ht := Lib.hid ht
  go_enter Try.func49, Try.ntmps49
  -- region 0
  refine wp_seq_k fun K hK => ?_
  replace hK := Lib.hid hK
  refine wp_region_lit ?_
  go_wp2
  refine hK.out _ _ ?_; clear hK K
  show Code.wp _ _ _ _ _
  refine forgetW (fun w2 => Bx w2 (w.heap.size) 36 #[.int .u64 ((lo (Int.natAbs ((a).num)) : Nat) : Int), .string (bg (Int.natAbs ((a).num))), .bool (decide (((a).num) < 0)), .int .u64 ((lo ((a).den - 1) : Nat) : Int), .string (bg ((a).den - 1))] ∧ Bx w2 (w.heap.size + 1) 36 #[.int .u64 ((lo (Int.natAbs ((b).num)) : Nat) : Int), .string (bg (Int.natAbs ((b).num))), .bool (decide (((b).num) < 0)), .int .u64 ((lo ((b).den - 1) : Nat) : Int), .string (bg ((b).den - 1))] ∧ Below w.heap.size w w2) ⟨(Bx.at rfl).alloc _, Bx.at (by simp), ((Below.refl _ _).alloc (Nat.le_refl _) _).alloc (by simp) _⟩ ?_
  rintro Wx ⟨bx0, bx1, HB⟩
  replace HB := Lib.hid HB
  refine wp_seq ?_
  -- region 1
  have lx0 := bx0.cells
  have lx1 := bx1.cells
  have BX0 := Lib.hid bx0
  have BX1 := Lib.hid bx1
  clear bx0 bx1
  refine wp_seq_k fun K hK => ?_
  replace hK := Lib.hid hK
  refine wp_region_seqplan 5 [(true, 0), (true, 1), (true, 2), (true, 3), (true, 4)] (by rfl) (by simp) (fun T hT => ?_)
  iterate 5
    refine wpPlan_takeL (v := ?_) rfl (by rfl) (fun w' hw => ?_) ?_
    rotate_left
    · go_simp
      with_reducible rfl
    simp only [Act.put, List.setIfInBounds_toArray, List.set_cons_zero, List.set_cons_succ]
  refine wpPlan_nil (hT.out _ _ ?_); clear hT T
  intro vw1 hg
  simp only [puts, Act.put, List.setIfInBounds_toArray, List.set_cons_zero, List.set_cons_succ, List.drop_succ_cons, List.drop_zero, ↓reduceIte, Nat.reduceEqDiff]
  clear lx0 lx1
  have HG := Lib.hid (hg)
  clear hg
  have bx0 := BX0.out.gr HG.out; clear BX0
  have bx1 := BX1.out.gr HG.out; clear BX1
  have r0 := Gr.refl vw1
  have BX0 := Lib.hid bx0; clear bx0
  have BX1 := Lib.hid bx1; clear bx1
  go_wp2
  refine hK.out _ _ ?_; clear hK K
  show Code.wp _ _ _ _ _
  clear r0
  refine forgetW (fun w2 => Bx w2 (w.heap.size) 36 #[.int .u64 ((lo (Int.natAbs ((a).num)) : Nat) : Int), .string (bg (Int.natAbs ((a).num))), .bool (decide (((a).num) < 0)), .int .u64 ((lo ((a).den - 1) : Nat) : Int), .string (bg ((a).den - 1))] ∧ Bx w2 (w.heap.size + 1) 36 #[.int .u64 ((lo (Int.natAbs ((b).num)) : Nat) : Int), .string (bg (Int.natAbs ((b).num))), .bool (decide (((b).num) < 0)), .int .u64 ((lo ((b).den - 1) : Nat) : Int), .string (bg ((b).den - 1))] ∧ Below w.heap.size w w2) ⟨BX0.out, BX1.out, HB.out.trans (HG.out.mono HB.out.size)⟩ ?_
  clear HB HG BX0 BX1
  rintro Wx1 ⟨bx0, bx1, HB⟩
  replace HB := Lib.hid HB
  refine wp_cond_true (by rfl) ?_
  -- region 2
  have lx0 := bx0.cells
  have lx1 := bx1.cells
  have BX0 := Lib.hid bx0
  have BX1 := Lib.hid bx1
  clear bx0 bx1
  refine wp_seq_k fun K hK => ?_
  replace hK := Lib.hid hK
  refine wp_region_seqplan 6 [(true, 0), (true, 1), (true, 2), (true, 3), (true, 4), (true, 5)] (by rfl) (by simp) (fun T hT => ?_)
  iterate 4
    refine wpPlan_takeL (v := ?_) rfl (by rfl) (fun w' hw => ?_) ?_
    rotate_left
    · go_simp
      with_reducible rfl
    simp only [Act.put, List.setIfInBounds_toArray, List.set_cons_zero, List.set_cons_succ]
  refine wpPlan_callL rfl (by rfl) Try.call66 (fun w' hw => zicmp ((a).num) ((b).num) (t) _ (by rw [← ht.out]; exact sgQ_sub_same a b (by have := of_decide_eq_true h3; omega)) (by first | omega | exact Nat.le_trans (wl_small (by decide)) (by decide)) (by first | omega | exact Nat.le_trans (wl_small (by decide)) (by decide))) (by rfl) ?_
  simp only [Act.put, List.setIfInBounds_toArray, List.set_cons_zero, List.set_cons_succ]
  iterate 1
    refine wpPlan_takeL (v := ?_) rfl (by rfl) (fun w' hw => ?_) ?_
    rotate_left
    · go_simp
      with_reducible rfl
    simp only [Act.put, List.setIfInBounds_toArray, List.set_cons_zero, List.set_cons_succ]
  refine wpPlan_nil (hT.out _ _ ?_); clear hT T
  intro vw2 hg
  simp only [puts, Act.put, List.setIfInBounds_toArray, List.set_cons_zero, List.set_cons_succ, List.drop_succ_cons, List.drop_zero, ↓reduceIte, Nat.reduceEqDiff]
  clear lx0 lx1
  have HG := Lib.hid (hg)
  clear hg
  have bx0 := BX0.out.gr HG.out; clear BX0
  have bx1 := BX1.out.gr HG.out; clear BX1
  have r0 := Gr.refl vw2
  have BX0 := Lib.hid bx0; clear bx0
  have BX1 := Lib.hid bx1; clear bx1
  go_wp2
  refine hK.out _ _ ?_; clear hK K
  show Code.wp _ _ _ _ _
  clear r0
  refine forgetW (fun w2 => Bx w2 (w.heap.size) 36 #[.int .u64 ((lo (Int.natAbs ((a).num)) : Nat) : Int), .string (bg (Int.natAbs ((a).num))), .bool (decide (((a).num) < 0)), .int .u64 ((lo ((a).den - 1) : Nat) : Int), .string (bg ((a).den - 1))] ∧ Bx w2 (w.heap.size + 1) 36 #[.int .u64 ((lo (Int.natAbs ((b).num)) : Nat) : Int), .string (bg (Int.natAbs ((b).num))), .bool (decide (((b).num) < 0)), .int .u64 ((lo ((b).den - 1) : Nat) : Int), .string (bg ((b).den - 1))] ∧ Below w.heap.size w w2) ⟨BX0.out, BX1.out, HB.out.trans (HG.out.mono HB.out.size)⟩ ?_
  clear HB HG BX0 BX1
  rintro Wx2 ⟨bx0, bx1, HB⟩
  replace HB := Lib.hid HB
  refine wp_ret ?_
  try simp only [Exit.then, Exit.inBlock]
  have r0 := Gr.refl Wx2
  exact bodyPost_ret (v := .int .i64 (t)) (by simp [results, Try.results49, go_sem]) rfl ⟨rfl, HB.out⟩

set_option maxHeartbeats 1000000 in
theorem fcmp_other (a b : Rat) (t : Int) (ht : sgQ (a - b) = t) (hs_a : sz a ≤ 100000000000) (hs_b : sz b ≤ 100000000000) (h3 : decide (a.den - 1 = b.den - 1) = false) (w : World) :
    Calls Try.prog 49 #[(Value.agg #[.int .u64 ((lo (Int.natAbs ((a).num)) : Nat) : Int), .string (bg (Int.natAbs ((a).num))), .bool (decide (((a).num) < 0)), .int .u64 ((lo ((a).den - 1) : Nat) : Int), .string (bg ((a).den - 1))]), (Value.agg #[.int .u64 ((lo (Int.natAbs ((b).num)) : Nat) : Int), .string (bg (Int.natAbs ((b).num))), .bool (decide (((b).num) < 0)), .int .u64 ((lo ((b).den - 1) : Nat) : Int), .string (bg ((b).den - 1))])] w fun e w' => e = .returned (.int .i64 (t)) ∧ Below w.heap.size w w' := by
  have hn_a := Nat.le_trans (sz_num a) hs_a
  have hd_a := Nat.le_trans (sz_den a) hs_a
  have he_a := Nat.le_trans (wl_mono (Nat.sub_le a.den 1)) hd_a
  have hp_a : 0 < a.den := a.den_pos
  have hn_b := Nat.le_trans (sz_num b) hs_b
  have hd_b := Nat.le_trans (sz_den b) hs_b
  have he_b := Nat.le_trans (wl_mono (Nat.sub_le b.den 1)) hd_b
  have hp_b : 0 < b.den := b.den_pos
  replace ht := Lib.hid ht
  go_enter Try.func49, Try.ntmps49
  -- region 0
  refine wp_seq_k fun K hK => ?_
  replace hK := Lib.hid hK
  refine wp_region_lit ?_
  go_wp2
  refine hK.out _ _ ?_; clear hK K
  show Code.wp _ _ _ _ _
  refine forgetW (fun w2 => Bx w2 (w.heap.size) 36 #[.int .u64 ((lo (Int.natAbs ((a).num)) : Nat) : Int), .string (bg (Int.natAbs ((a).num))), .bool (decide (((a).num) < 0)), .int .u64 ((lo ((a).den - 1) : Nat) : Int), .string (bg ((a).den - 1))] ∧ Bx w2 (w.heap.size + 1) 36 #[.int .u64 ((lo (Int.natAbs ((b).num)) : Nat) : Int), .string (bg (Int.natAbs ((b).num))), .bool (decide (((b).num) < 0)), .int .u64 ((lo ((b).den - 1) : Nat) : Int), .string (bg ((b).den - 1))] ∧ Below w.heap.size w w2) ⟨(Bx.at rfl).alloc _, Bx.at (by simp), ((Below.refl _ _).alloc (Nat.le_refl _) _).alloc (by simp) _⟩ ?_
  rintro Wx ⟨bx0, bx1, HB⟩
  replace HB := Lib.hid HB
  refine wp_seq ?_
  -- region 1
  have lx0 := bx0.cells
  have lx1 := bx1.cells
  have BX0 := Lib.hid bx0
  have BX1 := Lib.hid bx1
  clear bx0 bx1
  refine wp_seq_k fun K hK => ?_
  replace hK := Lib.hid hK
  refine wp_region_seqplan 5 [(true, 0), (true, 1), (true, 2), (true, 3), (true, 4)] (by rfl) (by simp) (fun T hT => ?_)
  iterate 5
    refine wpPlan_takeL (v := ?_) rfl (by rfl) (fun w' hw => ?_) ?_
    rotate_left
    · go_simp
      with_reducible rfl
    simp only [Act.put, List.setIfInBounds_toArray, List.set_cons_zero, List.set_cons_succ]
  refine wpPlan_nil (hT.out _ _ ?_); clear hT T
  intro vw1 hg
  simp only [puts, Act.put, List.setIfInBounds_toArray, List.set_cons_zero, List.set_cons_succ, List.drop_succ_cons, List.drop_zero, ↓reduceIte, Nat.reduceEqDiff]
  clear lx0 lx1
  have HG := Lib.hid (hg)
  clear hg
  have bx0 := BX0.out.gr HG.out; clear BX0
  have bx1 := BX1.out.gr HG.out; clear BX1
  have r0 := Gr.refl vw1
  have BX0 := Lib.hid bx0; clear bx0
  have BX1 := Lib.hid bx1; clear bx1
  go_wp2
  refine hK.out _ _ ?_; clear hK K
  show Code.wp _ _ _ _ _
  clear r0
  refine forgetW (fun w2 => Bx w2 (w.heap.size) 36 #[.int .u64 ((lo (Int.natAbs ((a).num)) : Nat) : Int), .string (bg (Int.natAbs ((a).num))), .bool (decide (((a).num) < 0)), .int .u64 ((lo ((a).den - 1) : Nat) : Int), .string (bg ((a).den - 1))] ∧ Bx w2 (w.heap.size + 1) 36 #[.int .u64 ((lo (Int.natAbs ((b).num)) : Nat) : Int), .string (bg (Int.natAbs ((b).num))), .bool (decide (((b).num) < 0)), .int .u64 ((lo ((b).den - 1) : Nat) : Int), .string (bg ((b).den - 1))] ∧ Below w.heap.size w w2) ⟨BX0.out, BX1.out, HB.out.trans (HG.out.mono HB.out.size)⟩ ?_
  clear HB HG BX0 BX1
  rintro Wx1 ⟨bx0, bx1, HB⟩
  replace HB := Lib.hid HB
  refine wp_cond_false (by rfl) ?_
  refine wp_skip ?_
  show Code.wp _ _ _ _ _
  -- region 3
  obtain ⟨u1, HZ1⟩ : ∃ z, Hid (((b).den : Int) = z) := ⟨_, Lib.hid rfl⟩
  have su1 : wl (Int.natAbs u1) ≤ 100000000000 := by rw [← HZ1.out]; rw [Int.natAbs_natCast]; omega
  obtain ⟨u2, HZ2⟩ : ∃ z, Hid (((a).num) * (u1) = z) := ⟨_, Lib.hid rfl⟩
  have su2 : wl (Int.natAbs u2) ≤ 200000000000 := by rw [← HZ2.out]; have := wl_imul ((a).num) (u1); omega
  obtain ⟨u3, HZ3⟩ : ∃ z, Hid (((a).den : Int) = z) := ⟨_, Lib.hid rfl⟩
  have su3 : wl (Int.natAbs u3) ≤ 100000000000 := by rw [← HZ3.out]; rw [Int.natAbs_natCast]; omega
  obtain ⟨u4, HZ4⟩ : ∃ z, Hid (((b).num) * (u3) = z) := ⟨_, Lib.hid rfl⟩
  have su4 : wl (Int.natAbs u4) ≤ 200000000000 := by rw [← HZ4.out]; have := wl_imul ((b).num) (u3); omega
  have lx0 := bx0.cells
  have lx1 := bx1.cells
  have BX0 := Lib.hid bx0
  have BX1 := Lib.hid bx1
  clear bx0 bx1
  refine wp_seq_k fun K hK => ?_
  replace hK := Lib.hid hK
  refine wp_region_plan 11 [] [] (fun _ => 0) (fun _ => .cells #[] 0) [(true, 0), (true, 1), (true, 2), (true, 5), (true, 6), (true, 7), (true, 3), (true, 4), (true, 8), (true, 9), (true, 10)] (by kernel_rfl) (by kernel_rfl) (fun i hi => by cases hi) (fun i hi => by cases hi) (fun _ _ _ _ _ h => h) (fun T hT => ?_)
  iterate 6
    refine wpPlan_takeL (v := ?_) rfl (by rfl) (fun w' hw => ?_) ?_
    rotate_left
    · go_simp
      with_reducible rfl
    simp only [Act.put, List.setIfInBounds_toArray, List.set_cons_zero, List.set_cons_succ]
  refine wpPlan_callL rfl (by rfl) Try.call37 (fun w' hw => fsigned_any (b) (u1) _ HZ1.out (by first | omega | exact Nat.le_trans (wl_small (by decide)) (by decide))) (by rfl) ?_
  simp only [Act.put, List.setIfInBounds_toArray, List.set_cons_zero, List.set_cons_succ]
  refine wpPlan_callL rfl (by rfl) Try.call32 (fun w' hw => zimul ((a).num) (u1) (u2) _ HZ2.out (by first | omega | exact Nat.le_trans (wl_small (by decide)) (by decide)) (by first | omega | exact Nat.le_trans (wl_small (by decide)) (by decide))) (by rfl) ?_
  simp only [Act.put, List.setIfInBounds_toArray, List.set_cons_zero, List.set_cons_succ]
  refine wpPlan_callL rfl (by rfl) Try.call37 (fun w' hw => fsigned_any (a) (u3) _ HZ3.out (by first | omega | exact Nat.le_trans (wl_small (by decide)) (by decide))) (by rfl) ?_
  simp only [Act.put, List.setIfInBounds_toArray, List.set_cons_zero, List.set_cons_succ]
  refine wpPlan_callL rfl (by rfl) Try.call32 (fun w' hw => zimul ((b).num) (u3) (u4) _ HZ4.out (by first | omega | exact Nat.le_trans (wl_small (by decide)) (by decide)) (by first | omega | exact Nat.le_trans (wl_small (by decide)) (by decide))) (by rfl) ?_
  simp only [Act.put, List.setIfInBounds_toArray, List.set_cons_zero, List.set_cons_succ]
  refine wpPlan_callL rfl (by rfl) Try.call66 (fun w' hw => zicmp (u2) (u4) (t) _ (by rw [← ht.out, ← HZ2.out, ← HZ4.out, ← HZ1.out, ← HZ3.out]; exact sgQ_sub a b) (by first | omega | exact Nat.le_trans (wl_small (by decide)) (by decide)) (by first | omega | exact Nat.le_trans (wl_small (by decide)) (by decide))) (by rfl) ?_
  simp only [Act.put, List.setIfInBounds_toArray, List.set_cons_zero, List.set_cons_succ]
  refine wpPlan_nil (hT.out _ _ ?_); clear hT T
  intro G vw2 hg hf
  simp only [puts, Act.put, List.setIfInBounds_toArray, List.set_cons_zero, List.set_cons_succ, List.drop_succ_cons, List.drop_zero, ↓reduceIte, Nat.reduceEqDiff]
  clear lx0 lx1
  have HG := Lib.hid (hg)
  clear hg
  have bx0 := BX0.out.gr HG.out; clear BX0
  have bx1 := BX1.out.gr HG.out; clear BX1
  have r0 := Gr.refl vw2
  have BX0 := Lib.hid bx0; clear bx0
  have BX1 := Lib.hid bx1; clear bx1
  go_wp2
  refine hK.out _ _ ?_; clear hK K
  show Code.wp _ _ _ _ _
  clear r0
  refine forgetW (fun w2 => Below w.heap.size w w2) (HB.out.trans (HG.out.mono HB.out.size)) ?_
  clear HB HG BX0 BX1
  rintro Wx3 HB
  replace HB := Lib.hid HB
  refine wp_ret ?_
  try simp only [Exit.then, Exit.inBlock]
  have r0 := Gr.refl Wx3
  exact bodyPost_ret (v := .int .i64 (t)) (by simp [results, Try.results49, go_sem]) rfl ⟨rfl, HB.out⟩

theorem fcmp_any (a b : Rat) (t : Int) (w : World) (ht : sgQ (a - b) = t) (hs_a : sz a ≤ 100000000000) (hs_b : sz b ≤ 100000000000) :
    Calls Try.prog 49 #[(Value.agg #[.int .u64 ((lo (Int.natAbs ((a).num)) : Nat) : Int), .string (bg (Int.natAbs ((a).num))), .bool (decide (((a).num) < 0)), .int .u64 ((lo ((a).den - 1) : Nat) : Int), .string (bg ((a).den - 1))]), (Value.agg #[.int .u64 ((lo (Int.natAbs ((b).num)) : Nat) : Int), .string (bg (Int.natAbs ((b).num))), .bool (decide (((b).num) < 0)), .int .u64 ((lo ((b).den - 1) : Nat) : Int), .string (bg ((b).den - 1))])] w fun e w' => e = .returned (.int .i64 t) ∧ Below w.heap.size w w' := by
  cases h3 : decide (a.den - 1 = b.den - 1)
  · exact fcmp_other a b t ht hs_a hs_b h3 w
  · exact fcmp_same a b t ht hs_a hs_b h3 w

set_option maxHeartbeats 1000000 in
theorem fdiv_yes (a b z r : Rat) (t : Int) (hz : Hid (a * r = z)) (hr : Hid (b⁻¹ = r)) (ht : Hid (sgQ b = t)) (h0 : (t == 0) = false) (hb0 : 0 < Int.natAbs b.num) (hs_r : sz r ≤ 100000000000) (hs_a : sz a ≤ 100000000000) (hs_b : sz b ≤ 100000000000) (w : World) :
    Calls Try.prog 43 #[(Value.agg #[.int .u64 ((lo (Int.natAbs ((a).num)) : Nat) : Int), .string (bg (Int.natAbs ((a).num))), .bool (decide (((a).num) < 0)), .int .u64 ((lo ((a).den - 1) : Nat) : Int), .string (bg ((a).den - 1))]), (Value.agg #[.int .u64 ((lo (Int.natAbs ((b).num)) : Nat) : Int), .string (bg (Int.natAbs ((b).num))), .bool (decide (((b).num) < 0)), .int .u64 ((lo ((b).den - 1) : Nat) : Int), .string (bg ((b).den - 1))])] w fun e w' => e = .returned (.tuple #[(.agg #[.int .u64 ((lo (Int.natAbs ((z).num)) : Nat) : Int), .string (bg (Int.natAbs ((z).num))), .bool (decide (((z).num) < 0)), .int .u64 ((lo ((z).den - 1) : Nat) : Int), .string (bg ((z).den - 1))]), .int .i64 0]) ∧ Below w.heap.size w w' := by
  have hn_a := Nat.le_trans (sz_num a) hs_a
  have hd_a := Nat.le_trans (sz_den a) hs_a
  have he_a := Nat.le_trans (wl_mono (Nat.sub_le a.den 1)) hd_a
  have hp_a : 0 < a.den := a.den_pos
  have hn_b := Nat.le_trans (sz_num b) hs_b
  have hd_b := Nat.le_trans (sz_den b) hs_b
  have he_b := Nat.le_trans (wl_mono (Nat.sub_le b.den 1)) hd_b
  have hp_b : 0 < b.den := b.den_pos
  go_enter Try.func43, Try.ntmps43
  -- region 0
  refine wp_seq_k fun K hK => ?_
  replace hK := Lib.hid hK
  refine wp_region_lit ?_
  go_wp2
  refine hK.out _ _ ?_; clear hK K
  show Code.wp _ _ _ _ _
  refine forgetW (fun w2 => Bx w2 (w.heap.size) 36 #[.int .u64 ((lo (Int.natAbs ((a).num)) : Nat) : Int), .string (bg (Int.natAbs ((a).num))), .bool (decide (((a).num) < 0)), .int .u64 ((lo ((a).den - 1) : Nat) : Int), .string (bg ((a).den - 1))] ∧ Bx w2 (w.heap.size + 1) 36 #[.int .u64 ((lo (Int.natAbs ((b).num)) : Nat) : Int), .string (bg (Int.natAbs ((b).num))), .bool (decide (((b).num) < 0)), .int .u64 ((lo ((b).den - 1) : Nat) : Int), .string (bg ((b).den - 1))] ∧ Bx w2 (w.heap.size + 1 + 1) 36 #[.int .u64 0, .string ⟨#[]⟩, .bool false, .int .u64 0, .string ⟨#[]⟩] ∧ Below w.heap.size w w2) ⟨((Bx.at rfl).alloc _).alloc _, (Bx.at (by simp)).alloc _, Bx.at (by simp), (((Below.refl _ _).alloc (Nat.le_refl _) _).alloc (by simp) _).alloc (by simp; omega) _⟩ ?_
  rintro Wx ⟨bx0, bx1, bx2, HB⟩
  replace HB := Lib.hid HB
  refine wp_seq ?_
  -- region 1
  have lx1 := bx1.cells
  have BX0 := Lib.hid bx0
  have BX1 := Lib.hid bx1
  have BX2 := Lib.hid bx2
  clear bx0 bx1 bx2
  refine wp_seq_k fun K hK => ?_
  replace hK := Lib.hid hK
  refine wp_region_seqplan 3 [(true, 0), (true, 1), (true, 2)] (by rfl) (by simp) (fun T hT => ?_)
  iterate 1
    refine wpPlan_takeL (v := ?_) rfl (by rfl) (fun w' hw => ?_) ?_
    rotate_left
    · go_simp
      with_reducible rfl
    simp only [Act.put, List.setIfInBounds_toArray, List.set_cons_zero, List.set_cons_succ]
  refine wpPlan_callL rfl (by rfl) Try.call15 (fun w' hw => fsign_any (b) (t) _ (ht.out)) (by rfl) ?_
  simp only [Act.put, List.setIfInBounds_toArray, List.set_cons_zero, List.set_cons_succ]
  iterate 1
    refine wpPlan_takeL (v := ?_) rfl (by rfl) (fun w' hw => ?_) ?_
    rotate_left
    · go_simp
      with_reducible rfl
    simp only [Act.put, List.setIfInBounds_toArray, List.set_cons_zero, List.set_cons_succ]
  refine wpPlan_nil (hT.out _ _ ?_); clear hT T
  intro vw1 hg
  simp only [puts, Act.put, List.setIfInBounds_toArray, List.set_cons_zero, List.set_cons_succ, List.drop_succ_cons, List.drop_zero, ↓reduceIte, Nat.reduceEqDiff]
  clear lx1
  have HG := Lib.hid (hg)
  clear hg
  have bx0 := BX0.out.gr HG.out; clear BX0
  have bx1 := BX1.out.gr HG.out; clear BX1
  have bx2 := BX2.out.gr HG.out; clear BX2
  have r0 := Gr.refl vw1
  have BX0 := Lib.hid bx0; clear bx0
  have BX1 := Lib.hid bx1; clear bx1
  have BX2 := Lib.hid bx2; clear bx2
  go_wp2
  refine hK.out _ _ ?_; clear hK K
  show Code.wp _ _ _ _ _
  clear r0
  refine forgetW (fun w2 => Bx w2 (w.heap.size) 36 #[.int .u64 ((lo (Int.natAbs ((a).num)) : Nat) : Int), .string (bg (Int.natAbs ((a).num))), .bool (decide (((a).num) < 0)), .int .u64 ((lo ((a).den - 1) : Nat) : Int), .string (bg ((a).den - 1))] ∧ Bx w2 (w.heap.size + 1) 36 #[.int .u64 ((lo (Int.natAbs ((b).num)) : Nat) : Int), .string (bg (Int.natAbs ((b).num))), .bool (decide (((b).num) < 0)), .int .u64 ((lo ((b).den - 1) : Nat) : Int), .string (bg ((b).den - 1))] ∧ Bx w2 (w.heap.size + 1 + 1) 36 #[.int .u64 0, .string ⟨#[]⟩, .bool false, .int .u64 0, .string ⟨#[]⟩] ∧ Below w.heap.size w w2) ⟨BX0.out, BX1.out, BX2.out, HB.out.trans (HG.out.mono HB.out.size)⟩ ?_
  clear HB HG BX0 BX1 BX2
  rintro Wx1 ⟨bx0, bx1, bx2, HB⟩
  replace HB := Lib.hid HB
  refine wp_cond_false (by rfl) ?_
  refine wp_skip ?_
  show Code.wp _ _ _ _ _
  -- region 3
  obtain ⟨u1, HZ1⟩ : ∃ z, Hid ((if decide (t < 0) then -(((b).den : Nat) : Int) else (((b).den : Nat) : Int)) = z) := ⟨_, Lib.hid rfl⟩
  have su1 : wl (Int.natAbs u1) ≤ 100000000000 := by rw [← HZ1.out]; split <;> simp <;> omega
  have HZ2 : Hid (mkRat (u1) (Int.natAbs ((b).num)) = r) := Lib.hid (by rw [← HZ1.out, ← ht.out, ← hr.out]; exact inv_mk b (by omega))
  have lx1 := bx1.cells
  have BX0 := Lib.hid bx0
  have BX1 := Lib.hid bx1
  have BX2 := Lib.hid bx2
  clear bx0 bx1 bx2
  refine wp_seq_k fun K hK => ?_
  replace hK := Lib.hid hK
  refine wp_region_plan 11 [10] [] (fun _ => 6) (fun _ => .cells #[.int .u64 0, .string ⟨#[]⟩, .bool false, .int .u64 0, .string ⟨#[]⟩] 36) [(true, 0), (true, 3), (true, 6), (true, 7), (true, 1), (true, 2), (true, 4), (true, 5), (true, 8), (true, 9)] (by kernel_rfl) (by kernel_rfl) (by intro i hi; simp only [List.mem_cons, List.not_mem_nil, or_false] at hi; rcases hi with rfl <;> exact ⟨_, rfl, rfl, rfl, by simp, fun ρ w => by kernel_rfl⟩) (fun i hi => by cases hi) (fun _ _ _ _ _ h => h) (fun T hT => ?_)
  iterate 4
    refine wpPlan_takeL (v := ?_) rfl (by rfl) (fun w' hw => ?_) ?_
    rotate_left
    · go_simp
      with_reducible rfl
    simp only [Act.put, List.setIfInBounds_toArray, List.set_cons_zero, List.set_cons_succ]
  refine wpPlan_callL rfl (by rfl) Try.call15 (fun w' hw => fsign_any (b) (t) _ (ht.out)) (by rfl) ?_
  simp only [Act.put, List.setIfInBounds_toArray, List.set_cons_zero, List.set_cons_succ]
  iterate 1
    refine wpPlan_takeL (v := ?_) rfl (by rfl) (fun w' hw => ?_) ?_
    rotate_left
    · go_simp
      with_reducible rfl
    simp only [Act.put, List.setIfInBounds_toArray, List.set_cons_zero, List.set_cons_succ]
  refine wpPlan_callL rfl (by rfl) Try.call35 (fun w' hw => fden_any (b) (by first | omega | exact Nat.le_trans (wl_small (by decide)) (by decide)) _) (by rfl) ?_
  simp only [Act.put, List.setIfInBounds_toArray, List.set_cons_zero, List.set_cons_succ]
  refine wpPlan_callL rfl (by rfl) Try.call58 (fun w' hw => from_any (decide (t < 0)) ((b).den) (u1) _ HZ1.out) (by rfl) ?_
  simp only [Act.put, List.setIfInBounds_toArray, List.set_cons_zero, List.set_cons_succ]
  refine wpPlan_callL rfl (by rfl) Try.call54 (fun w' hw => abs_any ((b).num) _) (by rfl) ?_
  simp only [Act.put, List.setIfInBounds_toArray, List.set_cons_zero, List.set_cons_succ]
  refine wpPlan_callL rfl (by rfl) Try.call33 (fun w' hw => lowest_any (u1) (Int.natAbs ((b).num)) (r) HZ2 (by omega) (by first | omega | exact Nat.le_trans (wl_small (by decide)) (by decide)) (by first | omega | exact Nat.le_trans (wl_small (by decide)) (by decide)) _) (by rfl) ?_
  simp only [Act.put, List.setIfInBounds_toArray, List.set_cons_zero, List.set_cons_succ]
  refine wpPlan_nil (hT.out _ _ ?_); clear hT T
  intro G vw2 hg hf
  simp only [puts, Act.put, List.setIfInBounds_toArray, List.set_cons_zero, List.set_cons_succ, List.drop_succ_cons, List.drop_zero, ↓reduceIte, Nat.reduceEqDiff]
  clear lx1
  have HG := Lib.hid (hg)
  clear hg
  have bx3 := Bx.of_fresh hf (i := 10) (by decide) rfl
  have yx3 := (hf.1 10 (by decide)).1
  clear hf
  generalize G 10 = gx3 at *
  have qx0_3 : w.heap.size < gx3 := Nat.lt_of_lt_of_le BX0.out.lt yx3
  have qx1_3 : w.heap.size + 1 < gx3 := Nat.lt_of_lt_of_le BX1.out.lt yx3
  have qx2_3 : w.heap.size + 1 + 1 < gx3 := Nat.lt_of_lt_of_le BX2.out.lt yx3
  replace yx3 : w.heap.size ≤ gx3 := Nat.le_trans HB.out.size yx3
  have bx0 := BX0.out.gr HG.out; clear BX0
  have bx1 := BX1.out.gr HG.out; clear BX1
  have bx2 := BX2.out.gr HG.out; clear BX2
  have lx3 := bx3.cells; have fx3 := bx3.free
  have r0 := Gr.refl vw2
  have BX0 := Lib.hid bx0; clear bx0
  have BX1 := Lib.hid bx1; clear bx1
  have BX2 := Lib.hid bx2; clear bx2
  have BX3 := Lib.hid bx3; clear bx3
  go_wp2
  refine hK.out _ _ ?_; clear hK K
  show Code.wp _ _ _ _ _
  clear lx3 fx3
  clear r0
  refine forgetW (fun w2 => Bx w2 (w.heap.size) 36 #[.int .u64 ((lo (Int.natAbs ((a).num)) : Nat) : Int), .string (bg (Int.natAbs ((a).num))), .bool (decide (((a).num) < 0)), .int .u64 ((lo ((a).den - 1) : Nat) : Int), .string (bg ((a).den - 1))] ∧ Bx w2 (w.heap.size + 1 + 1) 36 #[.int .u64 0, .string ⟨#[]⟩, .bool false, .int .u64 0, .string ⟨#[]⟩] ∧ Bx w2 gx3 36 #[.int .u64 ((lo (Int.natAbs ((r).num)) : Nat) : Int), .string (bg (Int.natAbs ((r).num))), .bool (decide (((r).num) < 0)), .int .u64 ((lo ((r).den - 1) : Nat) : Int), .string (bg ((r).den - 1))] ∧ Below w.heap.size w w2) ⟨(((((BX0.out).setOther (by show w.heap.size ≠ gx3; omega) _).setOther (by show w.heap.size ≠ gx3; omega) _).setOther (by show w.heap.size ≠ gx3; omega) _).setOther (by show w.heap.size ≠ gx3; omega) _).setOther (by show w.heap.size ≠ gx3; omega) _, (((((BX2.out).setOther (by show w.heap.size + 1 + 1 ≠ gx3; omega) _).setOther (by show w.heap.size + 1 + 1 ≠ gx3; omega) _).setOther (by show w.heap.size + 1 + 1 ≠ gx3; omega) _).setOther (by show w.heap.size + 1 + 1 ≠ gx3; omega) _).setOther (by show w.heap.size + 1 + 1 ≠ gx3; omega) _, ((((((BX3.out).set 0 _).set 1 _).set 2 _).set 3 _).set 4 _).eq (by simp only [List.setIfInBounds_toArray, List.set_cons_zero, List.set_cons_succ]), (((((HB.out.trans (HG.out.mono HB.out.size)).setCell (by show w.heap.size ≤ gx3; omega) _).setCell (by show w.heap.size ≤ gx3; omega) _).setCell (by show w.heap.size ≤ gx3; omega) _).setCell (by show w.heap.size ≤ gx3; omega) _).setCell (by show w.heap.size ≤ gx3; omega) _⟩ ?_
  clear HB HG BX0 BX1 BX2 BX3
  rintro Wx3 ⟨bx0, bx2, bx3, HB⟩
  replace HB := Lib.hid HB
  -- region 4
  have HZ3 : Hid ((a) * (r) = z) := Lib.hid (hz.out)
  have lx0 := bx0.cells
  have lx3 := bx3.cells
  have BX0 := Lib.hid bx0
  have BX2 := Lib.hid bx2
  have BX3 := Lib.hid bx3
  clear bx0 bx2 bx3
  refine wp_seq_k fun K hK => ?_
  replace hK := Lib.hid hK
  refine wp_region_seqplan 3 [(true, 0), (true, 1), (true, 2)] (by rfl) (by simp) (fun T hT => ?_)
  iterate 2
    refine wpPlan_takeL (v := ?_) rfl (by rfl) (fun w' hw => ?_) ?_
    rotate_left
    · go_simp
      with_reducible rfl
    simp only [Act.put, List.setIfInBounds_toArray, List.set_cons_zero, List.set_cons_succ]
  refine wpPlan_callL rfl (by rfl) Try.call10 (fun w' hw => fmul_any (a) (r) (z) _ HZ3.out (by first | omega | exact Nat.le_trans (wl_small (by decide)) (by decide)) (by first | omega | exact Nat.le_trans (wl_small (by decide)) (by decide))) (by rfl) ?_
  simp only [Act.put, List.setIfInBounds_toArray, List.set_cons_zero, List.set_cons_succ]
  refine wpPlan_nil (hT.out _ _ ?_); clear hT T
  intro vw3 hg
  simp only [puts, Act.put, List.setIfInBounds_toArray, List.set_cons_zero, List.set_cons_succ, List.drop_succ_cons, List.drop_zero, ↓reduceIte, Nat.reduceEqDiff]
  clear lx0 lx3
  have HG := Lib.hid (hg)
  clear hg
  have bx0 := BX0.out.gr HG.out; clear BX0
  have bx2 := BX2.out.gr HG.out; clear BX2
  have bx3 := BX3.out.gr HG.out; clear BX3
  have lx2 := bx2.cells; have fx2 := bx2.free
  have r0 := Gr.refl vw3
  have BX0 := Lib.hid bx0; clear bx0
  have BX2 := Lib.hid bx2; clear bx2
  have BX3 := Lib.hid bx3; clear bx3
  go_wp2
  refine hK.out _ _ ?_; clear hK K
  show Code.wp _ _ _ _ _
  clear lx2 fx2
  clear r0
  refine forgetW (fun w2 => Bx w2 (w.heap.size + 1 + 1) 36 #[.int .u64 ((lo (Int.natAbs ((z).num)) : Nat) : Int), .string (bg (Int.natAbs ((z).num))), .bool (decide (((z).num) < 0)), .int .u64 ((lo ((z).den - 1) : Nat) : Int), .string (bg ((z).den - 1))] ∧ Below w.heap.size w w2) ⟨((((((BX2.out).set 0 _).set 1 _).set 2 _).set 3 _).set 4 _).eq (by simp only [List.setIfInBounds_toArray, List.set_cons_zero, List.set_cons_succ]), (((((HB.out.trans (HG.out.mono HB.out.size)).setCell (by show w.heap.size ≤ w.heap.size + 1 + 1; omega) _).setCell (by show w.heap.size ≤ w.heap.size + 1 + 1; omega) _).setCell (by show w.heap.size ≤ w.heap.size + 1 + 1; omega) _).setCell (by show w.heap.size ≤ w.heap.size + 1 + 1; omega) _).setCell (by show w.heap.size ≤ w.heap.size + 1 + 1; omega) _⟩ ?_
  clear HB HG BX0 BX2 BX3
  rintro Wx4 ⟨bx2, HB⟩
  replace HB := Lib.hid HB
  refine wp_ret ?_
  try simp only [Exit.then, Exit.inBlock]
  have lx2 := bx2.cells
  have r0 := Gr.refl Wx4
  exact bodyPost_ret (v := .tuple #[(.agg #[.int .u64 ((lo (Int.natAbs ((z).num)) : Nat) : Int), .string (bg (Int.natAbs ((z).num))), .bool (decide (((z).num) < 0)), .int .u64 ((lo ((z).den - 1) : Nat) : Int), .string (bg ((z).den - 1))]), .int .i64 0]) (by simp [results, Try.results43, go_sem, lx2 _ r0]) rfl ⟨rfl, HB.out⟩

set_option maxHeartbeats 1000000 in
theorem fdiv_zero (a b : Rat) (t : Int) (ht : Hid (sgQ b = t)) (h0 : (t == 0) = true) (w : World) :
    Calls Try.prog 43 #[(Value.agg #[.int .u64 ((lo (Int.natAbs ((a).num)) : Nat) : Int), .string (bg (Int.natAbs ((a).num))), .bool (decide (((a).num) < 0)), .int .u64 ((lo ((a).den - 1) : Nat) : Int), .string (bg ((a).den - 1))]), (Value.agg #[.int .u64 ((lo (Int.natAbs ((b).num)) : Nat) : Int), .string (bg (Int.natAbs ((b).num))), .bool (decide (((b).num) < 0)), .int .u64 ((lo ((b).den - 1) : Nat) : Int), .string (bg ((b).den - 1))])] w fun e w' => e = .returned (.tuple #[(.agg #[.int .u64 0, .string ⟨#[]⟩, .bool false, .int .u64 0, .string ⟨#[]⟩]), .int .i64 5]) ∧ Below w.heap.size w w' := by
  go_enter Try.func43, Try.ntmps43
  -- region 0
  refine wp_seq_k fun K hK => ?_
  replace hK := Lib.hid hK
  refine wp_region_lit ?_
  go_wp2
  refine hK.out _ _ ?_; clear hK K
  show Code.wp _ _ _ _ _
  refine forgetW (fun w2 => Bx w2 (w.heap.size) 36 #[.int .u64 ((lo (Int.natAbs ((a).num)) : Nat) : Int), .string (bg (Int.natAbs ((a).num))), .bool (decide (((a).num) < 0)), .int .u64 ((lo ((a).den - 1) : Nat) : Int), .string (bg ((a).den - 1))] ∧ Bx w2 (w.heap.size + 1) 36 #[.int .u64 ((lo (Int.natAbs ((b).num)) : Nat) : Int), .string (bg (Int.natAbs ((b).num))), .bool (decide (((b).num) < 0)), .int .u64 ((lo ((b).den - 1) : Nat) : Int), .string (bg ((b).den - 1))] ∧ Bx w2 (w.heap.size + 1 + 1) 36 #[.int .u64 0, .string ⟨#[]⟩, .bool false, .int .u64 0, .string ⟨#[]⟩] ∧ Below w.heap.size w w2) ⟨((Bx.at rfl).alloc _).alloc _, (Bx.at (by simp)).alloc _, Bx.at (by simp), (((Below.refl _ _).alloc (Nat.le_refl _) _).alloc (by simp) _).alloc (by simp; omega) _⟩ ?_
  rintro Wx ⟨bx0, bx1, bx2, HB⟩
  replace HB := Lib.hid HB
  refine wp_seq ?_
  -- region 1
  have lx1 := bx1.cells
  have BX0 := Lib.hid bx0
  have BX1 := Lib.hid bx1
  have BX2 := Lib.hid bx2
  clear bx0 bx1 bx2
  refine wp_seq_k fun K hK => ?_
  replace hK := Lib.hid hK
  refine wp_region_seqplan 3 [(true, 0), (true, 1), (true, 2)] (by rfl) (by simp) (fun T hT => ?_)
  iterate 1
    refine wpPlan_takeL (v := ?_) rfl (by rfl) (fun w' hw => ?_) ?_
    rotate_left
    · go_simp
      with_reducible rfl
    simp only [Act.put, List.setIfInBounds_toArray, List.set_cons_zero, List.set_cons_succ]
  refine wpPlan_callL rfl (by rfl) Try.call15 (fun w' hw => fsign_any (b) (t) _ (ht.out)) (by rfl) ?_
  simp only [Act.put, List.setIfInBounds_toArray, List.set_cons_zero, List.set_cons_succ]
  iterate 1
    refine wpPlan_takeL (v := ?_) rfl (by rfl) (fun w' hw => ?_) ?_
    rotate_left
    · go_simp
      with_reducible rfl
    simp only [Act.put, List.setIfInBounds_toArray, List.set_cons_zero, List.set_cons_succ]
  refine wpPlan_nil (hT.out _ _ ?_); clear hT T
  intro vw1 hg
  simp only [puts, Act.put, List.setIfInBounds_toArray, List.set_cons_zero, List.set_cons_succ, List.drop_succ_cons, List.drop_zero, ↓reduceIte, Nat.reduceEqDiff]
  clear lx1
  have HG := Lib.hid (hg)
  clear hg
  have bx0 := BX0.out.gr HG.out; clear BX0
  have bx1 := BX1.out.gr HG.out; clear BX1
  have bx2 := BX2.out.gr HG.out; clear BX2
  have r0 := Gr.refl vw1
  have BX0 := Lib.hid bx0; clear bx0
  have BX1 := Lib.hid bx1; clear bx1
  have BX2 := Lib.hid bx2; clear bx2
  go_wp2
  refine hK.out _ _ ?_; clear hK K
  show Code.wp _ _ _ _ _
  clear r0
  refine forgetW (fun w2 => Bx w2 (w.heap.size) 36 #[.int .u64 ((lo (Int.natAbs ((a).num)) : Nat) : Int), .string (bg (Int.natAbs ((a).num))), .bool (decide (((a).num) < 0)), .int .u64 ((lo ((a).den - 1) : Nat) : Int), .string (bg ((a).den - 1))] ∧ Bx w2 (w.heap.size + 1) 36 #[.int .u64 ((lo (Int.natAbs ((b).num)) : Nat) : Int), .string (bg (Int.natAbs ((b).num))), .bool (decide (((b).num) < 0)), .int .u64 ((lo ((b).den - 1) : Nat) : Int), .string (bg ((b).den - 1))] ∧ Bx w2 (w.heap.size + 1 + 1) 36 #[.int .u64 0, .string ⟨#[]⟩, .bool false, .int .u64 0, .string ⟨#[]⟩] ∧ Below w.heap.size w w2) ⟨BX0.out, BX1.out, BX2.out, HB.out.trans (HG.out.mono HB.out.size)⟩ ?_
  clear HB HG BX0 BX1 BX2
  rintro Wx1 ⟨bx0, bx1, bx2, HB⟩
  replace HB := Lib.hid HB
  refine wp_cond_true (by rfl) ?_
  -- region 2
  have BX0 := Lib.hid bx0
  have BX1 := Lib.hid bx1
  have BX2 := Lib.hid bx2
  clear bx0 bx1 bx2
  refine wp_seq_k fun K hK => ?_
  replace hK := Lib.hid hK
  refine wp_region_seqplan 1 [(true, 0)] (by rfl) (by simp) (fun T hT => ?_)
  iterate 1
    refine wpPlan_takeL (v := ?_) rfl (by rfl) (fun w' hw => ?_) ?_
    rotate_left
    · go_simp
      with_reducible rfl
    simp only [Act.put, List.setIfInBounds_toArray, List.set_cons_zero, List.set_cons_succ]
  refine wpPlan_nil (hT.out _ _ ?_); clear hT T
  intro vw2 hg
  simp only [puts, Act.put, List.setIfInBounds_toArray, List.set_cons_zero, List.set_cons_succ, List.drop_succ_cons, List.drop_zero, ↓reduceIte, Nat.reduceEqDiff]
  have HG := Lib.hid (hg)
  clear hg
  have bx0 := BX0.out.gr HG.out; clear BX0
  have bx1 := BX1.out.gr HG.out; clear BX1
  have bx2 := BX2.out.gr HG.out; clear BX2
  have lx2 := bx2.cells; have fx2 := bx2.free
  have r0 := Gr.refl vw2
  have BX0 := Lib.hid bx0; clear bx0
  have BX1 := Lib.hid bx1; clear bx1
  have BX2 := Lib.hid bx2; clear bx2
  go_wp2
  refine hK.out _ _ ?_; clear hK K
  show Code.wp _ _ _ _ _
  clear lx2 fx2
  clear r0
  refine forgetW (fun w2 => Bx w2 (w.heap.size) 36 #[.int .u64 ((lo (Int.natAbs ((a).num)) : Nat) : Int), .string (bg (Int.natAbs ((a).num))), .bool (decide (((a).num) < 0)), .int .u64 ((lo ((a).den - 1) : Nat) : Int), .string (bg ((a).den - 1))] ∧ Bx w2 (w.heap.size + 1) 36 #[.int .u64 ((lo (Int.natAbs ((b).num)) : Nat) : Int), .string (bg (Int.natAbs ((b).num))), .bool (decide (((b).num) < 0)), .int .u64 ((lo ((b).den - 1) : Nat) : Int), .string (bg ((b).den - 1))] ∧ Bx w2 (w.heap.size + 1 + 1) 36 #[.int .u64 0, .string ⟨#[]⟩, .bool false, .int .u64 0, .string ⟨#[]⟩] ∧ Below w.heap.size w w2) ⟨(((((BX0.out).setOther (by show w.heap.size ≠ w.heap.size + 1 + 1; omega) _).setOther (by show w.heap.size ≠ w.heap.size + 1 + 1; omega) _).setOther (by show w.heap.size ≠ w.heap.size + 1 + 1; omega) _).setOther (by show w.heap.size ≠ w.heap.size + 1 + 1; omega) _).setOther (by show w.heap.size ≠ w.heap.size + 1 + 1; omega) _, (((((BX1.out).setOther (by show w.heap.size + 1 ≠ w.heap.size + 1 + 1; omega) _).setOther (by show w.heap.size + 1 ≠ w.heap.size + 1 + 1; omega) _).setOther (by show w.heap.size + 1 ≠ w.heap.size + 1 + 1; omega) _).setOther (by show w.heap.size + 1 ≠ w.heap.size + 1 + 1; omega) _).setOther (by show w.heap.size + 1 ≠ w.heap.size + 1 + 1; omega) _, ((((((BX2.out).set 0 _).set 1 _).set 2 _).set 3 _).set 4 _).eq (by simp only [List.setIfInBounds_toArray, List.set_cons_zero, List.set_cons_succ]), (((((HB.out.trans (HG.out.mono HB.out.size)).setCell (by show w.heap.size ≤ w.heap.size + 1 + 1; omega) _).setCell (by show w.heap.size ≤ w.heap.size + 1 + 1; omega) _).setCell (by show w.heap.size ≤ w.heap.size + 1 + 1; omega) _).setCell (by show w.heap.size ≤ w.heap.size + 1 + 1; omega) _).setCell (by show w.heap.size ≤ w.heap.size + 1 + 1; omega) _⟩ ?_
  clear HB HG BX0 BX1 BX2
  rintro Wx2 ⟨bx0, bx1, bx2, HB⟩
  replace HB := Lib.hid HB
  refine wp_ret ?_
  try simp only [Exit.then, Exit.inBlock]
  have lx2 := bx2.cells
  have r0 := Gr.refl Wx2
  exact bodyPost_ret (v := .tuple #[(.agg #[.int .u64 0, .string ⟨#[]⟩, .bool false, .int .u64 0, .string ⟨#[]⟩]), .int .i64 5]) (by simp [results, Try.results43, go_sem, lx2 _ r0]) rfl ⟨rfl, HB.out⟩

theorem fdiv_any (a b z : Rat) (w : World) (hz : a / b = z) (hb : b ≠ 0) (hs_a : sz a ≤ 100000000000) (hs_b : sz b ≤ 100000000000) :
    Calls Try.prog 43 #[(Value.agg #[.int .u64 ((lo (Int.natAbs ((a).num)) : Nat) : Int), .string (bg (Int.natAbs ((a).num))), .bool (decide (((a).num) < 0)), .int .u64 ((lo ((a).den - 1) : Nat) : Int), .string (bg ((a).den - 1))]), (Value.agg #[.int .u64 ((lo (Int.natAbs ((b).num)) : Nat) : Int), .string (bg (Int.natAbs ((b).num))), .bool (decide (((b).num) < 0)), .int .u64 ((lo ((b).den - 1) : Nat) : Int), .string (bg ((b).den - 1))])] w fun e w' => e = .returned (.tuple #[(Value.agg #[.int .u64 ((lo (Int.natAbs ((z).num)) : Nat) : Int), .string (bg (Int.natAbs ((z).num))), .bool (decide (((z).num) < 0)), .int .u64 ((lo ((z).den - 1) : Nat) : Int), .string (bg ((z).den - 1))]), .int .i64 0]) ∧ Below w.heap.size w w' := by
  have hn : b.num ≠ 0 := fun h => hb (num_zero.1 h)
  refine fdiv_yes a b z b⁻¹ (sgQ b) (Lib.hid (by rw [← hz, Rat.div_def])) (Lib.hid rfl) (Lib.hid rfl) ?_ (by omega) (Nat.le_trans (sz_inv b) hs_b) hs_a hs_b w
  have : sgQ b ≠ 0 := by unfold sgQ; rw [if_neg hb]; split <;> decide
  simpa using this
theorem fdiv_none (a b : Rat) (w : World) (hb : b = 0) :
    Calls Try.prog 43 #[(Value.agg #[.int .u64 ((lo (Int.natAbs ((a).num)) : Nat) : Int), .string (bg (Int.natAbs ((a).num))), .bool (decide (((a).num) < 0)), .int .u64 ((lo ((a).den - 1) : Nat) : Int), .string (bg ((a).den - 1))]), (Value.agg #[.int .u64 ((lo (Int.natAbs ((b).num)) : Nat) : Int), .string (bg (Int.natAbs ((b).num))), .bool (decide (((b).num) < 0)), .int .u64 ((lo ((b).den - 1) : Nat) : Int), .string (bg ((b).den - 1))])] w fun e w' => e = .returned (.tuple #[(Value.agg #[.int .u64 0, .string ⟨#[]⟩, .bool false, .int .u64 0, .string ⟨#[]⟩]), .int .i64 5]) ∧ Below w.heap.size w w' :=
  fdiv_zero a b 0 (Lib.hid (by rw [hb]; rfl)) rfl w

set_option maxHeartbeats 1000000 in
theorem fof_any (n d : Int) (z : Rat) (w : World) (hz : (n : Rat) / (d : Rat) = z) (hd : d ≠ 0) (h1 : -9223372036854775808 ≤ n) (h2 : n ≤ 9223372036854775807) (h3 : -9223372036854775808 ≤ d) (h4 : d ≤ 9223372036854775807) :
    Calls Try.prog 50 #[.int .i64 (n), .int .i64 (d)] w fun e w' => e = .returned (.tuple #[(.agg #[.int .u64 ((lo (Int.natAbs ((z).num)) : Nat) : Int), .string (bg (Int.natAbs ((z).num))), .bool (decide (((z).num) < 0)), .int .u64 ((lo ((z).den - 1) : Nat) : Int), .string (bg ((z).den - 1))]), .int .i64 0]) ∧ Below w.heap.size w w' := by
  replace hz := Lib.hid hz
  go_enter Try.func50, Try.ntmps50
  -- region 0
  refine wp_seq_k fun K hK => ?_
  replace hK := Lib.hid hK
  refine wp_region_lit ?_
  go_wp2
  refine hK.out _ _ ?_; clear hK K
  show Code.wp _ _ _ _ _
  refine forgetW (fun w2 => Bx w2 (w.heap.size) 36 #[.int .u64 0, .string ⟨#[]⟩, .bool false, .int .u64 0, .string ⟨#[]⟩] ∧ Below w.heap.size w w2) ⟨Bx.at rfl, (Below.refl _ _).alloc (Nat.le_refl _) _⟩ ?_
  rintro Wx ⟨bx0, HB⟩
  replace HB := Lib.hid HB
  -- region 1
  obtain ⟨u1, HZ1⟩ : ∃ z, Hid (((n : Int) : Rat) = z) := ⟨_, Lib.hid rfl⟩
  have su1 : sz u1 ≤ 2 := by rw [← HZ1.out]; exact sz_int64 (by first | omega | exact Nat.le_trans (wl_small (by decide)) (by decide)) (by first | omega | exact Nat.le_trans (wl_small (by decide)) (by decide))
  obtain ⟨u2, HZ2⟩ : ∃ z, Hid (((d : Int) : Rat) = z) := ⟨_, Lib.hid rfl⟩
  have su2 : sz u2 ≤ 2 := by rw [← HZ2.out]; exact sz_int64 (by first | omega | exact Nat.le_trans (wl_small (by decide)) (by decide)) (by first | omega | exact Nat.le_trans (wl_small (by decide)) (by decide))
  have HZ3 : Hid ((u1) / (u2) = z) := Lib.hid (by rw [← HZ1.out, ← HZ2.out, ← hz.out])
  have BX0 := Lib.hid bx0
  clear bx0
  refine wp_seq_k fun K hK => ?_
  replace hK := Lib.hid hK
  refine wp_region_seqplan 7 [(true, 0), (true, 1), (true, 2), (true, 3), (true, 4), (true, 5), (true, 6)] (by rfl) (by simp) (fun T hT => ?_)
  iterate 1
    refine wpPlan_takeL (v := ?_) rfl (by rfl) (fun w' hw => ?_) ?_
    rotate_left
    · go_simp
      with_reducible rfl
    simp only [Act.put, List.setIfInBounds_toArray, List.set_cons_zero, List.set_cons_succ]
  refine wpPlan_callL rfl (by rfl) Try.call46 (fun w' hw => fint_any (n) (u1) _ HZ1.out (by first | omega | exact Nat.le_trans (wl_small (by decide)) (by decide)) (by first | omega | exact Nat.le_trans (wl_small (by decide)) (by decide))) (by rfl) ?_
  simp only [Act.put, List.setIfInBounds_toArray, List.set_cons_zero, List.set_cons_succ]
  iterate 1
    refine wpPlan_takeL (v := ?_) rfl (by rfl) (fun w' hw => ?_) ?_
    rotate_left
    · go_simp
      with_reducible rfl
    simp only [Act.put, List.setIfInBounds_toArray, List.set_cons_zero, List.set_cons_succ]
  refine wpPlan_callL rfl (by rfl) Try.call46 (fun w' hw => fint_any (d) (u2) _ HZ2.out (by first | omega | exact Nat.le_trans (wl_small (by decide)) (by decide)) (by first | omega | exact Nat.le_trans (wl_small (by decide)) (by decide))) (by rfl) ?_
  simp only [Act.put, List.setIfInBounds_toArray, List.set_cons_zero, List.set_cons_succ]
  refine wpPlan_callL rfl (by rfl) Try.call43 (fun w' hw => fdiv_any (u1) (u2) (z) _ HZ3.out (by rw [← HZ2.out]; exact fun h => hd (Rat.intCast_inj.1 h)) (by first | omega | exact Nat.le_trans (wl_small (by decide)) (by decide)) (by first | omega | exact Nat.le_trans (wl_small (by decide)) (by decide))) (by rfl) ?_
  simp only [Act.put, List.setIfInBounds_toArray, List.set_cons_zero, List.set_cons_succ]
  iterate 2
    refine wpPlan_takeL (v := ?_) rfl (by rfl) (fun w' hw => ?_) ?_
    rotate_left
    · go_simp
      with_reducible rfl
    simp only [Act.put, List.setIfInBounds_toArray, List.set_cons_zero, List.set_cons_succ]
  refine wpPlan_nil (hT.out _ _ ?_); clear hT T
  intro vw1 hg
  simp only [puts, Act.put, List.setIfInBounds_toArray, List.set_cons_zero, List.set_cons_succ, List.drop_succ_cons, List.drop_zero, ↓reduceIte, Nat.reduceEqDiff]
  have HG := Lib.hid (hg)
  clear hg
  have bx0 := BX0.out.gr HG.out; clear BX0
  have lx0 := bx0.cells; have fx0 := bx0.free
  have r0 := Gr.refl vw1
  have BX0 := Lib.hid bx0; clear bx0
  go_wp2
  refine hK.out _ _ ?_; clear hK K
  show Code.wp _ _ _ _ _
  clear lx0 fx0
  clear r0
  refine forgetW (fun w2 => Bx w2 (w.heap.size) 36 #[.int .u64 ((lo (Int.natAbs ((z).num)) : Nat) : Int), .string (bg (Int.natAbs ((z).num))), .bool (decide (((z).num) < 0)), .int .u64 ((lo ((z).den - 1) : Nat) : Int), .string (bg ((z).den - 1))] ∧ Below w.heap.size w w2) ⟨((((((BX0.out).set 0 _).set 1 _).set 2 _).set 3 _).set 4 _).eq (by simp only [List.setIfInBounds_toArray, List.set_cons_zero, List.set_cons_succ]), (((((HB.out.trans (HG.out.mono HB.out.size)).setCell (by show w.heap.size ≤ w.heap.size; omega) _).setCell (by show w.heap.size ≤ w.heap.size; omega) _).setCell (by show w.heap.size ≤ w.heap.size; omega) _).setCell (by show w.heap.size ≤ w.heap.size; omega) _).setCell (by show w.heap.size ≤ w.heap.size; omega) _⟩ ?_
  clear HB HG BX0
  rintro Wx1 ⟨bx0, HB⟩
  replace HB := Lib.hid HB
  refine wp_ret ?_
  try simp only [Exit.then, Exit.inBlock]
  have lx0 := bx0.cells
  have r0 := Gr.refl Wx1
  exact bodyPost_ret (v := .tuple #[(.agg #[.int .u64 ((lo (Int.natAbs ((z).num)) : Nat) : Int), .string (bg (Int.natAbs ((z).num))), .bool (decide (((z).num) < 0)), .int .u64 ((lo ((z).den - 1) : Nat) : Int), .string (bg ((z).den - 1))]), .int .i64 0]) (by simp [results, Try.results50, go_sem, lx0 _ r0]) rfl ⟨rfl, HB.out⟩

end Go.Proofs.Ytenpbnmmadbkdaa
