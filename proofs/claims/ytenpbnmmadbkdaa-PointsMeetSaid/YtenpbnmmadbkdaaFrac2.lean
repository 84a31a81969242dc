/- fracs: Int, Add, Mul, Sub. -/
import Derived.Test.YtenpbnmmadbkdaaFrac1
namespace Go.Proofs.Ytenpbnmmadbkdaa
open Go.RowKit
set_option linter.unusedSimpArgs false
set_option linter.unusedVariables false
attribute [local go_sem ↓] Go.wp_at_zero Go.wp_at_succ
attribute [local go_sem ↓] eq_nat eq_nat_zero
theorem iof_any (n : Int) (w : World) (h1 : -9223372036854775808 ≤ n) (h2 : n ≤ 9223372036854775807) :
    Calls Try.prog 65 #[.int .i64 n] w fun e w' => e = .returned (Value.agg #[.int .u64 ((lo (Int.natAbs (n)) : Nat) : Int), .string (bg (Int.natAbs (n))), .bool (decide ((n) < 0))]) ∧ Below w.heap.size w w' := by
  obtain ⟨W0, HW⟩ : ∃ W0, Hid ((w.alloc (.cells #[.int .u64 0, .string ⟨#[]⟩, .bool false] 34)) = W0) := ⟨_, Lib.hid rfl⟩
  have HS := Lib.hid (show w.heap.size + 1 = W0.heap.size by rw [← HW.out]; simp)
  have z0 : w.heap.size < W0.heap.size := by rw [← HS.out]; omega
  have c0_0 : W0.cell? ⟨w.heap.size, 0, none⟩ = some (.int .u64 0) := by rw [← HW.out]; simp [go_sem]
  have c0_1 : W0.cell? ⟨w.heap.size, 1, none⟩ = some (.string ⟨#[]⟩) := by rw [← HW.out]; simp [go_sem]
  have c0_2 : W0.cell? ⟨w.heap.size, 2, none⟩ = some (.bool false) := by rw [← HW.out]; simp [go_sem]
  have f_0 : W0.frozen? ⟨w.heap.size, 0, none⟩ = false := by rw [← HW.out]; simp [go_sem]
  have f_1 : W0.frozen? ⟨w.heap.size, 1, none⟩ = false := by rw [← HW.out]; simp [go_sem]
  have f_2 : W0.frozen? ⟨w.heap.size, 2, none⟩ = false := by rw [← HW.out]; simp [go_sem]
  have hbw : Below w.heap.size w W0 := by rw [← HW.out]; exact (Below.refl _ _).alloc (Nat.le_refl _) _
  have HR : Hid (∀ w1 : World, Below W0.heap.size W0 w1 → w1.cell? ⟨w.heap.size, 0, none⟩ = some (.int .u64 0) ∧ w1.cell? ⟨w.heap.size, 1, none⟩ = some (.string ⟨#[]⟩) ∧ w1.cell? ⟨w.heap.size, 2, none⟩ = some (.bool false) ∧ w1.frozen? ⟨w.heap.size, 0, none⟩ = false ∧ w1.frozen? ⟨w.heap.size, 1, none⟩ = false ∧ w1.frozen? ⟨w.heap.size, 2, none⟩ = false ∧ Below w.heap.size w w1) := fun w1 hb => ⟨(held W0 w1 hb _ _ z0).trans c0_0, (held W0 w1 hb _ _ z0).trans c0_1, (held W0 w1 hb _ _ z0).trans c0_2, (heldf W0 w1 hb _ _ z0).trans f_0, (heldf W0 w1 hb _ _ z0).trans f_1, (heldf W0 w1 hb _ _ z0).trans f_2, grow hbw hb⟩
  have HBW := Lib.hid hbw
  clear hbw
  by_cases hn : n < 0
  · have hd : decide (n < 0) = true := decide_eq_true hn
    obtain ⟨m, HM⟩ : ∃ m : Nat, Hid (n = -(m : Int)) := ⟨n.natAbs, Lib.hid (by omega)⟩
    have hm : m < 18446744073709551616 := by have := HM.out; omega
    have e0 : IntKind.u64.wrap (-IntKind.u64.wrap n) = (m : Int) := by rw [IntKind.wrap_u64, IntKind.wrap_u64, HM.out]; have := HM.out; omega
    have HZ : (if true then -((m : Nat) : Int) else ((m : Nat) : Int)) = n := by rw [HM.out]; rfl
    have H3 := Lib.hid HZ
    clear HZ
    clear hn
    go_enter Try.func65, Try.ntmps65
    go_wp2_with fail
    clear hd
    rw [HW.out]
    refine (zof m W0 hm).mono ?_
    rintro e w1 ⟨rfl, hb1⟩
    clear c0_0 c0_1 c0_2 f_0 f_1 f_2 HBW; obtain ⟨c0_0, c0_1, c0_2, f_0, f_1, f_2, hbw⟩ := HR.out w1 (hb1); have HBW := Lib.hid hbw; clear hbw
    have HB1 := Lib.hid hb1
    clear hb1
    go_wp2_with fail
    refine (from_any true m n w1 H3.out).mono ?_
    rintro e w2 ⟨rfl, hb2⟩
    clear c0_0 c0_1 c0_2 f_0 f_1 f_2 HBW; obtain ⟨c0_0, c0_1, c0_2, f_0, f_1, f_2, hbw⟩ := HR.out w2 (grow HB1.out hb2); have HBW := Lib.hid hbw; clear hbw
    clear hb2
    go_wp2_with fail
    exact bodyPost_ret (v := (Value.agg #[.int .u64 ((lo (Int.natAbs (n)) : Nat) : Int), .string (bg (Int.natAbs (n))), .bool (decide ((n) < 0))])) (by simp [results, Try.results65, go_sem, c0_0, c0_1, c0_2]) rfl ⟨rfl, by first | exact (((HBW.out).setCell (by show w.heap.size ≤ w.heap.size; omega) _).setCell (by show w.heap.size ≤ w.heap.size; omega) _).setCell (by show w.heap.size ≤ w.heap.size; omega) _ | exact ((((HBW.out).setCell (by show w.heap.size ≤ w.heap.size; omega) _).setCell (by show w.heap.size ≤ w.heap.size; omega) _).setCell (by show w.heap.size ≤ w.heap.size; omega) _).drew⟩
  · have hd : decide (n < 0) = false := decide_eq_false hn
    obtain ⟨m, HM⟩ : ∃ m : Nat, Hid (n = (m : Int)) := ⟨n.natAbs, Lib.hid (by omega)⟩
    have hm : m < 18446744073709551616 := by have := HM.out; omega
    have e0 : IntKind.u64.wrap n = (m : Int) := by rw [IntKind.wrap_u64]; have := HM.out; omega
    have H3 : Hid ((if false then -((m : Nat) : Int) else ((m : Nat) : Int)) = n) := by show _ = n; rw [HM.out]; rfl
    clear hn
    go_enter Try.func65, Try.ntmps65
    go_wp2_with fail
    clear hd
    rw [HW.out]
    refine (zof m W0 hm).mono ?_
    rintro e w1 ⟨rfl, hb1⟩
    clear c0_0 c0_1 c0_2 f_0 f_1 f_2 HBW; obtain ⟨c0_0, c0_1, c0_2, f_0, f_1, f_2, hbw⟩ := HR.out w1 (hb1); have HBW := Lib.hid hbw; clear hbw
    have HB1 := Lib.hid hb1
    clear hb1
    go_wp2_with fail
    refine (from_any false m n w1 H3.out).mono ?_
    rintro e w2 ⟨rfl, hb2⟩
    clear c0_0 c0_1 c0_2 f_0 f_1 f_2 HBW; obtain ⟨c0_0, c0_1, c0_2, f_0, f_1, f_2, hbw⟩ := HR.out w2 (grow HB1.out hb2); have HBW := Lib.hid hbw; clear hbw
    clear hb2
    go_wp2_with fail
    exact bodyPost_ret (v := (Value.agg #[.int .u64 ((lo (Int.natAbs (n)) : Nat) : Int), .string (bg (Int.natAbs (n))), .bool (decide ((n) < 0))])) (by simp [results, Try.results65, go_sem, c0_0, c0_1, c0_2]) rfl ⟨rfl, by first | exact (((HBW.out).setCell (by show w.heap.size ≤ w.heap.size; omega) _).setCell (by show w.heap.size ≤ w.heap.size; omega) _).setCell (by show w.heap.size ≤ w.heap.size; omega) _ | exact ((((HBW.out).setCell (by show w.heap.size ≤ w.heap.size; omega) _).setCell (by show w.heap.size ≤ w.heap.size; omega) _).setCell (by show w.heap.size ≤ w.heap.size; omega) _).drew⟩

set_option maxHeartbeats 1000000 in
theorem fint_any (n : Int) (q : Rat) (w : World) (hq : (n : Rat) = q) (h1 : -9223372036854775808 ≤ n) (h2 : n ≤ 9223372036854775807) :
    Calls Try.prog 46 #[.int .i64 (n)] w fun e w' => e = .returned (.agg #[.int .u64 ((lo (Int.natAbs ((q).num)) : Nat) : Int), .string (bg (Int.natAbs ((q).num))), .bool (decide (((q).num) < 0)), .int .u64 ((lo ((q).den - 1) : Nat) : Int), .string (bg ((q).den - 1))]) ∧ Below w.heap.size w w' := by
  replace hq := Lib.hid hq
  go_enter Try.func46, Try.ntmps46
  -- region 0
  refine wp_seq_k fun K hK => ?_
  replace hK := Lib.hid hK
  refine wp_region_lit ?_
  go_wp2
  refine hK.out _ _ ?_; clear hK K
  show Code.wp _ _ _ _ _
  refine forgetW (fun w2 => Bx w2 (w.heap.size) 36 #[.int .u64 0, .string ⟨#[]⟩, .bool false, .int .u64 0, .string ⟨#[]⟩] ∧ Below w.heap.size w w2) ⟨Bx.at rfl, (Below.refl _ _).alloc (Nat.le_refl _) _⟩ ?_
  rintro Wx ⟨bx0, HB⟩
  replace HB := Lib.hid HB
  -- region 1
  have HZ1 : Hid (((n : Int) : Rat) = q) := Lib.hid (hq.out)
  have BX0 := Lib.hid bx0
  clear bx0
  refine wp_seq_k fun K hK => ?_
  replace hK := Lib.hid hK
  refine wp_region_seqplan 3 [(true, 0), (true, 1), (true, 2)] (by rfl) (by simp) (fun T hT => ?_)
  iterate 1
    refine wpPlan_takeL (v := ?_) rfl (by rfl) (fun w' hw => ?_) ?_
    rotate_left
    · go_simp
      with_reducible rfl
    simp only [Act.put, List.setIfInBounds_toArray, List.set_cons_zero, List.set_cons_succ]
  refine wpPlan_callL rfl (by rfl) Try.call65 (fun w' hw => iof_any (n) _ (by first | omega | exact Nat.le_trans (wl_small (by decide)) (by decide)) (by first | omega | exact Nat.le_trans (wl_small (by decide)) (by decide))) (by rfl) ?_
  simp only [Act.put, List.setIfInBounds_toArray, List.set_cons_zero, List.set_cons_succ]
  refine wpPlan_callL rfl (by rfl) Try.call31 (fun w' hw => fwhole_any (n) (q) _ HZ1.out) (by rfl) ?_
  simp only [Act.put, List.setIfInBounds_toArray, List.set_cons_zero, List.set_cons_succ]
  refine wpPlan_nil (hT.out _ _ ?_); clear hT T
  intro vw1 hg
  simp only [puts, Act.put, List.setIfInBounds_toArray, List.set_cons_zero, List.set_cons_succ, List.drop_succ_cons, List.drop_zero, ↓reduceIte, Nat.reduceEqDiff]
  have HG := Lib.hid (hg)
  clear hg
  have bx0 := BX0.out.gr HG.out; clear BX0
  have lx0 := bx0.cells; have fx0 := bx0.free
  have r0 := Gr.refl vw1
  have BX0 := Lib.hid bx0; clear bx0
  go_wp2
  refine hK.out _ _ ?_; clear hK K
  show Code.wp _ _ _ _ _
  clear lx0 fx0
  clear r0
  refine forgetW (fun w2 => Bx w2 (w.heap.size) 36 #[.int .u64 ((lo (Int.natAbs ((q).num)) : Nat) : Int), .string (bg (Int.natAbs ((q).num))), .bool (decide (((q).num) < 0)), .int .u64 ((lo ((q).den - 1) : Nat) : Int), .string (bg ((q).den - 1))] ∧ Below w.heap.size w w2) ⟨((((((BX0.out).set 0 _).set 1 _).set 2 _).set 3 _).set 4 _).eq (by simp only [List.setIfInBounds_toArray, List.set_cons_zero, List.set_cons_succ]), (((((HB.out.trans (HG.out.mono HB.out.size)).setCell (by show w.heap.size ≤ w.heap.size; omega) _).setCell (by show w.heap.size ≤ w.heap.size; omega) _).setCell (by show w.heap.size ≤ w.heap.size; omega) _).setCell (by show w.heap.size ≤ w.heap.size; omega) _).setCell (by show w.heap.size ≤ w.heap.size; omega) _⟩ ?_
  clear HB HG BX0
  rintro Wx1 ⟨bx0, HB⟩
  replace HB := Lib.hid HB
  refine wp_ret ?_
  try simp only [Exit.then, Exit.inBlock]
  have lx0 := bx0.cells
  have r0 := Gr.refl Wx1
  exact bodyPost_ret (v := .agg #[.int .u64 ((lo (Int.natAbs ((q).num)) : Nat) : Int), .string (bg (Int.natAbs ((q).num))), .bool (decide (((q).num) < 0)), .int .u64 ((lo ((q).den - 1) : Nat) : Int), .string (bg ((q).den - 1))]) (by simp [results, Try.results46, go_sem, lx0 _ r0]) rfl ⟨rfl, HB.out⟩

set_option maxHeartbeats 1000000 in
theorem fadd_int (a b z : Rat) (hz : a + b = z) (hs_a : sz a ≤ 100000000000) (hs_b : sz b ≤ 100000000000) (h1 : decide (a.den = 1) = true) (h2 : decide (b.den = 1) = true) (w : World) :
    Calls Try.prog 12 #[(Value.agg #[.int .u64 ((lo (Int.natAbs ((a).num)) : Nat) : Int), .string (bg (Int.natAbs ((a).num))), .bool (decide (((a).num) < 0)), .int .u64 ((lo ((a).den - 1) : Nat) : Int), .string (bg ((a).den - 1))]), (Value.agg #[.int .u64 ((lo (Int.natAbs ((b).num)) : Nat) : Int), .string (bg (Int.natAbs ((b).num))), .bool (decide (((b).num) < 0)), .int .u64 ((lo ((b).den - 1) : Nat) : Int), .string (bg ((b).den - 1))])] w fun e w' => e = .returned (.agg #[.int .u64 ((lo (Int.natAbs ((z).num)) : Nat) : Int), .string (bg (Int.natAbs ((z).num))), .bool (decide (((z).num) < 0)), .int .u64 ((lo ((z).den - 1) : Nat) : Int), .string (bg ((z).den - 1))]) ∧ Below w.heap.size w w' := by
  have hn_a := Nat.le_trans (sz_num a) hs_a
  have hd_a := Nat.le_trans (sz_den a) hs_a
  have he_a := Nat.le_trans (wl_mono (Nat.sub_le a.den 1)) hd_a
  have hp_a : 0 < a.den := a.den_pos
  have hn_b := Nat.le_trans (sz_num b) hs_b
  have hd_b := Nat.le_trans (sz_den b) hs_b
  have he_b := Nat.le_trans (wl_mono (Nat.sub_le b.den 1)) hd_b
  have hp_b : 0 < b.den := b.den_pos
  replace hz := Lib.hid hz
  go_enter Try.func12, Try.ntmps12
  -- region 0
  refine wp_seq_k fun K hK => ?_
  replace hK := Lib.hid hK
  refine wp_region_lit ?_
  go_wp2
  refine hK.out _ _ ?_; clear hK K
  show Code.wp _ _ _ _ _
  refine forgetW (fun w2 => Bx w2 (w.heap.size) 36 #[.int .u64 ((lo (Int.natAbs ((a).num)) : Nat) : Int), .string (bg (Int.natAbs ((a).num))), .bool (decide (((a).num) < 0)), .int .u64 ((lo ((a).den - 1) : Nat) : Int), .string (bg ((a).den - 1))] ∧ Bx w2 (w.heap.size + 1) 36 #[.int .u64 ((lo (Int.natAbs ((b).num)) : Nat) : Int), .string (bg (Int.natAbs ((b).num))), .bool (decide (((b).num) < 0)), .int .u64 ((lo ((b).den - 1) : Nat) : Int), .string (bg ((b).den - 1))] ∧ Bx w2 (w.heap.size + 1 + 1) 36 #[.int .u64 0, .string ⟨#[]⟩, .bool false, .int .u64 0, .string ⟨#[]⟩] ∧ Below w.heap.size w w2) ⟨((Bx.at rfl).alloc _).alloc _, (Bx.at (by simp)).alloc _, Bx.at (by simp), (((Below.refl _ _).alloc (Nat.le_refl _) _).alloc (by simp) _).alloc (by simp; omega) _⟩ ?_
  rintro Wx ⟨bx0, bx1, bx2, HB⟩
  replace HB := Lib.hid HB
  refine wp_seq ?_
  refine wp_block ?_
  -- region 1
  have lx0 := bx0.cells
  have lx1 := bx1.cells
  have BX0 := Lib.hid bx0
  have BX1 := Lib.hid bx1
  have BX2 := Lib.hid bx2
  clear bx0 bx1 bx2
  refine wp_seq_k fun K hK => ?_
  replace hK := Lib.hid hK
  refine wp_region_seqplan 7 [(true, 0), (true, 1), (true, 2), (true, 3), (true, 4), (true, 5), (true, 6)] (by rfl) (by simp) (fun T hT => ?_)
  iterate 1
    refine wpPlan_takeL (v := ?_) rfl (by rfl) (fun w' hw => ?_) ?_
    rotate_left
    · go_simp
      with_reducible rfl
    simp only [Act.put, List.setIfInBounds_toArray, List.set_cons_zero, List.set_cons_succ]
  refine wpPlan_callL rfl (by rfl) Try.call30 (fun w' hw => fiswhole_any (a) true _ h1) (by rfl) ?_
  simp only [Act.put, List.setIfInBounds_toArray, List.set_cons_zero, List.set_cons_succ]
  iterate 2
    refine wpPlan_takeL (v := ?_) rfl (by rfl) (fun w' hw => ?_) ?_
    rotate_left
    · go_simp
      with_reducible rfl
    simp only [Act.put, List.setIfInBounds_toArray, List.set_cons_zero, List.set_cons_succ]
  refine wpPlan_callL rfl (by rfl) Try.call30 (fun w' hw => fiswhole_any (b) true _ h2) (by rfl) ?_
  simp only [Act.put, List.setIfInBounds_toArray, List.set_cons_zero, List.set_cons_succ]
  iterate 2
    refine wpPlan_takeL (v := ?_) rfl (by rfl) (fun w' hw => ?_) ?_
    rotate_left
    · go_simp
      with_reducible rfl
    simp only [Act.put, List.setIfInBounds_toArray, List.set_cons_zero, List.set_cons_succ]
  refine wpPlan_nil (hT.out _ _ ?_); clear hT T
  intro vw1 hg
  simp only [puts, Act.put, List.setIfInBounds_toArray, List.set_cons_zero, List.set_cons_succ, List.drop_succ_cons, List.drop_zero, ↓reduceIte, Nat.reduceEqDiff]
  clear lx0 lx1
  have HG := Lib.hid (hg)
  clear hg
  have bx0 := BX0.out.gr HG.out; clear BX0
  have bx1 := BX1.out.gr HG.out; clear BX1
  have bx2 := BX2.out.gr HG.out; clear BX2
  have r0 := Gr.refl vw1
  have BX0 := Lib.hid bx0; clear bx0
  have BX1 := Lib.hid bx1; clear bx1
  have BX2 := Lib.hid bx2; clear bx2
  go_wp2
  refine hK.out _ _ ?_; clear hK K
  show Code.wp _ _ _ _ _
  clear r0
  refine forgetW (fun w2 => Bx w2 (w.heap.size) 36 #[.int .u64 ((lo (Int.natAbs ((a).num)) : Nat) : Int), .string (bg (Int.natAbs ((a).num))), .bool (decide (((a).num) < 0)), .int .u64 ((lo ((a).den - 1) : Nat) : Int), .string (bg ((a).den - 1))] ∧ Bx w2 (w.heap.size + 1) 36 #[.int .u64 ((lo (Int.natAbs ((b).num)) : Nat) : Int), .string (bg (Int.natAbs ((b).num))), .bool (decide (((b).num) < 0)), .int .u64 ((lo ((b).den - 1) : Nat) : Int), .string (bg ((b).den - 1))] ∧ Bx w2 (w.heap.size + 1 + 1) 36 #[.int .u64 0, .string ⟨#[]⟩, .bool false, .int .u64 0, .string ⟨#[]⟩] ∧ Below w.heap.size w w2) ⟨BX0.out, BX1.out, BX2.out, HB.out.trans (HG.out.mono HB.out.size)⟩ ?_
  clear HB HG BX0 BX1 BX2
  rintro Wx1 ⟨bx0, bx1, bx2, HB⟩
  replace HB := Lib.hid HB
  refine wp_cond_true (by rfl) ?_
  -- region 2
  obtain ⟨u1, HZ1⟩ : ∃ z, Hid (((a).num) + ((b).num) = z) := ⟨_, Lib.hid rfl⟩
  have su1 : wl (Int.natAbs u1) ≤ 100000000001 := by rw [← HZ1.out]; have := wl_iadd ((a).num) ((b).num); omega
  have HZ2 : Hid (((u1 : Int) : Rat) = z) := Lib.hid (by rw [← HZ1.out, ← hz.out]; exact add_int a b (of_decide_eq_true h1) (of_decide_eq_true h2))
  have lx0 := bx0.cells
  have lx1 := bx1.cells
  have BX0 := Lib.hid bx0
  have BX1 := Lib.hid bx1
  have BX2 := Lib.hid bx2
  clear bx0 bx1 bx2
  refine wp_seq_k fun K hK => ?_
  replace hK := Lib.hid hK
  refine wp_region_seqplan 6 [(true, 0), (true, 1), (true, 2), (true, 3), (true, 4), (true, 5)] (by rfl) (by simp) (fun T hT => ?_)
  iterate 4
    refine wpPlan_takeL (v := ?_) rfl (by rfl) (fun w' hw => ?_) ?_
    rotate_left
    · go_simp
      with_reducible rfl
    simp only [Act.put, List.setIfInBounds_toArray, List.set_cons_zero, List.set_cons_succ]
  refine wpPlan_callL rfl (by rfl) Try.call36 (fun w' hw => ziadd ((a).num) ((b).num) (u1) _ HZ1.out (by first | omega | exact Nat.le_trans (wl_small (by decide)) (by decide)) (by first | omega | exact Nat.le_trans (wl_small (by decide)) (by decide))) (by rfl) ?_
  simp only [Act.put, List.setIfInBounds_toArray, List.set_cons_zero, List.set_cons_succ]
  refine wpPlan_callL rfl (by rfl) Try.call31 (fun w' hw => fwhole_any (u1) (z) _ HZ2.out) (by rfl) ?_
  simp only [Act.put, List.setIfInBounds_toArray, List.set_cons_zero, List.set_cons_succ]
  refine wpPlan_nil (hT.out _ _ ?_); clear hT T
  intro vw2 hg
  simp only [puts, Act.put, List.setIfInBounds_toArray, List.set_cons_zero, List.set_cons_succ, List.drop_succ_cons, List.drop_zero, ↓reduceIte, Nat.reduceEqDiff]
  clear lx0 lx1
  have HG := Lib.hid (hg)
  clear hg
  have bx0 := BX0.out.gr HG.out; clear BX0
  have bx1 := BX1.out.gr HG.out; clear BX1
  have bx2 := BX2.out.gr HG.out; clear BX2
  have lx2 := bx2.cells; have fx2 := bx2.free
  have r0 := Gr.refl vw2
  have BX0 := Lib.hid bx0; clear bx0
  have BX1 := Lib.hid bx1; clear bx1
  have BX2 := Lib.hid bx2; clear bx2
  go_wp2
  refine hK.out _ _ ?_; clear hK K
  show Code.wp _ _ _ _ _
  clear lx2 fx2
  clear r0
  refine forgetW (fun w2 => Bx w2 (w.heap.size) 36 #[.int .u64 ((lo (Int.natAbs ((a).num)) : Nat) : Int), .string (bg (Int.natAbs ((a).num))), .bool (decide (((a).num) < 0)), .int .u64 ((lo ((a).den - 1) : Nat) : Int), .string (bg ((a).den - 1))] ∧ Bx w2 (w.heap.size + 1) 36 #[.int .u64 ((lo (Int.natAbs ((b).num)) : Nat) : Int), .string (bg (Int.natAbs ((b).num))), .bool (decide (((b).num) < 0)), .int .u64 ((lo ((b).den - 1) : Nat) : Int), .string (bg ((b).den - 1))] ∧ Bx w2 (w.heap.size + 1 + 1) 36 #[.int .u64 ((lo (Int.natAbs ((z).num)) : Nat) : Int), .string (bg (Int.natAbs ((z).num))), .bool (decide (((z).num) < 0)), .int .u64 ((lo ((z).den - 1) : Nat) : Int), .string (bg ((z).den - 1))] ∧ Below w.heap.size w w2) ⟨(((((BX0.out).setOther (by show w.heap.size ≠ w.heap.size + 1 + 1; omega) _).setOther (by show w.heap.size ≠ w.heap.size + 1 + 1; omega) _).setOther (by show w.heap.size ≠ w.heap.size + 1 + 1; omega) _).setOther (by show w.heap.size ≠ w.heap.size + 1 + 1; omega) _).setOther (by show w.heap.size ≠ w.heap.size + 1 + 1; omega) _, (((((BX1.out).setOther (by show w.heap.size + 1 ≠ w.heap.size + 1 + 1; omega) _).setOther (by show w.heap.size + 1 ≠ w.heap.size + 1 + 1; omega) _).setOther (by show w.heap.size + 1 ≠ w.heap.size + 1 + 1; omega) _).setOther (by show w.heap.size + 1 ≠ w.heap.size + 1 + 1; omega) _).setOther (by show w.heap.size + 1 ≠ w.heap.size + 1 + 1; omega) _, ((((((BX2.out).set 0 _).set 1 _).set 2 _).set 3 _).set 4 _).eq (by simp only [List.setIfInBounds_toArray, List.set_cons_zero, List.set_cons_succ]), (((((HB.out.trans (HG.out.mono HB.out.size)).setCell (by show w.heap.size ≤ w.heap.size + 1 + 1; omega) _).setCell (by show w.heap.size ≤ w.heap.size + 1 + 1; omega) _).setCell (by show w.heap.size ≤ w.heap.size + 1 + 1; omega) _).setCell (by show w.heap.size ≤ w.heap.size + 1 + 1; omega) _).setCell (by show w.heap.size ≤ w.heap.size + 1 + 1; omega) _⟩ ?_
  clear HB HG BX0 BX1 BX2
  rintro Wx2 ⟨bx0, bx1, bx2, HB⟩
  replace HB := Lib.hid HB
  refine wp_ret ?_
  try simp only [Exit.then, Exit.inBlock]
  have lx2 := bx2.cells
  have r0 := Gr.refl Wx2
  exact bodyPost_ret (v := .agg #[.int .u64 ((lo (Int.natAbs ((z).num)) : Nat) : Int), .string (bg (Int.natAbs ((z).num))), .bool (decide (((z).num) < 0)), .int .u64 ((lo ((z).den - 1) : Nat) : Int), .string (bg ((z).den - 1))]) (by simp [results, Try.results12, go_sem, lx2 _ r0]) rfl ⟨rfl, HB.out⟩

set_option maxHeartbeats 1000000 in
theorem fadd_same1 (a b z : Rat) (hz : a + b = z) (hs_a : sz a ≤ 100000000000) (hs_b : sz b ≤ 100000000000) (h1 : decide (a.den = 1) = true) (h2 : decide (b.den = 1) = false) (h3 : decide (a.den - 1 = b.den - 1) = false) (w : World) :
    Calls Try.prog 12 #[(Value.agg #[.int .u64 ((lo (Int.natAbs ((a).num)) : Nat) : Int), .string (bg (Int.natAbs ((a).num))), .bool (decide (((a).num) < 0)), .int .u64 ((lo ((a).den - 1) : Nat) : Int), .string (bg ((a).den - 1))]), (Value.agg #[.int .u64 ((lo (Int.natAbs ((b).num)) : Nat) : Int), .string (bg (Int.natAbs ((b).num))), .bool (decide (((b).num) < 0)), .int .u64 ((lo ((b).den - 1) : Nat) : Int), .string (bg ((b).den - 1))])] w fun e w' => e = .returned (.agg #[.int .u64 ((lo (Int.natAbs ((z).num)) : Nat) : Int), .string (bg (Int.natAbs ((z).num))), .bool (decide (((z).num) < 0)), .int .u64 ((lo ((z).den - 1) : Nat) : Int), .string (bg ((z).den - 1))]) ∧ Below w.heap.size w w' := by
  have hn_a := Nat.le_trans (sz_num a) hs_a
  have hd_a := Nat.le_trans (sz_den a) hs_a
  have he_a := Nat.le_trans (wl_mono (Nat.sub_le a.den 1)) hd_a
  have hp_a : 0 < a.den := a.den_pos
  have hn_b := Nat.le_trans (sz_num b) hs_b
  have hd_b := Nat.le_trans (sz_den b) hs_b
  have he_b := Nat.le_trans (wl_mono (Nat.sub_le b.den 1)) hd_b
  have hp_b : 0 < b.den := b.den_pos
  replace hz := Lib.hid hz
  go_enter Try.func12, Try.ntmps12
  -- region 0
  refine wp_seq_k fun K hK => ?_
  replace hK := Lib.hid hK
  refine wp_region_lit ?_
  go_wp2
  refine hK.out _ _ ?_; clear hK K
  show Code.wp _ _ _ _ _
  refine forgetW (fun w2 => Bx w2 (w.heap.size) 36 #[.int .u64 ((lo (Int.natAbs ((a).num)) : Nat) : Int), .string (bg (Int.natAbs ((a).num))), .bool (decide (((a).num) < 0)), .int .u64 ((lo ((a).den - 1) : Nat) : Int), .string (bg ((a).den - 1))] ∧ Bx w2 (w.heap.size + 1) 36 #[.int .u64 ((lo (Int.natAbs ((b).num)) : Nat) : Int), .string (bg (Int.natAbs ((b).num))), .bool (decide (((b).num) < 0)), .int .u64 ((lo ((b).den - 1) : Nat) : Int), .string (bg ((b).den - 1))] ∧ Bx w2 (w.heap.size + 1 + 1) 36 #[.int .u64 0, .string ⟨#[]⟩, .bool false, .int .u64 0, .string ⟨#[]⟩] ∧ Below w.heap.size w w2) ⟨((Bx.at rfl).alloc _).alloc _, (Bx.at (by simp)).alloc _, Bx.at (by simp), (((Below.refl _ _).alloc (Nat.le_refl _) _).alloc (by simp) _).alloc (by simp; omega) _⟩ ?_
  rintro Wx ⟨bx0, bx1, bx2, HB⟩
  replace HB := Lib.hid HB
  refine wp_seq ?_
  refine wp_block ?_
  -- region 1
  have lx0 := bx0.cells
  have lx1 := bx1.cells
  have BX0 := Lib.hid bx0
  have BX1 := Lib.hid bx1
  have BX2 := Lib.hid bx2
  clear bx0 bx1 bx2
  refine wp_seq_k fun K hK => ?_
  replace hK := Lib.hid hK
  refine wp_region_seqplan 7 [(true, 0), (true, 1), (true, 2), (true, 3), (true, 4), (true, 5), (true, 6)] (by rfl) (by simp) (fun T hT => ?_)
  iterate 1
    refine wpPlan_takeL (v := ?_) rfl (by rfl) (fun w' hw => ?_) ?_
    rotate_left
    · go_simp
      with_reducible rfl
    simp only [Act.put, List.setIfInBounds_toArray, List.set_cons_zero, List.set_cons_succ]
  refine wpPlan_callL rfl (by rfl) Try.call30 (fun w' hw => fiswhole_any (a) true _ h1) (by rfl) ?_
  simp only [Act.put, List.setIfInBounds_toArray, List.set_cons_zero, List.set_cons_succ]
  iterate 2
    refine wpPlan_takeL (v := ?_) rfl (by rfl) (fun w' hw => ?_) ?_
    rotate_left
    · go_simp
      with_reducible rfl
    simp only [Act.put, List.setIfInBounds_toArray, List.set_cons_zero, List.set_cons_succ]
  refine wpPlan_callL rfl (by rfl) Try.call30 (fun w' hw => fiswhole_any (b) false _ h2) (by rfl) ?_
  simp only [Act.put, List.setIfInBounds_toArray, List.set_cons_zero, List.set_cons_succ]
  iterate 2
    refine wpPlan_takeL (v := ?_) rfl (by rfl) (fun w' hw => ?_) ?_
    rotate_left
    · go_simp
      with_reducible rfl
    simp only [Act.put, List.setIfInBounds_toArray, List.set_cons_zero, List.set_cons_succ]
  refine wpPlan_nil (hT.out _ _ ?_); clear hT T
  intro vw1 hg
  simp only [puts, Act.put, List.setIfInBounds_toArray, List.set_cons_zero, List.set_cons_succ, List.drop_succ_cons, List.drop_zero, ↓reduceIte, Nat.reduceEqDiff]
  clear lx0 lx1
  have HG := Lib.hid (hg)
  clear hg
  have bx0 := BX0.out.gr HG.out; clear BX0
  have bx1 := BX1.out.gr HG.out; clear BX1
  have bx2 := BX2.out.gr HG.out; clear BX2
  have r0 := Gr.refl vw1
  have BX0 := Lib.hid bx0; clear bx0
  have BX1 := Lib.hid bx1; clear bx1
  have BX2 := Lib.hid bx2; clear bx2
  go_wp2
  refine hK.out _ _ ?_; clear hK K
  show Code.wp _ _ _ _ _
  clear r0
  refine forgetW (fun w2 => Bx w2 (w.heap.size) 36 #[.int .u64 ((lo (Int.natAbs ((a).num)) : Nat) : Int), .string (bg (Int.natAbs ((a).num))), .bool (decide (((a).num) < 0)), .int .u64 ((lo ((a).den - 1) : Nat) : Int), .string (bg ((a).den - 1))] ∧ Bx w2 (w.heap.size + 1) 36 #[.int .u64 ((lo (Int.natAbs ((b).num)) : Nat) : Int), .string (bg (Int.natAbs ((b).num))), .bool (decide (((b).num) < 0)), .int .u64 ((lo ((b).den - 1) : Nat) : Int), .string (bg ((b).den - 1))] ∧ Bx w2 (w.heap.size + 1 + 1) 36 #[.int .u64 0, .string ⟨#[]⟩, .bool false, .int .u64 0, .string ⟨#[]⟩] ∧ Below w.heap.size w w2) ⟨BX0.out, BX1.out, BX2.out, HB.out.trans (HG.out.mono HB.out.size)⟩ ?_
  clear HB HG BX0 BX1 BX2
  rintro Wx1 ⟨bx0, bx1, bx2, HB⟩
  replace HB := Lib.hid HB
  refine wp_cond_false (by rfl) ?_
  -- region 3
  have lx0 := bx0.cells
  have lx1 := bx1.cells
  have BX0 := Lib.hid bx0
  have BX1 := Lib.hid bx1
  have BX2 := Lib.hid bx2
  clear bx0 bx1 bx2
  refine wp_seq_k fun K hK => ?_
  replace hK := Lib.hid hK
  refine wp_region_seqplan 6 [(true, 0), (true, 1), (true, 2), (true, 3), (true, 4), (true, 5)] (by rfl) (by simp) (fun T hT => ?_)
  iterate 6
    refine wpPlan_takeL (v := ?_) rfl (by rfl) (fun w' hw => ?_) ?_
    rotate_left
    · go_simp
      with_reducible rfl
    simp only [Act.put, List.setIfInBounds_toArray, List.set_cons_zero, List.set_cons_succ]
  refine wpPlan_nil (hT.out _ _ ?_); clear hT T
  intro vw2 hg
  simp only [puts, Act.put, List.setIfInBounds_toArray, List.set_cons_zero, List.set_cons_succ, List.drop_succ_cons, List.drop_zero, ↓reduceIte, Nat.reduceEqDiff]
  clear lx0 lx1
  have HG := Lib.hid (hg)
  clear hg
  have bx0 := BX0.out.gr HG.out; clear BX0
  have bx1 := BX1.out.gr HG.out; clear BX1
  have bx2 := BX2.out.gr HG.out; clear BX2
  have r0 := Gr.refl vw2
  have BX0 := Lib.hid bx0; clear bx0
  have BX1 := Lib.hid bx1; clear bx1
  have BX2 := Lib.hid bx2; clear bx2
  go_wp2
  refine hK.out _ _ ?_; clear hK K
  show Code.wp _ _ _ _ _
  clear r0
  refine forgetW (fun w2 => Bx w2 (w.heap.size) 36 #[.int .u64 ((lo (Int.natAbs ((a).num)) : Nat) : Int), .string (bg (Int.natAbs ((a).num))), .bool (decide (((a).num) < 0)), .int .u64 ((lo ((a).den - 1) : Nat) : Int), .string (bg ((a).den - 1))] ∧ Bx w2 (w.heap.size + 1) 36 #[.int .u64 ((lo (Int.natAbs ((b).num)) : Nat) : Int), .string (bg (Int.natAbs ((b).num))), .bool (decide (((b).num) < 0)), .int .u64 ((lo ((b).den - 1) : Nat) : Int), .string (bg ((b).den - 1))] ∧ Bx w2 (w.heap.size + 1 + 1) 36 #[.int .u64 0, .string ⟨#[]⟩, .bool false, .int .u64 0, .string ⟨#[]⟩] ∧ Below w.heap.size w w2) ⟨BX0.out, BX1.out, BX2.out, HB.out.trans (HG.out.mono HB.out.size)⟩ ?_
  clear HB HG BX0 BX1 BX2
  rintro Wx3 ⟨bx0, bx1, bx2, HB⟩
  replace HB := Lib.hid HB
  refine wp_cond_false (by rfl) ?_
  refine wp_skip ?_
  show Code.wp _ _ _ _ _
  -- region 5
  obtain ⟨u1, HZ1⟩ : ∃ z, Hid (((b).den : Int) = z) := ⟨_, Lib.hid rfl⟩
  have su1 : wl (Int.natAbs u1) ≤ 100000000000 := by rw [← HZ1.out]; rw [Int.natAbs_natCast]; omega
  obtain ⟨u2, HZ2⟩ : ∃ z, Hid (((a).num) * (u1) = z) := ⟨_, Lib.hid rfl⟩
  have su2 : wl (Int.natAbs u2) ≤ 200000000000 := by rw [← HZ2.out]; have := wl_imul ((a).num) (u1); omega
  obtain ⟨u3, HZ3⟩ : ∃ z, Hid (((a).den : Int) = z) := ⟨_, Lib.hid rfl⟩
  have su3 : wl (Int.natAbs u3) ≤ 100000000000 := by rw [← HZ3.out]; rw [Int.natAbs_natCast]; omega
  obtain ⟨u4, HZ4⟩ : ∃ z, Hid (((b).num) * (u3) = z) := ⟨_, Lib.hid rfl⟩
  have su4 : wl (Int.natAbs u4) ≤ 200000000000 := by rw [← HZ4.out]; have := wl_imul ((b).num) (u3); omega
  obtain ⟨u5, HZ5⟩ : ∃ z, Hid ((u2) + (u4) = z) := ⟨_, Lib.hid rfl⟩
  have su5 : wl (Int.natAbs u5) ≤ 200000000001 := by rw [← HZ5.out]; have := wl_iadd (u2) (u4); omega
  obtain ⟨u6, HZ6⟩ : ∃ z, Hid (((a).den) * ((b).den) = z) := ⟨_, Lib.hid rfl⟩
  have su6 : wl u6 ≤ 200000000000 := by rw [← HZ6.out]; have := wl_mul ((a).den) ((b).den); omega
  have HZ7 : Hid (mkRat (u5) (u6) = z) := Lib.hid (by rw [← HZ5.out, ← HZ2.out, ← HZ4.out, ← HZ6.out, ← HZ1.out, ← HZ3.out, ← hz.out]; exact (Rat.add_def' a b).symm)
  have lx0 := bx0.cells
  have lx1 := bx1.cells
  have BX0 := Lib.hid bx0
  have BX1 := Lib.hid bx1
  have BX2 := Lib.hid bx2
  clear bx0 bx1 bx2
  refine wp_seq_k fun K hK => ?_
  replace hK := Lib.hid hK
  refine wp_region_plan 17 [] [] (fun _ => 0) (fun _ => .cells #[] 0) [(true, 0), (true, 1), (true, 2), (true, 5), (true, 6), (true, 7), (true, 11), (true, 13), (true, 3), (true, 4), (true, 8), (true, 9), (true, 10), (true, 12), (true, 14), (true, 15), (true, 16)] (by kernel_rfl) (by kernel_rfl) (fun i hi => by cases hi) (fun i hi => by cases hi) (fun _ _ _ _ _ h => h) (fun T hT => ?_)
  iterate 8
    refine wpPlan_takeL (v := ?_) rfl (by rfl) (fun w' hw => ?_) ?_
    rotate_left
    · go_simp
      with_reducible rfl
    simp only [Act.put, List.setIfInBounds_toArray, List.set_cons_zero, List.set_cons_succ]
  refine wpPlan_callL rfl (by rfl) Try.call37 (fun w' hw => fsigned_any (b) (u1) _ HZ1.out (by first | omega | exact Nat.le_trans (wl_small (by decide)) (by decide))) (by rfl) ?_
  simp only [Act.put, List.setIfInBounds_toArray, List.set_cons_zero, List.set_cons_succ]
  refine wpPlan_callL rfl (by rfl) Try.call32 (fun w' hw => zimul ((a).num) (u1) (u2) _ HZ2.out (by first | omega | exact Nat.le_trans (wl_small (by decide)) (by decide)) (by first | omega | exact Nat.le_trans (wl_small (by decide)) (by decide))) (by rfl) ?_
  simp only [Act.put, List.setIfInBounds_toArray, List.set_cons_zero, List.set_cons_succ]
  refine wpPlan_callL rfl (by rfl) Try.call37 (fun w' hw => fsigned_any (a) (u3) _ HZ3.out (by first | omega | exact Nat.le_trans (wl_small (by decide)) (by decide))) (by rfl) ?_
  simp only [Act.put, List.setIfInBounds_toArray, List.set_cons_zero, List.set_cons_succ]
  refine wpPlan_callL rfl (by rfl) Try.call32 (fun w' hw => zimul ((b).num) (u3) (u4) _ HZ4.out (by first | omega | exact Nat.le_trans (wl_small (by decide)) (by decide)) (by first | omega | exact Nat.le_trans (wl_small (by decide)) (by decide))) (by rfl) ?_
  simp only [Act.put, List.setIfInBounds_toArray, List.set_cons_zero, List.set_cons_succ]
  refine wpPlan_callL rfl (by rfl) Try.call36 (fun w' hw => ziadd (u2) (u4) (u5) _ HZ5.out (by first | omega | exact Nat.le_trans (wl_small (by decide)) (by decide)) (by first | omega | exact Nat.le_trans (wl_small (by decide)) (by decide))) (by rfl) ?_
  simp only [Act.put, List.setIfInBounds_toArray, List.set_cons_zero, List.set_cons_succ]
  refine wpPlan_callL rfl (by rfl) Try.call35 (fun w' hw => fden_any (a) (by first | omega | exact Nat.le_trans (wl_small (by decide)) (by decide)) _) (by rfl) ?_
  simp only [Act.put, List.setIfInBounds_toArray, List.set_cons_zero, List.set_cons_succ]
  refine wpPlan_callL rfl (by rfl) Try.call35 (fun w' hw => fden_any (b) (by first | omega | exact Nat.le_trans (wl_small (by decide)) (by decide)) _) (by rfl) ?_
  simp only [Act.put, List.setIfInBounds_toArray, List.set_cons_zero, List.set_cons_succ]
  refine wpPlan_callL rfl (by rfl) Try.call34 (fun w' hw => zmul ((a).den) ((b).den) (u6) _ HZ6.out (by first | omega | exact Nat.le_trans (wl_small (by decide)) (by decide)) (by first | omega | exact Nat.le_trans (wl_small (by decide)) (by decide))) (by rfl) ?_
  simp only [Act.put, List.setIfInBounds_toArray, List.set_cons_zero, List.set_cons_succ]
  refine wpPlan_callL rfl (by rfl) Try.call33 (fun w' hw => lowest_any (u5) (u6) (z) HZ7 (by rw [← HZ6.out]; exact Nat.mul_pos hp_a hp_b) (by first | omega | exact Nat.le_trans (wl_small (by decide)) (by decide)) (by first | omega | exact Nat.le_trans (wl_small (by decide)) (by decide)) _) (by rfl) ?_
  simp only [Act.put, List.setIfInBounds_toArray, List.set_cons_zero, List.set_cons_succ]
  refine wpPlan_nil (hT.out _ _ ?_); clear hT T
  intro G vw3 hg hf
  simp only [puts, Act.put, List.setIfInBounds_toArray, List.set_cons_zero, List.set_cons_succ, List.drop_succ_cons, List.drop_zero, ↓reduceIte, Nat.reduceEqDiff]
  clear lx0 lx1
  have HG := Lib.hid (hg)
  clear hg
  have bx0 := BX0.out.gr HG.out; clear BX0
  have bx1 := BX1.out.gr HG.out; clear BX1
  have bx2 := BX2.out.gr HG.out; clear BX2
  have lx2 := bx2.cells; have fx2 := bx2.free
  have r0 := Gr.refl vw3
  have BX0 := Lib.hid bx0; clear bx0
  have BX1 := Lib.hid bx1; clear bx1
  have BX2 := Lib.hid bx2; clear bx2
  go_wp2
  refine hK.out _ _ ?_; clear hK K
  show Code.wp _ _ _ _ _
  clear lx2 fx2
  clear r0
  refine forgetW (fun w2 => Bx w2 (w.heap.size + 1 + 1) 36 #[.int .u64 ((lo (Int.natAbs ((z).num)) : Nat) : Int), .string (bg (Int.natAbs ((z).num))), .bool (decide (((z).num) < 0)), .int .u64 ((lo ((z).den - 1) : Nat) : Int), .string (bg ((z).den - 1))] ∧ Below w.heap.size w w2) ⟨((((((BX2.out).set 0 _).set 1 _).set 2 _).set 3 _).set 4 _).eq (by simp only [List.setIfInBounds_toArray, List.set_cons_zero, List.set_cons_succ]), (((((HB.out.trans (HG.out.mono HB.out.size)).setCell (by show w.heap.size ≤ w.heap.size + 1 + 1; omega) _).setCell (by show w.heap.size ≤ w.heap.size + 1 + 1; omega) _).setCell (by show w.heap.size ≤ w.heap.size + 1 + 1; omega) _).setCell (by show w.heap.size ≤ w.heap.size + 1 + 1; omega) _).setCell (by show w.heap.size ≤ w.heap.size + 1 + 1; omega) _⟩ ?_
  clear HB HG BX0 BX1 BX2
  rintro Wx5 ⟨bx2, HB⟩
  replace HB := Lib.hid HB
  refine wp_ret ?_
  try simp only [Exit.then, Exit.inBlock]
  have lx2 := bx2.cells
  have r0 := Gr.refl Wx5
  exact bodyPost_ret (v := .agg #[.int .u64 ((lo (Int.natAbs ((z).num)) : Nat) : Int), .string (bg (Int.natAbs ((z).num))), .bool (decide (((z).num) < 0)), .int .u64 ((lo ((z).den - 1) : Nat) : Int), .string (bg ((z).den - 1))]) (by simp [results, Try.results12, go_sem, lx2 _ r0]) rfl ⟨rfl, HB.out⟩

set_option maxHeartbeats 1000000 in
theorem fadd_same (a b z : Rat) (hz : a + b = z) (hs_a : sz a ≤ 100000000000) (hs_b : sz b ≤ 100000000000) (h1 : decide (a.den = 1) = false) (h3 : decide (a.den - 1 = b.den - 1) = true) (w : World) :
    Calls Try.prog 12 #[(Value.agg #[.int .u64 ((lo (Int.natAbs ((a).num)) : Nat) : Int), .string (bg (Int.natAbs ((a).num))), .bool (decide (((a).num) < 0)), .int .u64 ((lo ((a).den - 1) : Nat) : Int), .string (bg ((a).den - 1))]), (Value.agg #[.int .u64 ((lo (Int.natAbs ((b).num)) : Nat) : Int), .string (bg (Int.natAbs ((b).num))), .bool (decide (((b).num) < 0)), .int .u64 ((lo ((b).den - 1) : Nat) : Int), .string (bg ((b).den - 1))])] w fun e w' => e = .returned (.agg #[.int .u64 ((lo (Int.natAbs ((z).num)) : Nat) : Int), .string (bg (Int.natAbs ((z).num))), .bool (decide (((z).num) < 0)), .int .u64 ((lo ((z).den - 1) : Nat) : Int), .string (bg ((z).den - 1))]) ∧ Below w.heap.size w w' := by
  have hn_a := Nat.le_trans (sz_num a) hs_a
  have hd_a := Nat.le_trans (sz_den a) hs_a
  have he_a := Nat.le_trans (wl_mono (Nat.sub_le a.den 1)) hd_a
  have hp_a : 0 < a.den := a.den_pos
  have hn_b := Nat.le_trans (sz_num b) hs_b
  have hd_b := Nat.le_trans (sz_den b) hs_b
  have he_b := Nat.le_trans (wl_mono (Nat.sub_le b.den 1)) hd_b
  have hp_b : 0 < b.den := b.den_pos
  replace hz := Lib.hid hz
  go_enter Try.func12, Try.ntmps12
  -- region 0
  refine wp_seq_k fun K hK => ?_
  replace hK := Lib.hid hK
  refine wp_region_lit ?_
  go_wp2
  refine hK.out _ _ ?_; clear hK K
  show Code.wp _ _ _ _ _
  refine forgetW (fun w2 => Bx w2 (w.heap.size) 36 #[.int .u64 ((lo (Int.natAbs ((a).num)) : Nat) : Int), .string (bg (Int.natAbs ((a).num))), .bool (decide (((a).num) < 0)), .int .u64 ((lo ((a).den - 1) : Nat) : Int), .string (bg ((a).den - 1))] ∧ Bx w2 (w.heap.size + 1) 36 #[.int .u64 ((lo (Int.natAbs ((b).num)) : Nat) : Int), .string (bg (Int.natAbs ((b).num))), .bool (decide (((b).num) < 0)), .int .u64 ((lo ((b).den - 1) : Nat) : Int), .string (bg ((b).den - 1))] ∧ Bx w2 (w.heap.size + 1 + 1) 36 #[.int .u64 0, .string ⟨#[]⟩, .bool false, .int .u64 0, .string ⟨#[]⟩] ∧ Below w.heap.size w w2) ⟨((Bx.at rfl).alloc _).alloc _, (Bx.at (by simp)).alloc _, Bx.at (by simp), (((Below.refl _ _).alloc (Nat.le_refl _) _).alloc (by simp) _).alloc (by simp; omega) _⟩ ?_
  rintro Wx ⟨bx0, bx1, bx2, HB⟩
  replace HB := Lib.hid HB
  refine wp_seq ?_
  refine wp_block ?_
  -- region 1
  have lx0 := bx0.cells
  have lx1 := bx1.cells
  have BX0 := Lib.hid bx0
  have BX1 := Lib.hid bx1
  have BX2 := Lib.hid bx2
  clear bx0 bx1 bx2
  refine wp_seq_k fun K hK => ?_
  replace hK := Lib.hid hK
  refine wp_region_seqplan 7 [(true, 0), (true, 1), (true, 2), (true, 3), (true, 4), (true, 5), (true, 6)] (by rfl) (by simp) (fun T hT => ?_)
  iterate 1
    refine wpPlan_takeL (v := ?_) rfl (by rfl) (fun w' hw => ?_) ?_
    rotate_left
    · go_simp
      with_reducible rfl
    simp only [Act.put, List.setIfInBounds_toArray, List.set_cons_zero, List.set_cons_succ]
  refine wpPlan_callL rfl (by rfl) Try.call30 (fun w' hw => fiswhole_any (a) false _ h1) (by rfl) ?_
  simp only [Act.put, List.setIfInBounds_toArray, List.set_cons_zero, List.set_cons_succ]
  iterate 1
    refine wpPlan_takeL (v := ?_) rfl (by rfl) (fun w' hw => ?_) ?_
    rotate_left
    · go_simp
      with_reducible rfl
    simp only [Act.put, List.setIfInBounds_toArray, List.set_cons_zero, List.set_cons_succ]
  refine wpPlan_skipL rfl (by rfl) ?_
  simp only [Act.put, List.setIfInBounds_toArray, List.set_cons_zero, List.set_cons_succ]
  refine wpPlan_skipL rfl (by rfl) ?_
  simp only [Act.put, List.setIfInBounds_toArray, List.set_cons_zero, List.set_cons_succ]
  iterate 2
    refine wpPlan_takeL (v := ?_) rfl (by rfl) (fun w' hw => ?_) ?_
    rotate_left
    · go_simp
      with_reducible rfl
    simp only [Act.put, List.setIfInBounds_toArray, List.set_cons_zero, List.set_cons_succ]
  refine wpPlan_nil (hT.out _ _ ?_); clear hT T
  intro vw1 hg
  simp only [puts, Act.put, List.setIfInBounds_toArray, List.set_cons_zero, List.set_cons_succ, List.drop_succ_cons, List.drop_zero, ↓reduceIte, Nat.reduceEqDiff]
  clear lx0 lx1
  have HG := Lib.hid (hg)
  clear hg
  have bx0 := BX0.out.gr HG.out; clear BX0
  have bx1 := BX1.out.gr HG.out; clear BX1
  have bx2 := BX2.out.gr HG.out; clear BX2
  have r0 := Gr.refl vw1
  have BX0 := Lib.hid bx0; clear bx0
  have BX1 := Lib.hid bx1; clear bx1
  have BX2 := Lib.hid bx2; clear bx2
  go_wp2
  refine hK.out _ _ ?_; clear hK K
  show Code.wp _ _ _ _ _
  clear r0
  refine forgetW (fun w2 => Bx w2 (w.heap.size) 36 #[.int .u64 ((lo (Int.natAbs ((a).num)) : Nat) : Int), .string (bg (Int.natAbs ((a).num))), .bool (decide (((a).num) < 0)), .int .u64 ((lo ((a).den - 1) : Nat) : Int), .string (bg ((a).den - 1))] ∧ Bx w2 (w.heap.size + 1) 36 #[.int .u64 ((lo (Int.natAbs ((b).num)) : Nat) : Int), .string (bg (Int.natAbs ((b).num))), .bool (decide (((b).num) < 0)), .int .u64 ((lo ((b).den - 1) : Nat) : Int), .string (bg ((b).den - 1))] ∧ Bx w2 (w.heap.size + 1 + 1) 36 #[.int .u64 0, .string ⟨#[]⟩, .bool false, .int .u64 0, .string ⟨#[]⟩] ∧ Below w.heap.size w w2) ⟨BX0.out, BX1.out, BX2.out, HB.out.trans (HG.out.mono HB.out.size)⟩ ?_
  clear HB HG BX0 BX1 BX2
  rintro Wx1 ⟨bx0, bx1, bx2, HB⟩
  replace HB := Lib.hid HB
  refine wp_cond_false (by rfl) ?_
  -- region 3
  have lx0 := bx0.cells
  have lx1 := bx1.cells
  have BX0 := Lib.hid bx0
  have BX1 := Lib.hid bx1
  have BX2 := Lib.hid bx2
  clear bx0 bx1 bx2
  refine wp_seq_k fun K hK => ?_
  replace hK := Lib.hid hK
  refine wp_region_seqplan 6 [(true, 0), (true, 1), (true, 2), (true, 3), (true, 4), (true, 5)] (by rfl) (by simp) (fun T hT => ?_)
  iterate 6
    refine wpPlan_takeL (v := ?_) rfl (by rfl) (fun w' hw => ?_) ?_
    rotate_left
    · go_simp
      with_reducible rfl
    simp only [Act.put, List.setIfInBounds_toArray, List.set_cons_zero, List.set_cons_succ]
  refine wpPlan_nil (hT.out _ _ ?_); clear hT T
  intro vw2 hg
  simp only [puts, Act.put, List.setIfInBounds_toArray, List.set_cons_zero, List.set_cons_succ, List.drop_succ_cons, List.drop_zero, ↓reduceIte, Nat.reduceEqDiff]
  clear lx0 lx1
  have HG := Lib.hid (hg)
  clear hg
  have bx0 := BX0.out.gr HG.out; clear BX0
  have bx1 := BX1.out.gr HG.out; clear BX1
  have bx2 := BX2.out.gr HG.out; clear BX2
  have r0 := Gr.refl vw2
  have BX0 := Lib.hid bx0; clear bx0
  have BX1 := Lib.hid bx1; clear bx1
  have BX2 := Lib.hid bx2; clear bx2
  go_wp2
  refine hK.out _ _ ?_; clear hK K
  show Code.wp _ _ _ _ _
  clear r0
  refine forgetW (fun w2 => Bx w2 (w.heap.size) 36 #[.int .u64 ((lo (Int.natAbs ((a).num)) : Nat) : Int), .string (bg (Int.natAbs ((a).num))), .bool (decide (((a).num) < 0)), .int .u64 ((lo ((a).den - 1) : Nat) : Int), .string (bg ((a).den - 1))] ∧ Bx w2 (w.heap.size + 1) 36 #[.int .u64 ((lo (Int.natAbs ((b).num)) : Nat) : Int), .string (bg (Int.natAbs ((b).num))), .bool (decide (((b).num) < 0)), .int .u64 ((lo ((b).den - 1) : Nat) : Int), .string (bg ((b).den - 1))] ∧ Bx w2 (w.heap.size + 1 + 1) 36 #[.int .u64 0, .string ⟨#[]⟩, .bool false, .int .u64 0, .string ⟨#[]⟩] ∧ Below w.heap.size w w2) ⟨BX0.out, BX1.out, BX2.out, HB.out.trans (HG.out.mono HB.out.size)⟩ ?_
  clear HB HG BX0 BX1 BX2
  rintro Wx3 ⟨bx0, bx1, bx2, HB⟩
  replace HB := Lib.hid HB
  refine wp_cond_true (by rfl) ?_
  -- region 4
  obtain ⟨u1, HZ1⟩ : ∃ z, Hid (((a).num) + ((b).num) = z) := ⟨_, Lib.hid rfl⟩
  have su1 : wl (Int.natAbs u1) ≤ 100000000001 := by rw [← HZ1.out]; have := wl_iadd ((a).num) ((b).num); omega
  have HZ2 : Hid (mkRat (u1) ((a).den) = z) := Lib.hid (by rw [← HZ1.out, ← hz.out]; exact add_same a b (by have := of_decide_eq_true h3; omega))
  have lx0 := bx0.cells
  have lx1 := bx1.cells
  have BX0 := Lib.hid bx0
  have BX1 := Lib.hid bx1
  have BX2 := Lib.hid bx2
  clear bx0 bx1 bx2
  refine wp_seq_k fun K hK => ?_
  replace hK := Lib.hid hK
  refine wp_region_plan 8 [] [] (fun _ => 0) (fun _ => .cells #[] 0) [(true, 0), (true, 1), (true, 2), (true, 3), (true, 5), (true, 4), (true, 6), (true, 7)] (by kernel_rfl) (by kernel_rfl) (fun i hi => by cases hi) (fun i hi => by cases hi) (fun _ _ _ _ _ h => h) (fun T hT => ?_)
  iterate 5
    refine wpPlan_takeL (v := ?_) rfl (by rfl) (fun w' hw => ?_) ?_
    rotate_left
    · go_simp
      with_reducible rfl
    simp only [Act.put, List.setIfInBounds_toArray, List.set_cons_zero, List.set_cons_succ]
  refine wpPlan_callL rfl (by rfl) Try.call36 (fun w' hw => ziadd ((a).num) ((b).num) (u1) _ HZ1.out (by first | omega | exact Nat.le_trans (wl_small (by decide)) (by decide)) (by first | omega | exact Nat.le_trans (wl_small (by decide)) (by decide))) (by rfl) ?_
  simp only [Act.put, List.setIfInBounds_toArray, List.set_cons_zero, List.set_cons_succ]
  refine wpPlan_callL rfl (by rfl) Try.call35 (fun w' hw => fden_any (a) (by first | omega | exact Nat.le_trans (wl_small (by decide)) (by decide)) _) (by rfl) ?_
  simp only [Act.put, List.setIfInBounds_toArray, List.set_cons_zero, List.set_cons_succ]
  refine wpPlan_callL rfl (by rfl) Try.call33 (fun w' hw => lowest_any (u1) ((a).den) (z) HZ2 (by omega) (by first | omega | exact Nat.le_trans (wl_small (by decide)) (by decide)) (by first | omega | exact Nat.le_trans (wl_small (by decide)) (by decide)) _) (by rfl) ?_
  simp only [Act.put, List.setIfInBounds_toArray, List.set_cons_zero, List.set_cons_succ]
  refine wpPlan_nil (hT.out _ _ ?_); clear hT T
  intro G vw3 hg hf
  simp only [puts, Act.put, List.setIfInBounds_toArray, List.set_cons_zero, List.set_cons_succ, List.drop_succ_cons, List.drop_zero, ↓reduceIte, Nat.reduceEqDiff]
  clear lx0 lx1
  have HG := Lib.hid (hg)
  clear hg
  have bx0 := BX0.out.gr HG.out; clear BX0
  have bx1 := BX1.out.gr HG.out; clear BX1
  have bx2 := BX2.out.gr HG.out; clear BX2
  have lx2 := bx2.cells; have fx2 := bx2.free
  have r0 := Gr.refl vw3
  have BX0 := Lib.hid bx0; clear bx0
  have BX1 := Lib.hid bx1; clear bx1
  have BX2 := Lib.hid bx2; clear bx2
  go_wp2
  refine hK.out _ _ ?_; clear hK K
  show Code.wp _ _ _ _ _
  clear lx2 fx2
  clear r0
  refine forgetW (fun w2 => Bx w2 (w.heap.size) 36 #[.int .u64 ((lo (Int.natAbs ((a).num)) : Nat) : Int), .string (bg (Int.natAbs ((a).num))), .bool (decide (((a).num) < 0)), .int .u64 ((lo ((a).den - 1) : Nat) : Int), .string (bg ((a).den - 1))] ∧ Bx w2 (w.heap.size + 1) 36 #[.int .u64 ((lo (Int.natAbs ((b).num)) : Nat) : Int), .string (bg (Int.natAbs ((b).num))), .bool (decide (((b).num) < 0)), .int .u64 ((lo ((b).den - 1) : Nat) : Int), .string (bg ((b).den - 1))] ∧ Bx w2 (w.heap.size + 1 + 1) 36 #[.int .u64 ((lo (Int.natAbs ((z).num)) : Nat) : Int), .string (bg (Int.natAbs ((z).num))), .bool (decide (((z).num) < 0)), .int .u64 ((lo ((z).den - 1) : Nat) : Int), .string (bg ((z).den - 1))] ∧ Below w.heap.size w w2) ⟨(((((BX0.out).setOther (by show w.heap.size ≠ w.heap.size + 1 + 1; omega) _).setOther (by show w.heap.size ≠ w.heap.size + 1 + 1; omega) _).setOther (by show w.heap.size ≠ w.heap.size + 1 + 1; omega) _).setOther (by show w.heap.size ≠ w.heap.size + 1 + 1; omega) _).setOther (by show w.heap.size ≠ w.heap.size + 1 + 1; omega) _, (((((BX1.out).setOther (by show w.heap.size + 1 ≠ w.heap.size + 1 + 1; omega) _).setOther (by show w.heap.size + 1 ≠ w.heap.size + 1 + 1; omega) _).setOther (by show w.heap.size + 1 ≠ w.heap.size + 1 + 1; omega) _).setOther (by show w.heap.size + 1 ≠ w.heap.size + 1 + 1; omega) _).setOther (by show w.heap.size + 1 ≠ w.heap.size + 1 + 1; omega) _, ((((((BX2.out).set 0 _).set 1 _).set 2 _).set 3 _).set 4 _).eq (by simp only [List.setIfInBounds_toArray, List.set_cons_zero, List.set_cons_succ]), (((((HB.out.trans (HG.out.mono HB.out.size)).setCell (by show w.heap.size ≤ w.heap.size + 1 + 1; omega) _).setCell (by show w.heap.size ≤ w.heap.size + 1 + 1; omega) _).setCell (by show w.heap.size ≤ w.heap.size + 1 + 1; omega) _).setCell (by show w.heap.size ≤ w.heap.size + 1 + 1; omega) _).setCell (by show w.heap.size ≤ w.heap.size + 1 + 1; omega) _⟩ ?_
  clear HB HG BX0 BX1 BX2
  rintro Wx4 ⟨bx0, bx1, bx2, HB⟩
  replace HB := Lib.hid HB
  refine wp_ret ?_
  try simp only [Exit.then, Exit.inBlock]
  have lx2 := bx2.cells
  have r0 := Gr.refl Wx4
  exact bodyPost_ret (v := .agg #[.int .u64 ((lo (Int.natAbs ((z).num)) : Nat) : Int), .string (bg (Int.natAbs ((z).num))), .bool (decide (((z).num) < 0)), .int .u64 ((lo ((z).den - 1) : Nat) : Int), .string (bg ((z).den - 1))]) (by simp [results, Try.results12, go_sem, lx2 _ r0]) rfl ⟨rfl, HB.out⟩

set_option maxHeartbeats 1000000 in
theorem fadd_other (a b z : Rat) (hz : a + b = z) (hs_a : sz a ≤ 100000000000) (hs_b : sz b ≤ 100000000000) (h1 : decide (a.den = 1) = false) (h3 : decide (a.den - 1 = b.den - 1) = false) (w : World) :
    Calls Try.prog 12 #[(Value.agg #[.int .u64 ((lo (Int.natAbs ((a).num)) : Nat) : Int), .string (bg (Int.natAbs ((a).num))), .bool (decide (((a).num) < 0)), .int .u64 ((lo ((a).den - 1) : Nat) : Int), .string (bg ((a).den - 1))]), (Value.agg #[.int .u64 ((lo (Int.natAbs ((b).num)) : Nat) : Int), .string (bg (Int.natAbs ((b).num))), .bool (decide (((b).num) < 0)), .int .u64 ((lo ((b).den - 1) : Nat) : Int), .string (bg ((b).den - 1))])] w fun e w' => e = .returned (.agg #[.int .u64 ((lo (Int.natAbs ((z).num)) : Nat) : Int), .string (bg (Int.natAbs ((z).num))), .bool (decide (((z).num) < 0)), .int .u64 ((lo ((z).den - 1) : Nat) : Int), .string (bg ((z).den - 1))]) ∧ Below w.heap.size w w' := by
  have hn_a := Nat.le_trans (sz_num a) hs_a
  have hd_a := Nat.le_trans (sz_den a) hs_a
  have he_a := Nat.le_trans (wl_mono (Nat.sub_le a.den 1)) hd_a
  have hp_a : 0 < a.den := a.den_pos
  have hn_b := Nat.le_trans (sz_num b) hs_b
  have hd_b := Nat.le_trans (sz_den b) hs_b
  have he_b := Nat.le_trans (wl_mono (Nat.sub_le b.den 1)) hd_b
  have hp_b : 0 < b.den := b.den_pos
  replace hz := Lib.hid hz
  go_enter Try.func12, Try.ntmps12
  -- region 0
  refine wp_seq_k fun K hK => ?_
  replace hK := Lib.hid hK
  refine wp_region_lit ?_
  go_wp2
  refine hK.out _ _ ?_; clear hK K
  show Code.wp _ _ _ _ _
  refine forgetW (fun w2 => Bx w2 (w.heap.size) 36 #[.int .u64 ((lo (Int.natAbs ((a).num)) : Nat) : Int), .string (bg (Int.natAbs ((a).num))), .bool (decide (((a).num) < 0)), .int .u64 ((lo ((a).den - 1) : Nat) : Int), .string (bg ((a).den - 1))] ∧ Bx w2 (w.heap.size + 1) 36 #[.int .u64 ((lo (Int.natAbs ((b).num)) : Nat) : Int), .string (bg (Int.natAbs ((b).num))), .bool (decide (((b).num) < 0)), .int .u64 ((lo ((b).den - 1) : Nat) : Int), .string (bg ((b).den - 1))] ∧ Bx w2 (w.heap.size + 1 + 1) 36 #[.int .u64 0, .string ⟨#[]⟩, .bool false, .int .u64 0, .string ⟨#[]⟩] ∧ Below w.heap.size w w2) ⟨((Bx.at rfl).alloc _).alloc _, (Bx.at (by simp)).alloc _, Bx.at (by simp), (((Below.refl _ _).alloc (Nat.le_refl _) _).alloc (by simp) _).alloc (by simp; omega) _⟩ ?_
  rintro Wx ⟨bx0, bx1, bx2, HB⟩
  replace HB := Lib.hid HB
  refine wp_seq ?_
  refine wp_block ?_
  -- region 1
  have lx0 := bx0.cells
  have lx1 := bx1.cells
  have BX0 := Lib.hid bx0
  have BX1 := Lib.hid bx1
  have BX2 := Lib.hid bx2
  clear bx0 bx1 bx2
  refine wp_seq_k fun K hK => ?_
  replace hK := Lib.hid hK
  refine wp_region_seqplan 7 [(true, 0), (true, 1), (true, 2), (true, 3), (true, 4), (true, 5), (true, 6)] (by rfl) (by simp) (fun T hT => ?_)
  iterate 1
    refine wpPlan_takeL (v := ?_) rfl (by rfl) (fun w' hw => ?_) ?_
    rotate_left
    · go_simp
      with_reducible rfl
    simp only [Act.put, List.setIfInBounds_toArray, List.set_cons_zero, List.set_cons_succ]
  refine wpPlan_callL rfl (by rfl) Try.call30 (fun w' hw => fiswhole_any (a) false _ h1) (by rfl) ?_
  simp only [Act.put, List.setIfInBounds_toArray, List.set_cons_zero, List.set_cons_succ]
  iterate 1
    refine wpPlan_takeL (v := ?_) rfl (by rfl) (fun w' hw => ?_) ?_
    rotate_left
    · go_simp
      with_reducible rfl
    simp only [Act.put, List.setIfInBounds_toArray, List.set_cons_zero, List.set_cons_succ]
  refine wpPlan_skipL rfl (by rfl) ?_
  simp only [Act.put, List.setIfInBounds_toArray, List.set_cons_zero, List.set_cons_succ]
  refine wpPlan_skipL rfl (by rfl) ?_
  simp only [Act.put, List.setIfInBounds_toArray, List.set_cons_zero, List.set_cons_succ]
  iterate 2
    refine wpPlan_takeL (v := ?_) rfl (by rfl) (fun w' hw => ?_) ?_
    rotate_left
    · go_simp
      with_reducible rfl
    simp only [Act.put, List.setIfInBounds_toArray, List.set_cons_zero, List.set_cons_succ]
  refine wpPlan_nil (hT.out _ _ ?_); clear hT T
  intro vw1 hg
  simp only [puts, Act.put, List.setIfInBounds_toArray, List.set_cons_zero, List.set_cons_succ, List.drop_succ_cons, List.drop_zero, ↓reduceIte, Nat.reduceEqDiff]
  clear lx0 lx1
  have HG := Lib.hid (hg)
  clear hg
  have bx0 := BX0.out.gr HG.out; clear BX0
  have bx1 := BX1.out.gr HG.out; clear BX1
  have bx2 := BX2.out.gr HG.out; clear BX2
  have r0 := Gr.refl vw1
  have BX0 := Lib.hid bx0; clear bx0
  have BX1 := Lib.hid bx1; clear bx1
  have BX2 := Lib.hid bx2; clear bx2
  go_wp2
  refine hK.out _ _ ?_; clear hK K
  show Code.wp _ _ _ _ _
  clear r0
  refine forgetW (fun w2 => Bx w2 (w.heap.size) 36 #[.int .u64 ((lo (Int.natAbs ((a).num)) : Nat) : Int), .string (bg (Int.natAbs ((a).num))), .bool (decide (((a).num) < 0)), .int .u64 ((lo ((a).den - 1) : Nat) : Int), .string (bg ((a).den - 1))] ∧ Bx w2 (w.heap.size + 1) 36 #[.int .u64 ((lo (Int.natAbs ((b).num)) : Nat) : Int), .string (bg (Int.natAbs ((b).num))), .bool (decide (((b).num) < 0)), .int .u64 ((lo ((b).den - 1) : Nat) : Int), .string (bg ((b).den - 1))] ∧ Bx w2 (w.heap.size + 1 + 1) 36 #[.int .u64 0, .string ⟨#[]⟩, .bool false, .int .u64 0, .string ⟨#[]⟩] ∧ Below w.heap.size w w2) ⟨BX0.out, BX1.out, BX2.out, HB.out.trans (HG.out.mono HB.out.size)⟩ ?_
  clear HB HG BX0 BX1 BX2
  rintro Wx1 ⟨bx0, bx1, bx2, HB⟩
  replace HB := Lib.hid HB
  refine wp_cond_false (by rfl) ?_
  -- region 3
  have lx0 := bx0.cells
  have lx1 := bx1.cells
  have BX0 := Lib.hid bx0
  have BX1 := Lib.hid bx1
  have BX2 := Lib.hid bx2
  clear bx0 bx1 bx2
  refine wp_seq_k fun K hK => ?_
  replace hK := Lib.hid hK
  refine wp_region_seqplan 6 [(true, 0), (true, 1), (true, 2), (true, 3), (true, 4), (true, 5)] (by rfl) (by simp) (fun T hT => ?_)
  iterate 6
    refine wpPlan_takeL (v := ?_) rfl (by rfl) (fun w' hw => ?_) ?_
    rotate_left
    · go_simp
      with_reducible rfl
    simp only [Act.put, List.setIfInBounds_toArray, List.set_cons_zero, List.set_cons_succ]
  refine wpPlan_nil (hT.out _ _ ?_); clear hT T
  intro vw2 hg
  simp only [puts, Act.put, List.setIfInBounds_toArray, List.set_cons_zero, List.set_cons_succ, List.drop_succ_cons, List.drop_zero, ↓reduceIte, Nat.reduceEqDiff]
  clear lx0 lx1
  have HG := Lib.hid (hg)
  clear hg
  have bx0 := BX0.out.gr HG.out; clear BX0
  have bx1 := BX1.out.gr HG.out; clear BX1
  have bx2 := BX2.out.gr HG.out; clear BX2
  have r0 := Gr.refl vw2
  have BX0 := Lib.hid bx0; clear bx0
  have BX1 := Lib.hid bx1; clear bx1
  have BX2 := Lib.hid bx2; clear bx2
  go_wp2
  refine hK.out _ _ ?_; clear hK K
  show Code.wp _ _ _ _ _
  clear r0
  refine forgetW (fun w2 => Bx w2 (w.heap.size) 36 #[.int .u64 ((lo (Int.natAbs ((a).num)) : Nat) : Int), .string (bg (Int.natAbs ((a).num))), .bool (decide (((a).num) < 0)), .int .u64 ((lo ((a).den - 1) : Nat) : Int), .string (bg ((a).den - 1))] ∧ Bx w2 (w.heap.size + 1) 36 #[.int .u64 ((lo (Int.natAbs ((b).num)) : Nat) : Int), .string (bg (Int.natAbs ((b).num))), .bool (decide (((b).num) < 0)), .int .u64 ((lo ((b).den - 1) : Nat) : Int), .string (bg ((b).den - 1))] ∧ Bx w2 (w.heap.size + 1 + 1) 36 #[.int .u64 0, .string ⟨#[]⟩, .bool false, .int .u64 0, .string ⟨#[]⟩] ∧ Below w.heap.size w w2) ⟨BX0.out, BX1.out, BX2.out, HB.out.trans (HG.out.mono HB.out.size)⟩ ?_
  clear HB HG BX0 BX1 BX2
  rintro Wx3 ⟨bx0, bx1, bx2, HB⟩
  replace HB := Lib.hid HB
  refine wp_cond_false (by rfl) ?_
  refine wp_skip ?_
  show Code.wp _ _ _ _ _
  -- region 5
  obtain ⟨u1, HZ1⟩ : ∃ z, Hid (((b).den : Int) = z) := ⟨_, Lib.hid rfl⟩
  have su1 : wl (Int.natAbs u1) ≤ 100000000000 := by rw [← HZ1.out]; rw [Int.natAbs_natCast]; omega
  obtain ⟨u2, HZ2⟩ : ∃ z, Hid (((a).num) * (u1) = z) := ⟨_, Lib.hid rfl⟩
  have su2 : wl (Int.natAbs u2) ≤ 200000000000 := by rw [← HZ2.out]; have := wl_imul ((a).num) (u1); omega
  obtain ⟨u3, HZ3⟩ : ∃ z, Hid (((a).den : Int) = z) := ⟨_, Lib.hid rfl⟩
  have su3 : wl (Int.natAbs u3) ≤ 100000000000 := by rw [← HZ3.out]; rw [Int.natAbs_natCast]; omega
  obtain ⟨u4, HZ4⟩ : ∃ z, Hid (((b).num) * (u3) = z) := ⟨_, Lib.hid rfl⟩
  have su4 : wl (Int.natAbs u4) ≤ 200000000000 := by rw [← HZ4.out]; have := wl_imul ((b).num) (u3); omega
  obtain ⟨u5, HZ5⟩ : ∃ z, Hid ((u2) + (u4) = z) := ⟨_, Lib.hid rfl⟩
  have su5 : wl (Int.natAbs u5) ≤ 200000000001 := by rw [← HZ5.out]; have := wl_iadd (u2) (u4); omega
  obtain ⟨u6, HZ6⟩ : ∃ z, Hid (((a).den) * ((b).den) = z) := ⟨_, Lib.hid rfl⟩
  have su6 : wl u6 ≤ 200000000000 := by rw [← HZ6.out]; have := wl_mul ((a).den) ((b).den); omega
  have HZ7 : Hid (mkRat (u5) (u6) = z) := Lib.hid (by rw [← HZ5.out, ← HZ2.out, ← HZ4.out, ← HZ6.out, ← HZ1.out, ← HZ3.out, ← hz.out]; exact (Rat.add_def' a b).symm)
  have lx0 := bx0.cells
  have lx1 := bx1.cells
  have BX0 := Lib.hid bx0
  have BX1 := Lib.hid bx1
  have BX2 := Lib.hid bx2
  clear bx0 bx1 bx2
  refine wp_seq_k fun K hK => ?_
  replace hK := Lib.hid hK
  refine wp_region_plan 17 [] [] (fun _ => 0) (fun _ => .cells #[] 0) [(true, 0), (true, 1), (true, 2), (true, 5), (true, 6), (true, 7), (true, 11), (true, 13), (true, 3), (true, 4), (true, 8), (true, 9), (true, 10), (true, 12), (true, 14), (true, 15), (true, 16)] (by kernel_rfl) (by kernel_rfl) (fun i hi => by cases hi) (fun i hi => by cases hi) (fun _ _ _ _ _ h => h) (fun T hT => ?_)
  iterate 8
    refine wpPlan_takeL (v := ?_) rfl (by rfl) (fun w' hw => ?_) ?_
    rotate_left
    · go_simp
      with_reducible rfl
    simp only [Act.put, List.setIfInBounds_toArray, List.set_cons_zero, List.set_cons_succ]
  refine wpPlan_callL rfl (by rfl) Try.call37 (fun w' hw => fsigned_any (b) (u1) _ HZ1.out (by first | omega | exact Nat.le_trans (wl_small (by decide)) (by decide))) (by rfl) ?_
  simp only [Act.put, List.setIfInBounds_toArray, List.set_cons_zero, List.set_cons_succ]
  refine wpPlan_callL rfl (by rfl) Try.call32 (fun w' hw => zimul ((a).num) (u1) (u2) _ HZ2.out (by first | omega | exact Nat.le_trans (wl_small (by decide)) (by decide)) (by first | omega | exact Nat.le_trans (wl_small (by decide)) (by decide))) (by rfl) ?_
  simp only [Act.put, List.setIfInBounds_toArray, List.set_cons_zero, List.set_cons_succ]
  refine wpPlan_callL rfl (by rfl) Try.call37 (fun w' hw => fsigned_any (a) (u3) _ HZ3.out (by first | omega | exact Nat.le_trans (wl_small (by decide)) (by decide))) (by rfl) ?_
  simp only [Act.put, List.setIfInBounds_toArray, List.set_cons_zero, List.set_cons_succ]
  refine wpPlan_callL rfl (by rfl) Try.call32 (fun w' hw => zimul ((b).num) (u3) (u4) _ HZ4.out (by first | omega | exact Nat.le_trans (wl_small (by decide)) (by decide)) (by first | omega | exact Nat.le_trans (wl_small (by decide)) (by decide))) (by rfl) ?_
  simp only [Act.put, List.setIfInBounds_toArray, List.set_cons_zero, List.set_cons_succ]
  refine wpPlan_callL rfl (by rfl) Try.call36 (fun w' hw => ziadd (u2) (u4) (u5) _ HZ5.out (by first | omega | exact Nat.le_trans (wl_small (by decide)) (by decide)) (by first | omega | exact Nat.le_trans (wl_small (by decide)) (by decide))) (by rfl) ?_
  simp only [Act.put, List.setIfInBounds_toArray, List.set_cons_zero, List.set_cons_succ]
  refine wpPlan_callL rfl (by rfl) Try.call35 (fun w' hw => fden_any (a) (by first | omega | exact Nat.le_trans (wl_small (by decide)) (by decide)) _) (by rfl) ?_
  simp only [Act.put, List.setIfInBounds_toArray, List.set_cons_zero, List.set_cons_succ]
  refine wpPlan_callL rfl (by rfl) Try.call35 (fun w' hw => fden_any (b) (by first | omega | exact Nat.le_trans (wl_small (by decide)) (by decide)) _) (by rfl) ?_
  simp only [Act.put, List.setIfInBounds_toArray, List.set_cons_zero, List.set_cons_succ]
  refine wpPlan_callL rfl (by rfl) Try.call34 (fun w' hw => zmul ((a).den) ((b).den) (u6) _ HZ6.out (by first | omega | exact Nat.le_trans (wl_small (by decide)) (by decide)) (by first | omega | exact Nat.le_trans (wl_small (by decide)) (by decide))) (by rfl) ?_
  simp only [Act.put, List.setIfInBounds_toArray, List.set_cons_zero, List.set_cons_succ]
  refine wpPlan_callL rfl (by rfl) Try.call33 (fun w' hw => lowest_any (u5) (u6) (z) HZ7 (by rw [← HZ6.out]; exact Nat.mul_pos hp_a hp_b) (by first | omega | exact Nat.le_trans (wl_small (by decide)) (by decide)) (by first | omega | exact Nat.le_trans (wl_small (by decide)) (by decide)) _) (by rfl) ?_
  simp only [Act.put, List.setIfInBounds_toArray, List.set_cons_zero, List.set_cons_succ]
  refine wpPlan_nil (hT.out _ _ ?_); clear hT T
  intro G vw3 hg hf
  simp only [puts, Act.put, List.setIfInBounds_toArray, List.set_cons_zero, List.set_cons_succ, List.drop_succ_cons, List.drop_zero, ↓reduceIte, Nat.reduceEqDiff]
  clear lx0 lx1
  have HG := Lib.hid (hg)
  clear hg
  have bx0 := BX0.out.gr HG.out; clear BX0
  have bx1 := BX1.out.gr HG.out; clear BX1
  have bx2 := BX2.out.gr HG.out; clear BX2
  have lx2 := bx2.cells; have fx2 := bx2.free
  have r0 := Gr.refl vw3
  have BX0 := Lib.hid bx0; clear bx0
  have BX1 := Lib.hid bx1; clear bx1
  have BX2 := Lib.hid bx2; clear bx2
  go_wp2
  refine hK.out _ _ ?_; clear hK K
  show Code.wp _ _ _ _ _
  clear lx2 fx2
  clear r0
  refine forgetW (fun w2 => Bx w2 (w.heap.size + 1 + 1) 36 #[.int .u64 ((lo (Int.natAbs ((z).num)) : Nat) : Int), .string (bg (Int.natAbs ((z).num))), .bool (decide (((z).num) < 0)), .int .u64 ((lo ((z).den - 1) : Nat) : Int), .string (bg ((z).den - 1))] ∧ Below w.heap.size w w2) ⟨((((((BX2.out).set 0 _).set 1 _).set 2 _).set 3 _).set 4 _).eq (by simp only [List.setIfInBounds_toArray, List.set_cons_zero, List.set_cons_succ]), (((((HB.out.trans (HG.out.mono HB.out.size)).setCell (by show w.heap.size ≤ w.heap.size + 1 + 1; omega) _).setCell (by show w.heap.size ≤ w.heap.size + 1 + 1; omega) _).setCell (by show w.heap.size ≤ w.heap.size + 1 + 1; omega) _).setCell (by show w.heap.size ≤ w.heap.size + 1 + 1; omega) _).setCell (by show w.heap.size ≤ w.heap.size + 1 + 1; omega) _⟩ ?_
  clear HB HG BX0 BX1 BX2
  rintro Wx5 ⟨bx2, HB⟩
  replace HB := Lib.hid HB
  refine wp_ret ?_
  try simp only [Exit.then, Exit.inBlock]
  have lx2 := bx2.cells
  have r0 := Gr.refl Wx5
  exact bodyPost_ret (v := .agg #[.int .u64 ((lo (Int.natAbs ((z).num)) : Nat) : Int), .string (bg (Int.natAbs ((z).num))), .bool (decide (((z).num) < 0)), .int .u64 ((lo ((z).den - 1) : Nat) : Int), .string (bg ((z).den - 1))]) (by simp [results, Try.results12, go_sem, lx2 _ r0]) rfl ⟨rfl, HB.out⟩

theorem fadd_any (a b z : Rat) (w : World) (hz : a + b = z) (hs_a : sz a ≤ 100000000000) (hs_b : sz b ≤ 100000000000) :
    Calls Try.prog 12 #[(Value.agg #[.int .u64 ((lo (Int.natAbs ((a).num)) : Nat) : Int), .string (bg (Int.natAbs ((a).num))), .bool (decide (((a).num) < 0)), .int .u64 ((lo ((a).den - 1) : Nat) : Int), .string (bg ((a).den - 1))]), (Value.agg #[.int .u64 ((lo (Int.natAbs ((b).num)) : Nat) : Int), .string (bg (Int.natAbs ((b).num))), .bool (decide (((b).num) < 0)), .int .u64 ((lo ((b).den - 1) : Nat) : Int), .string (bg ((b).den - 1))])] w fun e w' => e = .returned (Value.agg #[.int .u64 ((lo (Int.natAbs ((z).num)) : Nat) : Int), .string (bg (Int.natAbs ((z).num))), .bool (decide (((z).num) < 0)), .int .u64 ((lo ((z).den - 1) : Nat) : Int), .string (bg ((z).den - 1))]) ∧ Below w.heap.size w w' := by
  cases h1 : decide (a.den = 1)
  · cases h3 : decide (a.den - 1 = b.den - 1)
    · exact fadd_other a b z hz hs_a hs_b h1 h3 w
    · exact fadd_same a b z hz hs_a hs_b h1 h3 w
  · cases h2 : decide (b.den = 1)
    · refine fadd_same1 a b z hz hs_a hs_b h1 h2 ?_ w
      have := a.den_pos
      have := b.den_pos
      have := of_decide_eq_true h1
      have := of_decide_eq_false h2
      exact decide_eq_false (by omega)
    · exact fadd_int a b z hz hs_a hs_b h1 h2 w

set_option maxHeartbeats 1000000 in
theorem fmul_int (a b z : Rat) (hz : a * b = z) (hs_a : sz a ≤ 100000000000) (hs_b : sz b ≤ 100000000000) (h1 : decide (a.den = 1) = true) (h2 : decide (b.den = 1) = true) (w : World) :
    Calls Try.prog 10 #[(Value.agg #[.int .u64 ((lo (Int.natAbs ((a).num)) : Nat) : Int), .string (bg (Int.natAbs ((a).num))), .bool (decide (((a).num) < 0)), .int .u64 ((lo ((a).den - 1) : Nat) : Int), .string (bg ((a).den - 1))]), (Value.agg #[.int .u64 ((lo (Int.natAbs ((b).num)) : Nat) : Int), .string (bg (Int.natAbs ((b).num))), .bool (decide (((b).num) < 0)), .int .u64 ((lo ((b).den - 1) : Nat) : Int), .string (bg ((b).den - 1))])] w fun e w' => e = .returned (.agg #[.int .u64 ((lo (Int.natAbs ((z).num)) : Nat) : Int), .string (bg (Int.natAbs ((z).num))), .bool (decide (((z).num) < 0)), .int .u64 ((lo ((z).den - 1) : Nat) : Int), .string (bg ((z).den - 1))]) ∧ Below w.heap.size w w' := by
  have hn_a := Nat.le_trans (sz_num a) hs_a
  have hd_a := Nat.le_trans (sz_den a) hs_a
  have he_a := Nat.le_trans (wl_mono (Nat.sub_le a.den 1)) hd_a
  have hp_a : 0 < a.den := a.den_pos
  have hn_b := Nat.le_trans (sz_num b) hs_b
  have hd_b := Nat.le_trans (sz_den b) hs_b
  have he_b := Nat.le_trans (wl_mono (Nat.sub_le b.den 1)) hd_b
  have hp_b : 0 < b.den := b.den_pos
  replace hz := Lib.hid hz
  go_enter Try.func10, Try.ntmps10
  -- region 0
  refine wp_seq_k fun K hK => ?_
  replace hK := Lib.hid hK
  refine wp_region_lit ?_
  go_wp2
  refine hK.out _ _ ?_; clear hK K
  show Code.wp _ _ _ _ _
  refine forgetW (fun w2 => Bx w2 (w.heap.size) 36 #[.int .u64 ((lo (Int.natAbs ((a).num)) : Nat) : Int), .string (bg (Int.natAbs ((a).num))), .bool (decide (((a).num) < 0)), .int .u64 ((lo ((a).den - 1) : Nat) : Int), .string (bg ((a).den - 1))] ∧ Bx w2 (w.heap.size + 1) 36 #[.int .u64 ((lo (Int.natAbs ((b).num)) : Nat) : Int), .string (bg (Int.natAbs ((b).num))), .bool (decide (((b).num) < 0)), .int .u64 ((lo ((b).den - 1) : Nat) : Int), .string (bg ((b).den - 1))] ∧ Bx w2 (w.heap.size + 1 + 1) 36 #[.int .u64 0, .string ⟨#[]⟩, .bool false, .int .u64 0, .string ⟨#[]⟩] ∧ Below w.heap.size w w2) ⟨((Bx.at rfl).alloc _).alloc _, (Bx.at (by simp)).alloc _, Bx.at (by simp), (((Below.refl _ _).alloc (Nat.le_refl _) _).alloc (by simp) _).alloc (by simp; omega) _⟩ ?_
  rintro Wx ⟨bx0, bx1, bx2, HB⟩
  replace HB := Lib.hid HB
  refine wp_seq ?_
  -- region 1
  have lx0 := bx0.cells
  have lx1 := bx1.cells
  have BX0 := Lib.hid bx0
  have BX1 := Lib.hid bx1
  have BX2 := Lib.hid bx2
  clear bx0 bx1 bx2
  refine wp_seq_k fun K hK => ?_
  replace hK := Lib.hid hK
  refine wp_region_seqplan 6 [(true, 0), (true, 1), (true, 2), (true, 3), (true, 4), (true, 5)] (by rfl) (by simp) (fun T hT => ?_)
  iterate 1
    refine wpPlan_takeL (v := ?_) rfl (by rfl) (fun w' hw => ?_) ?_
    rotate_left
    · go_simp
      with_reducible rfl
    simp only [Act.put, List.setIfInBounds_toArray, List.set_cons_zero, List.set_cons_succ]
  refine wpPlan_callL rfl (by rfl) Try.call30 (fun w' hw => fiswhole_any (a) true _ h1) (by rfl) ?_
  simp only [Act.put, List.setIfInBounds_toArray, List.set_cons_zero, List.set_cons_succ]
  iterate 2
    refine wpPlan_takeL (v := ?_) rfl (by rfl) (fun w' hw => ?_) ?_
    rotate_left
    · go_simp
      with_reducible rfl
    simp only [Act.put, List.setIfInBounds_toArray, List.set_cons_zero, List.set_cons_succ]
  refine wpPlan_callL rfl (by rfl) Try.call30 (fun w' hw => fiswhole_any (b) true _ h2) (by rfl) ?_
  simp only [Act.put, List.setIfInBounds_toArray, List.set_cons_zero, List.set_cons_succ]
  iterate 1
    refine wpPlan_takeL (v := ?_) rfl (by rfl) (fun w' hw => ?_) ?_
    rotate_left
    · go_simp
      with_reducible rfl
    simp only [Act.put, List.setIfInBounds_toArray, List.set_cons_zero, List.set_cons_succ]
  refine wpPlan_nil (hT.out _ _ ?_); clear hT T
  intro vw1 hg
  simp only [puts, Act.put, List.setIfInBounds_toArray, List.set_cons_zero, List.set_cons_succ, List.drop_succ_cons, List.drop_zero, ↓reduceIte, Nat.reduceEqDiff]
  clear lx0 lx1
  have HG := Lib.hid (hg)
  clear hg
  have bx0 := BX0.out.gr HG.out; clear BX0
  have bx1 := BX1.out.gr HG.out; clear BX1
  have bx2 := BX2.out.gr HG.out; clear BX2
  have r0 := Gr.refl vw1
  have BX0 := Lib.hid bx0; clear bx0
  have BX1 := Lib.hid bx1; clear bx1
  have BX2 := Lib.hid bx2; clear bx2
  go_wp2
  refine hK.out _ _ ?_; clear hK K
  show Code.wp _ _ _ _ _
  clear r0
  refine forgetW (fun w2 => Bx w2 (w.heap.size) 36 #[.int .u64 ((lo (Int.natAbs ((a).num)) : Nat) : Int), .string (bg (Int.natAbs ((a).num))), .bool (decide (((a).num) < 0)), .int .u64 ((lo ((a).den - 1) : Nat) : Int), .string (bg ((a).den - 1))] ∧ Bx w2 (w.heap.size + 1) 36 #[.int .u64 ((lo (Int.natAbs ((b).num)) : Nat) : Int), .string (bg (Int.natAbs ((b).num))), .bool (decide (((b).num) < 0)), .int .u64 ((lo ((b).den - 1) : Nat) : Int), .string (bg ((b).den - 1))] ∧ Bx w2 (w.heap.size + 1 + 1) 36 #[.int .u64 0, .string ⟨#[]⟩, .bool false, .int .u64 0, .string ⟨#[]⟩] ∧ Below w.heap.size w w2) ⟨BX0.out, BX1.out, BX2.out, HB.out.trans (HG.out.mono HB.out.size)⟩ ?_
  clear HB HG BX0 BX1 BX2
  rintro Wx1 ⟨bx0, bx1, bx2, HB⟩
  replace HB := Lib.hid HB
  refine wp_cond_true (by rfl) ?_
  -- region 2
  obtain ⟨u1, HZ1⟩ : ∃ z, Hid (((a).num) * ((b).num) = z) := ⟨_, Lib.hid rfl⟩
  have su1 : wl (Int.natAbs u1) ≤ 200000000000 := by rw [← HZ1.out]; have := wl_imul ((a).num) ((b).num); omega
  have HZ2 : Hid (((u1 : Int) : Rat) = z) := Lib.hid (by rw [← HZ1.out, ← hz.out]; exact mul_int a b (of_decide_eq_true h1) (of_decide_eq_true h2))
  have lx0 := bx0.cells
  have lx1 := bx1.cells
  have BX0 := Lib.hid bx0
  have BX1 := Lib.hid bx1
  have BX2 := Lib.hid bx2
  clear bx0 bx1 bx2
  refine wp_seq_k fun K hK => ?_
  replace hK := Lib.hid hK
  refine wp_region_seqplan 6 [(true, 0), (true, 1), (true, 2), (true, 3), (true, 4), (true, 5)] (by rfl) (by simp) (fun T hT => ?_)
  iterate 4
    refine wpPlan_takeL (v := ?_) rfl (by rfl) (fun w' hw => ?_) ?_
    rotate_left
    · go_simp
      with_reducible rfl
    simp only [Act.put, List.setIfInBounds_toArray, List.set_cons_zero, List.set_cons_succ]
  refine wpPlan_callL rfl (by rfl) Try.call32 (fun w' hw => zimul ((a).num) ((b).num) (u1) _ HZ1.out (by first | omega | exact Nat.le_trans (wl_small (by decide)) (by decide)) (by first | omega | exact Nat.le_trans (wl_small (by decide)) (by decide))) (by rfl) ?_
  simp only [Act.put, List.setIfInBounds_toArray, List.set_cons_zero, List.set_cons_succ]
  refine wpPlan_callL rfl (by rfl) Try.call31 (fun w' hw => fwhole_any (u1) (z) _ HZ2.out) (by rfl) ?_
  simp only [Act.put, List.setIfInBounds_toArray, List.set_cons_zero, List.set_cons_succ]
  refine wpPlan_nil (hT.out _ _ ?_); clear hT T
  intro vw2 hg
  simp only [puts, Act.put, List.setIfInBounds_toArray, List.set_cons_zero, List.set_cons_succ, List.drop_succ_cons, List.drop_zero, ↓reduceIte, Nat.reduceEqDiff]
  clear lx0 lx1
  have HG := Lib.hid (hg)
  clear hg
  have bx0 := BX0.out.gr HG.out; clear BX0
  have bx1 := BX1.out.gr HG.out; clear BX1
  have bx2 := BX2.out.gr HG.out; clear BX2
  have lx2 := bx2.cells; have fx2 := bx2.free
  have r0 := Gr.refl vw2
  have BX0 := Lib.hid bx0; clear bx0
  have BX1 := Lib.hid bx1; clear bx1
  have BX2 := Lib.hid bx2; clear bx2
  go_wp2
  refine hK.out _ _ ?_; clear hK K
  show Code.wp _ _ _ _ _
  clear lx2 fx2
  clear r0
  refine forgetW (fun w2 => Bx w2 (w.heap.size) 36 #[.int .u64 ((lo (Int.natAbs ((a).num)) : Nat) : Int), .string (bg (Int.natAbs ((a).num))), .bool (decide (((a).num) < 0)), .int .u64 ((lo ((a).den - 1) : Nat) : Int), .string (bg ((a).den - 1))] ∧ Bx w2 (w.heap.size + 1) 36 #[.int .u64 ((lo (Int.natAbs ((b).num)) : Nat) : Int), .string (bg (Int.natAbs ((b).num))), .bool (decide (((b).num) < 0)), .int .u64 ((lo ((b).den - 1) : Nat) : Int), .string (bg ((b).den - 1))] ∧ Bx w2 (w.heap.size + 1 + 1) 36 #[.int .u64 ((lo (Int.natAbs ((z).num)) : Nat) : Int), .string (bg (Int.natAbs ((z).num))), .bool (decide (((z).num) < 0)), .int .u64 ((lo ((z).den - 1) : Nat) : Int), .string (bg ((z).den - 1))] ∧ Below w.heap.size w w2) ⟨(((((BX0.out).setOther (by show w.heap.size ≠ w.heap.size + 1 + 1; omega) _).setOther (by show w.heap.size ≠ w.heap.size + 1 + 1; omega) _).setOther (by show w.heap.size ≠ w.heap.size + 1 + 1; omega) _).setOther (by show w.heap.size ≠ w.heap.size + 1 + 1; omega) _).setOther (by show w.heap.size ≠ w.heap.size + 1 + 1; omega) _, (((((BX1.out).setOther (by show w.heap.size + 1 ≠ w.heap.size + 1 + 1; omega) _).setOther (by show w.heap.size + 1 ≠ w.heap.size + 1 + 1; omega) _).setOther (by show w.heap.size + 1 ≠ w.heap.size + 1 + 1; omega) _).setOther (by show w.heap.size + 1 ≠ w.heap.size + 1 + 1; omega) _).setOther (by show w.heap.size + 1 ≠ w.heap.size + 1 + 1; omega) _, ((((((BX2.out).set 0 _).set 1 _).set 2 _).set 3 _).set 4 _).eq (by simp only [List.setIfInBounds_toArray, List.set_cons_zero, List.set_cons_succ]), (((((HB.out.trans (HG.out.mono HB.out.size)).setCell (by show w.heap.size ≤ w.heap.size + 1 + 1; omega) _).setCell (by show w.heap.size ≤ w.heap.size + 1 + 1; omega) _).setCell (by show w.heap.size ≤ w.heap.size + 1 + 1; omega) _).setCell (by show w.heap.size ≤ w.heap.size + 1 + 1; omega) _).setCell (by show w.heap.size ≤ w.heap.size + 1 + 1; omega) _⟩ ?_
  clear HB HG BX0 BX1 BX2
  rintro Wx2 ⟨bx0, bx1, bx2, HB⟩
  replace HB := Lib.hid HB
  refine wp_ret ?_
  try simp only [Exit.then, Exit.inBlock]
  have lx2 := bx2.cells
  have r0 := Gr.refl Wx2
  exact bodyPost_ret (v := .agg #[.int .u64 ((lo (Int.natAbs ((z).num)) : Nat) : Int), .string (bg (Int.natAbs ((z).num))), .bool (decide (((z).num) < 0)), .int .u64 ((lo ((z).den - 1) : Nat) : Int), .string (bg ((z).den - 1))]) (by simp [results, Try.results10, go_sem, lx2 _ r0]) rfl ⟨rfl, HB.out⟩

set_option maxHeartbeats 1000000 in
theorem fmul_other1 (a b z : Rat) (hz : a * b = z) (hs_a : sz a ≤ 100000000000) (hs_b : sz b ≤ 100000000000) (h1 : decide (a.den = 1) = true) (h2 : decide (b.den = 1) = false) (w : World) :
    Calls Try.prog 10 #[(Value.agg #[.int .u64 ((lo (Int.natAbs ((a).num)) : Nat) : Int), .string (bg (Int.natAbs ((a).num))), .bool (decide (((a).num) < 0)), .int .u64 ((lo ((a).den - 1) : Nat) : Int), .string (bg ((a).den - 1))]), (Value.agg #[.int .u64 ((lo (Int.natAbs ((b).num)) : Nat) : Int), .string (bg (Int.natAbs ((b).num))), .bool (decide (((b).num) < 0)), .int .u64 ((lo ((b).den - 1) : Nat) : Int), .string (bg ((b).den - 1))])] w fun e w' => e = .returned (.agg #[.int .u64 ((lo (Int.natAbs ((z).num)) : Nat) : Int), .string (bg (Int.natAbs ((z).num))), .bool (decide (((z).num) < 0)), .int .u64 ((lo ((z).den - 1) : Nat) : Int), .string (bg ((z).den - 1))]) ∧ Below w.heap.size w w' := by
  have hn_a := Nat.le_trans (sz_num a) hs_a
  have hd_a := Nat.le_trans (sz_den a) hs_a
  have he_a := Nat.le_trans (wl_mono (Nat.sub_le a.den 1)) hd_a
  have hp_a : 0 < a.den := a.den_pos
  have hn_b := Nat.le_trans (sz_num b) hs_b
  have hd_b := Nat.le_trans (sz_den b) hs_b
  have he_b := Nat.le_trans (wl_mono (Nat.sub_le b.den 1)) hd_b
  have hp_b : 0 < b.den := b.den_pos
  replace hz := Lib.hid hz
  go_enter Try.func10, Try.ntmps10
  -- region 0
  refine wp_seq_k fun K hK => ?_
  replace hK := Lib.hid hK
  refine wp_region_lit ?_
  go_wp2
  refine hK.out _ _ ?_; clear hK K
  show Code.wp _ _ _ _ _
  refine forgetW (fun w2 => Bx w2 (w.heap.size) 36 #[.int .u64 ((lo (Int.natAbs ((a).num)) : Nat) : Int), .string (bg (Int.natAbs ((a).num))), .bool (decide (((a).num) < 0)), .int .u64 ((lo ((a).den - 1) : Nat) : Int), .string (bg ((a).den - 1))] ∧ Bx w2 (w.heap.size + 1) 36 #[.int .u64 ((lo (Int.natAbs ((b).num)) : Nat) : Int), .string (bg (Int.natAbs ((b).num))), .bool (decide (((b).num) < 0)), .int .u64 ((lo ((b).den - 1) : Nat) : Int), .string (bg ((b).den - 1))] ∧ Bx w2 (w.heap.size + 1 + 1) 36 #[.int .u64 0, .string ⟨#[]⟩, .bool false, .int .u64 0, .string ⟨#[]⟩] ∧ Below w.heap.size w w2) ⟨((Bx.at rfl).alloc _).alloc _, (Bx.at (by simp)).alloc _, Bx.at (by simp), (((Below.refl _ _).alloc (Nat.le_refl _) _).alloc (by simp) _).alloc (by simp; omega) _⟩ ?_
  rintro Wx ⟨bx0, bx1, bx2, HB⟩
  replace HB := Lib.hid HB
  refine wp_seq ?_
  -- region 1
  have lx0 := bx0.cells
  have lx1 := bx1.cells
  have BX0 := Lib.hid bx0
  have BX1 := Lib.hid bx1
  have BX2 := Lib.hid bx2
  clear bx0 bx1 bx2
  refine wp_seq_k fun K hK => ?_
  replace hK := Lib.hid hK
  refine wp_region_seqplan 6 [(true, 0), (true, 1), (true, 2), (true, 3), (true, 4), (true, 5)] (by rfl) (by simp) (fun T hT => ?_)
  iterate 1
    refine wpPlan_takeL (v := ?_) rfl (by rfl) (fun w' hw => ?_) ?_
    rotate_left
    · go_simp
      with_reducible rfl
    simp only [Act.put, List.setIfInBounds_toArray, List.set_cons_zero, List.set_cons_succ]
  refine wpPlan_callL rfl (by rfl) Try.call30 (fun w' hw => fiswhole_any (a) true _ h1) (by rfl) ?_
  simp only [Act.put, List.setIfInBounds_toArray, List.set_cons_zero, List.set_cons_succ]
  iterate 2
    refine wpPlan_takeL (v := ?_) rfl (by rfl) (fun w' hw => ?_) ?_
    rotate_left
    · go_simp
      with_reducible rfl
    simp only [Act.put, List.setIfInBounds_toArray, List.set_cons_zero, List.set_cons_succ]
  refine wpPlan_callL rfl (by rfl) Try.call30 (fun w' hw => fiswhole_any (b) false _ h2) (by rfl) ?_
  simp only [Act.put, List.setIfInBounds_toArray, List.set_cons_zero, List.set_cons_succ]
  iterate 1
    refine wpPlan_takeL (v := ?_) rfl (by rfl) (fun w' hw => ?_) ?_
    rotate_left
    · go_simp
      with_reducible rfl
    simp only [Act.put, List.setIfInBounds_toArray, List.set_cons_zero, List.set_cons_succ]
  refine wpPlan_nil (hT.out _ _ ?_); clear hT T
  intro vw1 hg
  simp only [puts, Act.put, List.setIfInBounds_toArray, List.set_cons_zero, List.set_cons_succ, List.drop_succ_cons, List.drop_zero, ↓reduceIte, Nat.reduceEqDiff]
  clear lx0 lx1
  have HG := Lib.hid (hg)
  clear hg
  have bx0 := BX0.out.gr HG.out; clear BX0
  have bx1 := BX1.out.gr HG.out; clear BX1
  have bx2 := BX2.out.gr HG.out; clear BX2
  have r0 := Gr.refl vw1
  have BX0 := Lib.hid bx0; clear bx0
  have BX1 := Lib.hid bx1; clear bx1
  have BX2 := Lib.hid bx2; clear bx2
  go_wp2
  refine hK.out _ _ ?_; clear hK K
  show Code.wp _ _ _ _ _
  clear r0
  refine forgetW (fun w2 => Bx w2 (w.heap.size) 36 #[.int .u64 ((lo (Int.natAbs ((a).num)) : Nat) : Int), .string (bg (Int.natAbs ((a).num))), .bool (decide (((a).num) < 0)), .int .u64 ((lo ((a).den - 1) : Nat) : Int), .string (bg ((a).den - 1))] ∧ Bx w2 (w.heap.size + 1) 36 #[.int .u64 ((lo (Int.natAbs ((b).num)) : Nat) : Int), .string (bg (Int.natAbs ((b).num))), .bool (decide (((b).num) < 0)), .int .u64 ((lo ((b).den - 1) : Nat) : Int), .string (bg ((b).den - 1))] ∧ Bx w2 (w.heap.size + 1 + 1) 36 #[.int .u64 0, .string ⟨#[]⟩, .bool false, .int .u64 0, .string ⟨#[]⟩] ∧ Below w.heap.size w w2) ⟨BX0.out, BX1.out, BX2.out, HB.out.trans (HG.out.mono HB.out.size)⟩ ?_
  clear HB HG BX0 BX1 BX2
  rintro Wx1 ⟨bx0, bx1, bx2, HB⟩
  replace HB := Lib.hid HB
  refine wp_cond_false (by rfl) ?_
  refine wp_skip ?_
  show Code.wp _ _ _ _ _
  -- region 3
  obtain ⟨u1, HZ1⟩ : ∃ z, Hid (((a).num) * ((b).num) = z) := ⟨_, Lib.hid rfl⟩
  have su1 : wl (Int.natAbs u1) ≤ 200000000000 := by rw [← HZ1.out]; have := wl_imul ((a).num) ((b).num); omega
  obtain ⟨u2, HZ2⟩ : ∃ z, Hid (((a).den) * ((b).den) = z) := ⟨_, Lib.hid rfl⟩
  have su2 : wl u2 ≤ 200000000000 := by rw [← HZ2.out]; have := wl_mul ((a).den) ((b).den); omega
  have HZ3 : Hid (mkRat (u1) (u2) = z) := Lib.hid (by rw [← HZ1.out, ← HZ2.out, ← hz.out]; exact (Rat.mul_def' a b).symm)
  have lx0 := bx0.cells
  have lx1 := bx1.cells
  have BX0 := Lib.hid bx0
  have BX1 := Lib.hid bx1
  have BX2 := Lib.hid bx2
  clear bx0 bx1 bx2
  refine wp_seq_k fun K hK => ?_
  replace hK := Lib.hid hK
  refine wp_region_plan 11 [] [] (fun _ => 0) (fun _ => .cells #[] 0) [(true, 0), (true, 1), (true, 2), (true, 3), (true, 5), (true, 7), (true, 4), (true, 6), (true, 8), (true, 9), (true, 10)] (by kernel_rfl) (by kernel_rfl) (fun i hi => by cases hi) (fun i hi => by cases hi) (fun _ _ _ _ _ h => h) (fun T hT => ?_)
  iterate 6
    refine wpPlan_takeL (v := ?_) rfl (by rfl) (fun w' hw => ?_) ?_
    rotate_left
    · go_simp
      with_reducible rfl
    simp only [Act.put, List.setIfInBounds_toArray, List.set_cons_zero, List.set_cons_succ]
  refine wpPlan_callL rfl (by rfl) Try.call32 (fun w' hw => zimul ((a).num) ((b).num) (u1) _ HZ1.out (by first | omega | exact Nat.le_trans (wl_small (by decide)) (by decide)) (by first | omega | exact Nat.le_trans (wl_small (by decide)) (by decide))) (by rfl) ?_
  simp only [Act.put, List.setIfInBounds_toArray, List.set_cons_zero, List.set_cons_succ]
  refine wpPlan_callL rfl (by rfl) Try.call35 (fun w' hw => fden_any (a) (by first | omega | exact Nat.le_trans (wl_small (by decide)) (by decide)) _) (by rfl) ?_
  simp only [Act.put, List.setIfInBounds_toArray, List.set_cons_zero, List.set_cons_succ]
  refine wpPlan_callL rfl (by rfl) Try.call35 (fun w' hw => fden_any (b) (by first | omega | exact Nat.le_trans (wl_small (by decide)) (by decide)) _) (by rfl) ?_
  simp only [Act.put, List.setIfInBounds_toArray, List.set_cons_zero, List.set_cons_succ]
  refine wpPlan_callL rfl (by rfl) Try.call34 (fun w' hw => zmul ((a).den) ((b).den) (u2) _ HZ2.out (by first | omega | exact Nat.le_trans (wl_small (by decide)) (by decide)) (by first | omega | exact Nat.le_trans (wl_small (by decide)) (by decide))) (by rfl) ?_
  simp only [Act.put, List.setIfInBounds_toArray, List.set_cons_zero, List.set_cons_succ]
  refine wpPlan_callL rfl (by rfl) Try.call33 (fun w' hw => lowest_any (u1) (u2) (z) HZ3 (by rw [← HZ2.out]; exact Nat.mul_pos hp_a hp_b) (by first | omega | exact Nat.le_trans (wl_small (by decide)) (by decide)) (by first | omega | exact Nat.le_trans (wl_small (by decide)) (by decide)) _) (by rfl) ?_
  simp only [Act.put, List.setIfInBounds_toArray, List.set_cons_zero, List.set_cons_succ]
  refine wpPlan_nil (hT.out _ _ ?_); clear hT T
  intro G vw2 hg hf
  simp only [puts, Act.put, List.setIfInBounds_toArray, List.set_cons_zero, List.set_cons_succ, List.drop_succ_cons, List.drop_zero, ↓reduceIte, Nat.reduceEqDiff]
  clear lx0 lx1
  have HG := Lib.hid (hg)
  clear hg
  have bx0 := BX0.out.gr HG.out; clear BX0
  have bx1 := BX1.out.gr HG.out; clear BX1
  have bx2 := BX2.out.gr HG.out; clear BX2
  have lx2 := bx2.cells; have fx2 := bx2.free
  have r0 := Gr.refl vw2
  have BX0 := Lib.hid bx0; clear bx0
  have BX1 := Lib.hid bx1; clear bx1
  have BX2 := Lib.hid bx2; clear bx2
  go_wp2
  refine hK.out _ _ ?_; clear hK K
  show Code.wp _ _ _ _ _
  clear lx2 fx2
  clear r0
  refine forgetW (fun w2 => Bx w2 (w.heap.size + 1 + 1) 36 #[.int .u64 ((lo (Int.natAbs ((z).num)) : Nat) : Int), .string (bg (Int.natAbs ((z).num))), .bool (decide (((z).num) < 0)), .int .u64 ((lo ((z).den - 1) : Nat) : Int), .string (bg ((z).den - 1))] ∧ Below w.heap.size w w2) ⟨((((((BX2.out).set 0 _).set 1 _).set 2 _).set 3 _).set 4 _).eq (by simp only [List.setIfInBounds_toArray, List.set_cons_zero, List.set_cons_succ]), (((((HB.out.trans (HG.out.mono HB.out.size)).setCell (by show w.heap.size ≤ w.heap.size + 1 + 1; omega) _).setCell (by show w.heap.size ≤ w.heap.size + 1 + 1; omega) _).setCell (by show w.heap.size ≤ w.heap.size + 1 + 1; omega) _).setCell (by show w.heap.size ≤ w.heap.size + 1 + 1; omega) _).setCell (by show w.heap.size ≤ w.heap.size + 1 + 1; omega) _⟩ ?_
  clear HB HG BX0 BX1 BX2
  rintro Wx3 ⟨bx2, HB⟩
  replace HB := Lib.hid HB
  refine wp_ret ?_
  try simp only [Exit.then, Exit.inBlock]
  have lx2 := bx2.cells
  have r0 := Gr.refl Wx3
  exact bodyPost_ret (v := .agg #[.int .u64 ((lo (Int.natAbs ((z).num)) : Nat) : Int), .string (bg (Int.natAbs ((z).num))), .bool (decide (((z).num) < 0)), .int .u64 ((lo ((z).den - 1) : Nat) : Int), .string (bg ((z).den - 1))]) (by simp [results, Try.results10, go_sem, lx2 _ r0]) rfl ⟨rfl, HB.out⟩

set_option maxHeartbeats 1000000 in
theorem fmul_other (a b z : Rat) (hz : a * b = z) (hs_a : sz a ≤ 100000000000) (hs_b : sz b ≤ 100000000000) (h1 : decide (a.den = 1) = false) (w : World) :
    Calls Try.prog 10 #[(Value.agg #[.int .u64 ((lo (Int.natAbs ((a).num)) : Nat) : Int), .string (bg (Int.natAbs ((a).num))), .bool (decide (((a).num) < 0)), .int .u64 ((lo ((a).den - 1) : Nat) : Int), .string (bg ((a).den - 1))]), (Value.agg #[.int .u64 ((lo (Int.natAbs ((b).num)) : Nat) : Int), .string (bg (Int.natAbs ((b).num))), .bool (decide (((b).num) < 0)), .int .u64 ((lo ((b).den - 1) : Nat) : Int), .string (bg ((b).den - 1))])] w fun e w' => e = .returned (.agg #[.int .u64 ((lo (Int.natAbs ((z).num)) : Nat) : Int), .string (bg (Int.natAbs ((z).num))), .bool (decide (((z).num) < 0)), .int .u64 ((lo ((z).den - 1) : Nat) : Int), .string (bg ((z).den - 1))]) ∧ Below w.heap.size w w' := by
  have hn_a := Nat.le_trans (sz_num a) hs_a
  have hd_a := Nat.le_trans (sz_den a) hs_a
  have he_a := Nat.le_trans (wl_mono (Nat.sub_le a.den 1)) hd_a
  have hp_a : 0 < a.den := a.den_pos
  have hn_b := Nat.le_trans (sz_num b) hs_b
  have hd_b := Nat.le_trans (sz_den b) hs_b
  have he_b := Nat.le_trans (wl_mono (Nat.sub_le b.den 1)) hd_b
  have hp_b : 0 < b.den := b.den_pos
  replace hz := Lib.hid hz
  go_enter Try.func10, Try.ntmps10
  -- region 0
  refine wp_seq_k fun K hK => ?_
  replace hK := Lib.hid hK
  refine wp_region_lit ?_
  go_wp2
  refine hK.out _ _ ?_; clear hK K
  show Code.wp _ _ _ _ _
  refine forgetW (fun w2 => Bx w2 (w.heap.size) 36 #[.int .u64 ((lo (Int.natAbs ((a).num)) : Nat) : Int), .string (bg (Int.natAbs ((a).num))), .bool (decide (((a).num) < 0)), .int .u64 ((lo ((a).den - 1) : Nat) : Int), .string (bg ((a).den - 1))] ∧ Bx w2 (w.heap.size + 1) 36 #[.int .u64 ((lo (Int.natAbs ((b).num)) : Nat) : Int), .string (bg (Int.natAbs ((b).num))), .bool (decide (((b).num) < 0)), .int .u64 ((lo ((b).den - 1) : Nat) : Int), .string (bg ((b).den - 1))] ∧ Bx w2 (w.heap.size + 1 + 1) 36 #[.int .u64 0, .string ⟨#[]⟩, .bool false, .int .u64 0, .string ⟨#[]⟩] ∧ Below w.heap.size w w2) ⟨((Bx.at rfl).alloc _).alloc _, (Bx.at (by simp)).alloc _, Bx.at (by simp), (((Below.refl _ _).alloc (Nat.le_refl _) _).alloc (by simp) _).alloc (by simp; omega) _⟩ ?_
  rintro Wx ⟨bx0, bx1, bx2, HB⟩
  replace HB := Lib.hid HB
  refine wp_seq ?_
  -- region 1
  have lx0 := bx0.cells
  have lx1 := bx1.cells
  have BX0 := Lib.hid bx0
  have BX1 := Lib.hid bx1
  have BX2 := Lib.hid bx2
  clear bx0 bx1 bx2
  refine wp_seq_k fun K hK => ?_
  replace hK := Lib.hid hK
  refine wp_region_seqplan 6 [(true, 0), (true, 1), (true, 2), (true, 3), (true, 4), (true, 5)] (by rfl) (by simp) (fun T hT => ?_)
  iterate 1
    refine wpPlan_takeL (v := ?_) rfl (by rfl) (fun w' hw => ?_) ?_
    rotate_left
    · go_simp
      with_reducible rfl
    simp only [Act.put, List.setIfInBounds_toArray, List.set_cons_zero, List.set_cons_succ]
  refine wpPlan_callL rfl (by rfl) Try.call30 (fun w' hw => fiswhole_any (a) false _ h1) (by rfl) ?_
  simp only [Act.put, List.setIfInBounds_toArray, List.set_cons_zero, List.set_cons_succ]
  iterate 1
    refine wpPlan_takeL (v := ?_) rfl (by rfl) (fun w' hw => ?_) ?_
    rotate_left
    · go_simp
      with_reducible rfl
    simp only [Act.put, List.setIfInBounds_toArray, List.set_cons_zero, List.set_cons_succ]
  refine wpPlan_skipL rfl (by rfl) ?_
  simp only [Act.put, List.setIfInBounds_toArray, List.set_cons_zero, List.set_cons_succ]
  refine wpPlan_skipL rfl (by rfl) ?_
  simp only [Act.put, List.setIfInBounds_toArray, List.set_cons_zero, List.set_cons_succ]
  iterate 1
    refine wpPlan_takeL (v := ?_) rfl (by rfl) (fun w' hw => ?_) ?_
    rotate_left
    · go_simp
      with_reducible rfl
    simp only [Act.put, List.setIfInBounds_toArray, List.set_cons_zero, List.set_cons_succ]
  refine wpPlan_nil (hT.out _ _ ?_); clear hT T
  intro vw1 hg
  simp only [puts, Act.put, List.setIfInBounds_toArray, List.set_cons_zero, List.set_cons_succ, List.drop_succ_cons, List.drop_zero, ↓reduceIte, Nat.reduceEqDiff]
  clear lx0 lx1
  have HG := Lib.hid (hg)
  clear hg
  have bx0 := BX0.out.gr HG.out; clear BX0
  have bx1 := BX1.out.gr HG.out; clear BX1
  have bx2 := BX2.out.gr HG.out; clear BX2
  have r0 := Gr.refl vw1
  have BX0 := Lib.hid bx0; clear bx0
  have BX1 := Lib.hid bx1; clear bx1
  have BX2 := Lib.hid bx2; clear bx2
  go_wp2
  refine hK.out _ _ ?_; clear hK K
  show Code.wp _ _ _ _ _
  clear r0
  refine forgetW (fun w2 => Bx w2 (w.heap.size) 36 #[.int .u64 ((lo (Int.natAbs ((a).num)) : Nat) : Int), .string (bg (Int.natAbs ((a).num))), .bool (decide (((a).num) < 0)), .int .u64 ((lo ((a).den - 1) : Nat) : Int), .string (bg ((a).den - 1))] ∧ Bx w2 (w.heap.size + 1) 36 #[.int .u64 ((lo (Int.natAbs ((b).num)) : Nat) : Int), .string (bg (Int.natAbs ((b).num))), .bool (decide (((b).num) < 0)), .int .u64 ((lo ((b).den - 1) : Nat) : Int), .string (bg ((b).den - 1))] ∧ Bx w2 (w.heap.size + 1 + 1) 36 #[.int .u64 0, .string ⟨#[]⟩, .bool false, .int .u64 0, .string ⟨#[]⟩] ∧ Below w.heap.size w w2) ⟨BX0.out, BX1.out, BX2.out, HB.out.trans (HG.out.mono HB.out.size)⟩ ?_
  clear HB HG BX0 BX1 BX2
  rintro Wx1 ⟨bx0, bx1, bx2, HB⟩
  replace HB := Lib.hid HB
  refine wp_cond_false (by rfl) ?_
  refine wp_skip ?_
  show Code.wp _ _ _ _ _
  -- region 3
  obtain ⟨u1, HZ1⟩ : ∃ z, Hid (((a).num) * ((b).num) = z) := ⟨_, Lib.hid rfl⟩
  have su1 : wl (Int.natAbs u1) ≤ 200000000000 := by rw [← HZ1.out]; have := wl_imul ((a).num) ((b).num); omega
  obtain ⟨u2, HZ2⟩ : ∃ z, Hid (((a).den) * ((b).den) = z) := ⟨_, Lib.hid rfl⟩
  have su2 : wl u2 ≤ 200000000000 := by rw [← HZ2.out]; have := wl_mul ((a).den) ((b).den); omega
  have HZ3 : Hid (mkRat (u1) (u2) = z) := Lib.hid (by rw [← HZ1.out, ← HZ2.out, ← hz.out]; exact (Rat.mul_def' a b).symm)
  have lx0 := bx0.cells
  have lx1 := bx1.cells
  have BX0 := Lib.hid bx0
  have BX1 := Lib.hid bx1
  have BX2 := Lib.hid bx2
  clear bx0 bx1 bx2
  refine wp_seq_k fun K hK => ?_
  replace hK := Lib.hid hK
  refine wp_region_plan 11 [] [] (fun _ => 0) (fun _ => .cells #[] 0) [(true, 0), (true, 1), (true, 2), (true, 3), (true, 5), (true, 7), (true, 4), (true, 6), (true, 8), (true, 9), (true, 10)] (by kernel_rfl) (by kernel_rfl) (fun i hi => by cases hi) (fun i hi => by cases hi) (fun _ _ _ _ _ h => h) (fun T hT => ?_)
  iterate 6
    refine wpPlan_takeL (v := ?_) rfl (by rfl) (fun w' hw => ?_) ?_
    rotate_left
    · go_simp
      with_reducible rfl
    simp only [Act.put, List.setIfInBounds_toArray, List.set_cons_zero, List.set_cons_succ]
  refine wpPlan_callL rfl (by rfl) Try.call32 (fun w' hw => zimul ((a).num) ((b).num) (u1) _ HZ1.out (by first | omega | exact Nat.le_trans (wl_small (by decide)) (by decide)) (by first | omega | exact Nat.le_trans (wl_small (by decide)) (by decide))) (by rfl) ?_
  simp only [Act.put, List.setIfInBounds_toArray, List.set_cons_zero, List.set_cons_succ]
  refine wpPlan_callL rfl (by rfl) Try.call35 (fun w' hw => fden_any (a) (by first | omega | exact Nat.le_trans (wl_small (by decide)) (by decide)) _) (by rfl) ?_
  simp only [Act.put, List.setIfInBounds_toArray, List.set_cons_zero, List.set_cons_succ]
  refine wpPlan_callL rfl (by rfl) Try.call35 (fun w' hw => fden_any (b) (by first | omega | exact Nat.le_trans (wl_small (by decide)) (by decide)) _) (by rfl) ?_
  simp only [Act.put, List.setIfInBounds_toArray, List.set_cons_zero, List.set_cons_succ]
  refine wpPlan_callL rfl (by rfl) Try.call34 (fun w' hw => zmul ((a).den) ((b).den) (u2) _ HZ2.out (by first | omega | exact Nat.le_trans (wl_small (by decide)) (by decide)) (by first | omega | exact Nat.le_trans (wl_small (by decide)) (by decide))) (by rfl) ?_
  simp only [Act.put, List.setIfInBounds_toArray, List.set_cons_zero, List.set_cons_succ]
  refine wpPlan_callL rfl (by rfl) Try.call33 (fun w' hw => lowest_any (u1) (u2) (z) HZ3 (by rw [← HZ2.out]; exact Nat.mul_pos hp_a hp_b) (by first | omega | exact Nat.le_trans (wl_small (by decide)) (by decide)) (by first | omega | exact Nat.le_trans (wl_small (by decide)) (by decide)) _) (by rfl) ?_
  simp only [Act.put, List.setIfInBounds_toArray, List.set_cons_zero, List.set_cons_succ]
  refine wpPlan_nil (hT.out _ _ ?_); clear hT T
  intro G vw2 hg hf
  simp only [puts, Act.put, List.setIfInBounds_toArray, List.set_cons_zero, List.set_cons_succ, List.drop_succ_cons, List.drop_zero, ↓reduceIte, Nat.reduceEqDiff]
  clear lx0 lx1
  have HG := Lib.hid (hg)
  clear hg
  have bx0 := BX0.out.gr HG.out; clear BX0
  have bx1 := BX1.out.gr HG.out; clear BX1
  have bx2 := BX2.out.gr HG.out; clear BX2
  have lx2 := bx2.cells; have fx2 := bx2.free
  have r0 := Gr.refl vw2
  have BX0 := Lib.hid bx0; clear bx0
  have BX1 := Lib.hid bx1; clear bx1
  have BX2 := Lib.hid bx2; clear bx2
  go_wp2
  refine hK.out _ _ ?_; clear hK K
  show Code.wp _ _ _ _ _
  clear lx2 fx2
  clear r0
  refine forgetW (fun w2 => Bx w2 (w.heap.size + 1 + 1) 36 #[.int .u64 ((lo (Int.natAbs ((z).num)) : Nat) : Int), .string (bg (Int.natAbs ((z).num))), .bool (decide (((z).num) < 0)), .int .u64 ((lo ((z).den - 1) : Nat) : Int), .string (bg ((z).den - 1))] ∧ Below w.heap.size w w2) ⟨((((((BX2.out).set 0 _).set 1 _).set 2 _).set 3 _).set 4 _).eq (by simp only [List.setIfInBounds_toArray, List.set_cons_zero, List.set_cons_succ]), (((((HB.out.trans (HG.out.mono HB.out.size)).setCell (by show w.heap.size ≤ w.heap.size + 1 + 1; omega) _).setCell (by show w.heap.size ≤ w.heap.size + 1 + 1; omega) _).setCell (by show w.heap.size ≤ w.heap.size + 1 + 1; omega) _).setCell (by show w.heap.size ≤ w.heap.size + 1 + 1; omega) _).setCell (by show w.heap.size ≤ w.heap.size + 1 + 1; omega) _⟩ ?_
  clear HB HG BX0 BX1 BX2
  rintro Wx3 ⟨bx2, HB⟩
  replace HB := Lib.hid HB
  refine wp_ret ?_
  try simp only [Exit.then, Exit.inBlock]
  have lx2 := bx2.cells
  have r0 := Gr.refl Wx3
  exact bodyPost_ret (v := .agg #[.int .u64 ((lo (Int.natAbs ((z).num)) : Nat) : Int), .string (bg (Int.natAbs ((z).num))), .bool (decide (((z).num) < 0)), .int .u64 ((lo ((z).den - 1) : Nat) : Int), .string (bg ((z).den - 1))]) (by simp [results, Try.results10, go_sem, lx2 _ r0]) rfl ⟨rfl, HB.out⟩

theorem fmul_any (a b z : Rat) (w : World) (hz : a * b = z) (hs_a : sz a ≤ 100000000000) (hs_b : sz b ≤ 100000000000) :
    Calls Try.prog 10 #[(Value.agg #[.int .u64 ((lo (Int.natAbs ((a).num)) : Nat) : Int), .string (bg (Int.natAbs ((a).num))), .bool (decide (((a).num) < 0)), .int .u64 ((lo ((a).den - 1) : Nat) : Int), .string (bg ((a).den - 1))]), (Value.agg #[.int .u64 ((lo (Int.natAbs ((b).num)) : Nat) : Int), .string (bg (Int.natAbs ((b).num))), .bool (decide (((b).num) < 0)), .int .u64 ((lo ((b).den - 1) : Nat) : Int), .string (bg ((b).den - 1))])] w fun e w' => e = .returned (Value.agg #[.int .u64 ((lo (Int.natAbs ((z).num)) : Nat) : Int), .string (bg (Int.natAbs ((z).num))), .bool (decide (((z).num) < 0)), .int .u64 ((lo ((z).den - 1) : Nat) : Int), .string (bg ((z).den - 1))]) ∧ Below w.heap.size w w' := by
  cases h1 : decide (a.den = 1)
  · exact fmul_other a b z hz hs_a hs_b h1 w
  · cases h2 : decide (b.den = 1)
    · exact fmul_other1 a b z hz hs_a hs_b h1 h2 w
    · exact fmul_int a b z hz hs_a hs_b h1 h2 w

set_option maxHeartbeats 1000000 in
theorem fsub_any (a b z : Rat) (w : World) (hz : a - b = z) (hs_a : sz a ≤ 100000000000) (hs_b : sz b ≤ 100000000000) :
    Calls Try.prog 9 #[(Value.agg #[.int .u64 ((lo (Int.natAbs ((a).num)) : Nat) : Int), .string (bg (Int.natAbs ((a).num))), .bool (decide (((a).num) < 0)), .int .u64 ((lo ((a).den - 1) : Nat) : Int), .string (bg ((a).den - 1))]), (Value.agg #[.int .u64 ((lo (Int.natAbs ((b).num)) : Nat) : Int), .string (bg (Int.natAbs ((b).num))), .bool (decide (((b).num) < 0)), .int .u64 ((lo ((b).den - 1) : Nat) : Int), .string (bg ((b).den - 1))])] w fun e w' => e = .returned (.agg #[.int .u64 ((lo (Int.natAbs ((z).num)) : Nat) : Int), .string (bg (Int.natAbs ((z).num))), .bool (decide (((z).num) < 0)), .int .u64 ((lo ((z).den - 1) : Nat) : Int), .string (bg ((z).den - 1))]) ∧ Below w.heap.size w w' := by
  replace hz := Lib.hid hz
  go_enter Try.func9, Try.ntmps9
  -- region 0
  refine wp_seq_k fun K hK => ?_
  replace hK := Lib.hid hK
  refine wp_region_lit ?_
  go_wp2
  refine hK.out _ _ ?_; clear hK K
  show Code.wp _ _ _ _ _
  refine forgetW (fun w2 => Bx w2 (w.heap.size) 36 #[.int .u64 ((lo (Int.natAbs ((a).num)) : Nat) : Int), .string (bg (Int.natAbs ((a).num))), .bool (decide (((a).num) < 0)), .int .u64 ((lo ((a).den - 1) : Nat) : Int), .string (bg ((a).den - 1))] ∧ Bx w2 (w.heap.size + 1) 36 #[.int .u64 ((lo (Int.natAbs ((b).num)) : Nat) : Int), .string (bg (Int.natAbs ((b).num))), .bool (decide (((b).num) < 0)), .int .u64 ((lo ((b).den - 1) : Nat) : Int), .string (bg ((b).den - 1))] ∧ Bx w2 (w.heap.size + 1 + 1) 36 #[.int .u64 0, .string ⟨#[]⟩, .bool false, .int .u64 0, .string ⟨#[]⟩] ∧ Below w.heap.size w w2) ⟨((Bx.at rfl).alloc _).alloc _, (Bx.at (by simp)).alloc _, Bx.at (by simp), (((Below.refl _ _).alloc (Nat.le_refl _) _).alloc (by simp) _).alloc (by simp; omega) _⟩ ?_
  rintro Wx ⟨bx0, bx1, bx2, HB⟩
  replace HB := Lib.hid HB
  -- region 1
  obtain ⟨u1, HZ1⟩ : ∃ z, Hid (-(b) = z) := ⟨_, Lib.hid rfl⟩
  have su1 : sz u1 ≤ 100000000000 := by rw [← HZ1.out]; rw [sz_neg]; omega
  have HZ2 : Hid ((a) + (u1) = z) := Lib.hid (by rw [← HZ1.out, ← hz.out, Rat.sub_eq_add_neg])
  have lx0 := bx0.cells
  have lx1 := bx1.cells
  have BX0 := Lib.hid bx0
  have BX1 := Lib.hid bx1
  have BX2 := Lib.hid bx2
  clear bx0 bx1 bx2
  refine wp_seq_k fun K hK => ?_
  replace hK := Lib.hid hK
  refine wp_region_plan 4 [] [] (fun _ => 0) (fun _ => .cells #[] 0) [(true, 0), (true, 1), (true, 2), (true, 3)] (by kernel_rfl) (by kernel_rfl) (fun i hi => by cases hi) (fun i hi => by cases hi) (fun _ _ _ _ _ h => h) (fun T hT => ?_)
  iterate 2
    refine wpPlan_takeL (v := ?_) rfl (by rfl) (fun w' hw => ?_) ?_
    rotate_left
    · go_simp
      with_reducible rfl
    simp only [Act.put, List.setIfInBounds_toArray, List.set_cons_zero, List.set_cons_succ]
  refine wpPlan_callL rfl (by rfl) Try.call19 (fun w' hw => fneg_any (b) (u1) _ HZ1.out) (by rfl) ?_
  simp only [Act.put, List.setIfInBounds_toArray, List.set_cons_zero, List.set_cons_succ]
  refine wpPlan_callL rfl (by rfl) Try.call12 (fun w' hw => fadd_any (a) (u1) (z) _ HZ2.out (by first | omega | exact Nat.le_trans (wl_small (by decide)) (by decide)) (by first | omega | exact Nat.le_trans (wl_small (by decide)) (by decide))) (by rfl) ?_
  simp only [Act.put, List.setIfInBounds_toArray, List.set_cons_zero, List.set_cons_succ]
  refine wpPlan_nil (hT.out _ _ ?_); clear hT T
  intro G vw1 hg hf
  simp only [puts, Act.put, List.setIfInBounds_toArray, List.set_cons_zero, List.set_cons_succ, List.drop_succ_cons, List.drop_zero, ↓reduceIte, Nat.reduceEqDiff]
  clear lx0 lx1
  have HG := Lib.hid (hg)
  clear hg
  have bx0 := BX0.out.gr HG.out; clear BX0
  have bx1 := BX1.out.gr HG.out; clear BX1
  have bx2 := BX2.out.gr HG.out; clear BX2
  have lx2 := bx2.cells; have fx2 := bx2.free
  have r0 := Gr.refl vw1
  have BX0 := Lib.hid bx0; clear bx0
  have BX1 := Lib.hid bx1; clear bx1
  have BX2 := Lib.hid bx2; clear bx2
  go_wp2
  refine hK.out _ _ ?_; clear hK K
  show Code.wp _ _ _ _ _
  clear lx2 fx2
  clear r0
  refine forgetW (fun w2 => Bx w2 (w.heap.size + 1 + 1) 36 #[.int .u64 ((lo (Int.natAbs ((z).num)) : Nat) : Int), .string (bg (Int.natAbs ((z).num))), .bool (decide (((z).num) < 0)), .int .u64 ((lo ((z).den - 1) : Nat) : Int), .string (bg ((z).den - 1))] ∧ Below w.heap.size w w2) ⟨((((((BX2.out).set 0 _).set 1 _).set 2 _).set 3 _).set 4 _).eq (by simp only [List.setIfInBounds_toArray, List.set_cons_zero, List.set_cons_succ]), (((((HB.out.trans (HG.out.mono HB.out.size)).setCell (by show w.heap.size ≤ w.heap.size + 1 + 1; omega) _).setCell (by show w.heap.size ≤ w.heap.size + 1 + 1; omega) _).setCell (by show w.heap.size ≤ w.heap.size + 1 + 1; omega) _).setCell (by show w.heap.size ≤ w.heap.size + 1 + 1; omega) _).setCell (by show w.heap.size ≤ w.heap.size + 1 + 1; omega) _⟩ ?_
  clear HB HG BX0 BX1 BX2
  rintro Wx1 ⟨bx2, HB⟩
  replace HB := Lib.hid HB
  refine wp_ret ?_
  try simp only [Exit.then, Exit.inBlock]
  have lx2 := bx2.cells
  have r0 := Gr.refl Wx1
  exact bodyPost_ret (v := .agg #[.int .u64 ((lo (Int.natAbs ((z).num)) : Nat) : Int), .string (bg (Int.natAbs ((z).num))), .bool (decide (((z).num) < 0)), .int .u64 ((lo ((z).den - 1) : Nat) : Int), .string (bg ((z).den - 1))]) (by simp [results, Try.results9, go_sem, lx2 _ r0]) rfl ⟨rfl, HB.out⟩

end Go.Proofs.Ytenpbnmmadbkdaa
