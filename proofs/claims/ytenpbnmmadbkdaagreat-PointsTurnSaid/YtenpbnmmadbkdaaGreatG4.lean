/- Parts of the row's proof: 4 texts in one. No condition but those stated. -/
import Derived.Test.YtenpbnmmadbkdaaGreatG3

/- fracs: Int, Add, Mul, Sub. -/
namespace Go.Proofs.YtenpbnmmadbkdaaGreat
open Go.RowKit
set_option linter.unusedSimpArgs false
set_option linter.unusedVariables false
attribute [local go_sem ↓] Go.wp_at_zero Go.wp_at_succ
attribute [local go_sem ↓] eq_nat eq_nat_zero
theorem iof_any (n : Int) (w : World) (h1 : -9223372036854775808 ≤ n) (h2 : n ≤ 9223372036854775807) :
    Calls Tryz.prog 86 #[.int .i64 n] w fun e w' => e = .returned (Value.agg #[.int .u64 (lo (Int.natAbs (n))), .string (bg (Int.natAbs (n))), .bool (decide ((n) < 0))]) ∧ Below w.heap.size w w' := by
  obtain ⟨W0, HW⟩ : ∃ W0, Hid ((w.alloc (.cells #[.int .u64 0, .string ⟨#[]⟩, .bool false] 34)) = W0) := ⟨_, Lib.hid rfl⟩
  have HS := Lib.hid (show w.heap.size + 1 = W0.heap.size by rw [← HW.out]; simp)
  have z0 : w.heap.size < W0.heap.size := by rw [← HS.out]; omega
  have c0_0 : W0.cell? ⟨w.heap.size, 0, none⟩ = some (.int .u64 0) := by rw [← HW.out]; simp [go_sem]
  have c0_1 : W0.cell? ⟨w.heap.size, 1, none⟩ = some (.string ⟨#[]⟩) := by rw [← HW.out]; simp [go_sem]
  have c0_2 : W0.cell? ⟨w.heap.size, 2, none⟩ = some (.bool false) := by rw [← HW.out]; simp [go_sem]
  have f_0 : W0.frozen? ⟨w.heap.size, 0, none⟩ = false := by rw [← HW.out]; simp [go_sem]
  have f_1 : W0.frozen? ⟨w.heap.size, 1, none⟩ = false := by rw [← HW.out]; simp [go_sem]
  have f_2 : W0.frozen? ⟨w.heap.size, 2, none⟩ = false := by rw [← HW.out]; simp [go_sem]
  have hbw : Below w.heap.size w W0 := by rw [← HW.out]; exact (Below.refl _ _).alloc (Nat.le_refl _) _
  have HR : Hid (∀ w1 : World, Below W0.heap.size W0 w1 → w1.cell? ⟨w.heap.size, 0, none⟩ = some (.int .u64 0) ∧ w1.cell? ⟨w.heap.size, 1, none⟩ = some (.string ⟨#[]⟩) ∧ w1.cell? ⟨w.heap.size, 2, none⟩ = some (.bool false) ∧ w1.frozen? ⟨w.heap.size, 0, none⟩ = false ∧ w1.frozen? ⟨w.heap.size, 1, none⟩ = false ∧ w1.frozen? ⟨w.heap.size, 2, none⟩ = false ∧ Below w.heap.size w w1) := fun w1 hb => ⟨(held W0 w1 hb _ _ z0).trans c0_0, (held W0 w1 hb _ _ z0).trans c0_1, (held W0 w1 hb _ _ z0).trans c0_2, (heldf W0 w1 hb _ _ z0).trans f_0, (heldf W0 w1 hb _ _ z0).trans f_1, (heldf W0 w1 hb _ _ z0).trans f_2, grow hbw hb⟩
  have HBW := Lib.hid hbw
  clear hbw
  by_cases hn : n < 0
  · have hd : decide (n < 0) = true := decide_eq_true hn
    obtain ⟨m, HM⟩ : ∃ m : Nat, Hid (n = -(m : Int)) := ⟨n.natAbs, Lib.hid (by omega)⟩
    have hm : m < 18446744073709551616 := by have := HM.out; omega
    have e0 : IntKind.u64.wrap (-IntKind.u64.wrap n) = (m : Int) := by rw [IntKind.wrap_u64, IntKind.wrap_u64, HM.out]; have := HM.out; omega
    have HZ : (if true then -((m : Nat) : Int) else ((m : Nat) : Int)) = n := by rw [HM.out]; rfl
    have H3 := Lib.hid HZ
    clear HZ
    clear hn
    go_enter Tryz.func86, Tryz.ntmps86
    go_wp2_with fail
    clear hd
    rw [HW.out]
    refine (zof m W0 hm).mono ?_
    rintro e w1 ⟨rfl, hb1⟩
    clear c0_0 c0_1 c0_2 f_0 f_1 f_2 HBW; obtain ⟨c0_0, c0_1, c0_2, f_0, f_1, f_2, hbw⟩ := HR.out w1 (hb1); have HBW := Lib.hid hbw; clear hbw
    have HB1 := Lib.hid hb1
    clear hb1
    go_wp2_with fail
    refine (from_any true m n w1 H3.out).mono ?_
    rintro e w2 ⟨rfl, hb2⟩
    clear c0_0 c0_1 c0_2 f_0 f_1 f_2 HBW; obtain ⟨c0_0, c0_1, c0_2, f_0, f_1, f_2, hbw⟩ := HR.out w2 (grow HB1.out hb2); have HBW := Lib.hid hbw; clear hbw
    clear hb2
    go_wp2_with fail
    exact bodyPost_ret (v := (Value.agg #[.int .u64 (lo (Int.natAbs (n))), .string (bg (Int.natAbs (n))), .bool (decide ((n) < 0))])) (by simp [results, Tryz.results86, go_sem, c0_0, c0_1, c0_2]) rfl ⟨rfl, by first | exact sc3 (HBW.out) (by show w.heap.size ≤ w.heap.size; omega) | exact (sc3 (HBW.out) (by show w.heap.size ≤ w.heap.size; omega)).drew⟩
  · have hd : decide (n < 0) = false := decide_eq_false hn
    obtain ⟨m, HM⟩ : ∃ m : Nat, Hid (n = (m : Int)) := ⟨n.natAbs, Lib.hid (by omega)⟩
    have hm : m < 18446744073709551616 := by have := HM.out; omega
    have e0 : IntKind.u64.wrap n = (m : Int) := by rw [IntKind.wrap_u64]; have := HM.out; omega
    have H3 : Hid ((if false then -((m : Nat) : Int) else ((m : Nat) : Int)) = n) := by show _ = n; rw [HM.out]; rfl
    clear hn
    go_enter Tryz.func86, Tryz.ntmps86
    go_wp2_with fail
    clear hd
    rw [HW.out]
    refine (zof m W0 hm).mono ?_
    rintro e w1 ⟨rfl, hb1⟩
    clear c0_0 c0_1 c0_2 f_0 f_1 f_2 HBW; obtain ⟨c0_0, c0_1, c0_2, f_0, f_1, f_2, hbw⟩ := HR.out w1 (hb1); have HBW := Lib.hid hbw; clear hbw
    have HB1 := Lib.hid hb1
    clear hb1
    go_wp2_with fail
    refine (from_any false m n w1 H3.out).mono ?_
    rintro e w2 ⟨rfl, hb2⟩
    clear c0_0 c0_1 c0_2 f_0 f_1 f_2 HBW; obtain ⟨c0_0, c0_1, c0_2, f_0, f_1, f_2, hbw⟩ := HR.out w2 (grow HB1.out hb2); have HBW := Lib.hid hbw; clear hbw
    clear hb2
    go_wp2_with fail
    exact bodyPost_ret (v := (Value.agg #[.int .u64 (lo (Int.natAbs (n))), .string (bg (Int.natAbs (n))), .bool (decide ((n) < 0))])) (by simp [results, Tryz.results86, go_sem, c0_0, c0_1, c0_2]) rfl ⟨rfl, by first | exact sc3 (HBW.out) (by show w.heap.size ≤ w.heap.size; omega) | exact (sc3 (HBW.out) (by show w.heap.size ≤ w.heap.size; omega)).drew⟩

set_option maxHeartbeats 1000000 in
theorem fint_any (n : Int) (q : Rat) (w : World) (hq : (n : Rat) = q) (h1 : -9223372036854775808 ≤ n) (h2 : n ≤ 9223372036854775807) :
    Calls Tryz.prog 55 #[.int .i64 (n)] w fun e w' => e = .returned (.agg #[.int .u64 (lo q.num.natAbs), .string (bg q.num.natAbs), .bool (decide (q.num < 0)), .int .u64 (lo (q.den - 1)), .string (bg (q.den - 1))]) ∧ Below w.heap.size w w' := by
  replace hq := Lib.hid hq
  go_enter Tryz.func55, Tryz.ntmps55
  -- region 0
  refine wp_seq_k fun K hK => ?_
  replace hK := Lib.hid hK
  refine wp_region_lit ?_
  go_wp2
  refine hK.out _ _ ?_; clear hK K
  show Code.wp _ _ _ _ _
  refine forgetW (fun w2 => Bx w2 (w.heap.size) 36 #[.int .u64 0, .string ⟨#[]⟩, .bool false, .int .u64 0, .string ⟨#[]⟩] ∧ Below w.heap.size w w2) ⟨Bx.at rfl, (Below.refl _ _).alloc (Nat.le_refl _) _⟩ ?_
  rintro Wx ⟨bx0, HB⟩
  replace HB := Lib.hid HB
  -- region 1
  have HZ1 : Hid (((n : Int) : Rat) = q) := Lib.hid (hq.out)
  have BX0 := Lib.hid bx0
  clear bx0
  refine wp_seq_k fun K hK => ?_
  replace hK := Lib.hid hK
  refine wp_region_seqplan 3 [(true, 0), (true, 1), (true, 2)] (by rfl) (by simp) (fun T hT => ?_)
  iterate 1
    refine wpPlan_takeL (v := ?_) rfl (by rfl) (fun w' hw => ?_) ?_
    rotate_left
    · go_simp
      with_reducible rfl
    simp only [Act.put, rA, rB, rC]
  refine wpPlan_callL rfl (by rfl) Tryz.call86 (fun w' hw => iof_any (n) _ (by omega) (by omega)) (by rfl) ?_
  simp only [Act.put, rA, rB, rC]
  refine wpPlan_callL rfl (by rfl) Tryz.call46 (fun w' hw => fwhole_any (n) (q) _ HZ1.out) (by rfl) ?_
  simp only [Act.put, rA, rB, rC]
  refine wpPlan_nil (hT.out _ _ ?_); clear hT T
  intro vw1 hg
  simp only [puts, Act.put, rA, rB, rC, rD, rE, ↓reduceIte, Nat.reduceEqDiff]
  have HG := Lib.hid (hg)
  clear hg
  replace BX0 := bG BX0 HG
  have lx0 := BX0.out.cells; have fx0 := BX0.out.free
  have r0 := Gr.refl vw1
  go_wp2
  refine hK.out _ _ ?_; clear hK K
  show Code.wp _ _ _ _ _
  clear lx0 fx0
  clear r0
  refine forgetW (fun w2 => Bx w2 (w.heap.size) 36 #[.int .u64 (lo q.num.natAbs), .string (bg q.num.natAbs), .bool (decide (q.num < 0)), .int .u64 (lo (q.den - 1)), .string (bg (q.den - 1))] ∧ Below w.heap.size w w2) ⟨((((((BX0.out).set 0 _).set 1 _).set 2 _).set 3 _).set 4 _).eq (by simp only [rA, rB, rC]), sc5 (HB.out.trans (HG.out.mono HB.out.size)) (by show w.heap.size ≤ w.heap.size; omega)⟩ ?_
  clear HB HG BX0
  rintro Wx1 ⟨bx0, HB⟩
  replace HB := Lib.hid HB
  refine wp_ret ?_
  try simp only [Exit.then, Exit.inBlock]
  have lx0 := bx0.cells
  have r0 := Gr.refl Wx1
  exact bodyPost_ret (v := .agg #[.int .u64 (lo q.num.natAbs), .string (bg q.num.natAbs), .bool (decide (q.num < 0)), .int .u64 (lo (q.den - 1)), .string (bg (q.den - 1))]) (by simp [results, Tryz.results55, go_sem, lx0 _ r0]) rfl ⟨rfl, HB.out⟩

set_option maxHeartbeats 1000000 in
theorem fadd_int (a b z : Rat) (hz : a + b = z) (hs_a : sz a ≤ 100000000000) (hs_b : sz b ≤ 100000000000) (h1 : decide (a.den = 1) = true) (h2 : decide (b.den = 1) = true) (w : World) :
    Calls Tryz.prog 51 #[(Value.agg #[.int .u64 (lo a.num.natAbs), .string (bg a.num.natAbs), .bool (decide (a.num < 0)), .int .u64 (lo (a.den - 1)), .string (bg (a.den - 1))]), (Value.agg #[.int .u64 (lo b.num.natAbs), .string (bg b.num.natAbs), .bool (decide (b.num < 0)), .int .u64 (lo (b.den - 1)), .string (bg (b.den - 1))])] w fun e w' => e = .returned (.agg #[.int .u64 (lo z.num.natAbs), .string (bg z.num.natAbs), .bool (decide (z.num < 0)), .int .u64 (lo (z.den - 1)), .string (bg (z.den - 1))]) ∧ Below w.heap.size w w' := by
  have hn_a := Nat.le_trans (sz_num a) hs_a
  have hd_a := Nat.le_trans (sz_den a) hs_a
  have he_a := Nat.le_trans (wl_mono (Nat.sub_le a.den 1)) hd_a
  have hp_a : 0 < a.den := a.den_pos
  have hn_b := Nat.le_trans (sz_num b) hs_b
  have hd_b := Nat.le_trans (sz_den b) hs_b
  have he_b := Nat.le_trans (wl_mono (Nat.sub_le b.den 1)) hd_b
  have hp_b : 0 < b.den := b.den_pos
  replace hz := Lib.hid hz
  go_enter Tryz.func51, Tryz.ntmps51
  -- region 0
  refine wp_seq_k fun K hK => ?_
  replace hK := Lib.hid hK
  refine wp_region_lit ?_
  go_wp2
  refine hK.out _ _ ?_; clear hK K
  show Code.wp _ _ _ _ _
  refine forgetW (fun w2 => Bx w2 (w.heap.size) 36 #[.int .u64 (lo a.num.natAbs), .string (bg a.num.natAbs), .bool (decide (a.num < 0)), .int .u64 (lo (a.den - 1)), .string (bg (a.den - 1))] ∧ Bx w2 (w.heap.size + 1) 36 #[.int .u64 (lo b.num.natAbs), .string (bg b.num.natAbs), .bool (decide (b.num < 0)), .int .u64 (lo (b.den - 1)), .string (bg (b.den - 1))] ∧ Bx w2 (w.heap.size + 1 + 1) 36 #[.int .u64 0, .string ⟨#[]⟩, .bool false, .int .u64 0, .string ⟨#[]⟩] ∧ Below w.heap.size w w2) ⟨((Bx.at rfl).alloc _).alloc _, (Bx.at (by simp)).alloc _, Bx.at (by simp), (((Below.refl _ _).alloc (Nat.le_refl _) _).alloc (by simp) _).alloc (by simp; omega) _⟩ ?_
  rintro Wx ⟨bx0, bx1, bx2, HB⟩
  replace HB := Lib.hid HB
  refine wp_seq ?_
  refine wp_block ?_
  -- region 1
  have lx0 := bx0.cells
  have lx1 := bx1.cells
  have BX0 := Lib.hid bx0
  have BX1 := Lib.hid bx1
  have BX2 := Lib.hid bx2
  clear bx0 bx1 bx2
  refine wp_seq_k fun K hK => ?_
  replace hK := Lib.hid hK
  refine wp_region_seqplan 7 [(true, 0), (true, 1), (true, 2), (true, 3), (true, 4), (true, 5), (true, 6)] (by rfl) (by simp) (fun T hT => ?_)
  iterate 1
    refine wpPlan_takeL (v := ?_) rfl (by rfl) (fun w' hw => ?_) ?_
    rotate_left
    · go_simp
      with_reducible rfl
    simp only [Act.put, rA, rB, rC]
  refine wpPlan_callL rfl (by rfl) Tryz.call45 (fun w' hw => fiswhole_any (a) true _ h1) (by rfl) ?_
  simp only [Act.put, rA, rB, rC]
  iterate 2
    refine wpPlan_takeL (v := ?_) rfl (by rfl) (fun w' hw => ?_) ?_
    rotate_left
    · go_simp
      with_reducible rfl
    simp only [Act.put, rA, rB, rC]
  refine wpPlan_callL rfl (by rfl) Tryz.call45 (fun w' hw => fiswhole_any (b) true _ h2) (by rfl) ?_
  simp only [Act.put, rA, rB, rC]
  iterate 2
    refine wpPlan_takeL (v := ?_) rfl (by rfl) (fun w' hw => ?_) ?_
    rotate_left
    · go_simp
      with_reducible rfl
    simp only [Act.put, rA, rB, rC]
  refine wpPlan_nil (hT.out _ _ ?_); clear hT T
  intro vw1 hg
  simp only [puts, Act.put, rA, rB, rC, rD, rE, ↓reduceIte, Nat.reduceEqDiff]
  clear lx0 lx1
  have HG := Lib.hid (hg)
  clear hg
  replace BX0 := bG BX0 HG
  replace BX1 := bG BX1 HG
  replace BX2 := bG BX2 HG
  have r0 := Gr.refl vw1
  go_wp2
  refine hK.out _ _ ?_; clear hK K
  show Code.wp _ _ _ _ _
  clear r0
  refine forgetW (fun w2 => Bx w2 (w.heap.size) 36 #[.int .u64 (lo a.num.natAbs), .string (bg a.num.natAbs), .bool (decide (a.num < 0)), .int .u64 (lo (a.den - 1)), .string (bg (a.den - 1))] ∧ Bx w2 (w.heap.size + 1) 36 #[.int .u64 (lo b.num.natAbs), .string (bg b.num.natAbs), .bool (decide (b.num < 0)), .int .u64 (lo (b.den - 1)), .string (bg (b.den - 1))] ∧ Bx w2 (w.heap.size + 1 + 1) 36 #[.int .u64 0, .string ⟨#[]⟩, .bool false, .int .u64 0, .string ⟨#[]⟩] ∧ Below w.heap.size w w2) ⟨BX0.out, BX1.out, BX2.out, HB.out.trans (HG.out.mono HB.out.size)⟩ ?_
  clear HB HG BX0 BX1 BX2
  rintro Wx1 ⟨bx0, bx1, bx2, HB⟩
  replace HB := Lib.hid HB
  refine wp_cond_true (by rfl) ?_
  -- region 2
  obtain ⟨u1, HZ1⟩ : ∃ z, Hid ((a.num) + (b.num) = z) := ⟨_, Lib.hid rfl⟩
  have su1 : wl (Int.natAbs u1) ≤ 100000000001 := by rw [← HZ1.out]; have := wl_iadd (a.num) (b.num); omega
  have HZ2 : Hid (((u1 : Int) : Rat) = z) := Lib.hid (by rw [← HZ1.out, ← hz.out]; exact add_int a b (of_decide_eq_true h1) (of_decide_eq_true h2))
  have lx0 := bx0.cells
  have lx1 := bx1.cells
  have BX0 := Lib.hid bx0
  have BX1 := Lib.hid bx1
  have BX2 := Lib.hid bx2
  clear bx0 bx1 bx2
  refine wp_seq_k fun K hK => ?_
  replace hK := Lib.hid hK
  refine wp_region_seqplan 6 [(true, 0), (true, 1), (true, 2), (true, 3), (true, 4), (true, 5)] (by rfl) (by simp) (fun T hT => ?_)
  iterate 4
    refine wpPlan_takeL (v := ?_) rfl (by rfl) (fun w' hw => ?_) ?_
    rotate_left
    · go_simp
      with_reducible rfl
    simp only [Act.put, rA, rB, rC]
  refine wpPlan_callL rfl (by rfl) Tryz.call83 (fun w' hw => ziadd (a.num) (b.num) (u1) _ HZ1.out (by omega) (by omega)) (by rfl) ?_
  simp only [Act.put, rA, rB, rC]
  refine wpPlan_callL rfl (by rfl) Tryz.call46 (fun w' hw => fwhole_any (u1) (z) _ HZ2.out) (by rfl) ?_
  simp only [Act.put, rA, rB, rC]
  refine wpPlan_nil (hT.out _ _ ?_); clear hT T
  intro vw2 hg
  simp only [puts, Act.put, rA, rB, rC, rD, rE, ↓reduceIte, Nat.reduceEqDiff]
  clear lx0 lx1
  have HG := Lib.hid (hg)
  clear hg
  replace BX0 := bG BX0 HG
  replace BX1 := bG BX1 HG
  replace BX2 := bG BX2 HG
  have lx2 := BX2.out.cells; have fx2 := BX2.out.free
  have r0 := Gr.refl vw2
  go_wp2
  refine hK.out _ _ ?_; clear hK K
  show Code.wp _ _ _ _ _
  clear lx2 fx2
  clear r0
  refine forgetW (fun w2 => Bx w2 (w.heap.size) 36 #[.int .u64 (lo a.num.natAbs), .string (bg a.num.natAbs), .bool (decide (a.num < 0)), .int .u64 (lo (a.den - 1)), .string (bg (a.den - 1))] ∧ Bx w2 (w.heap.size + 1) 36 #[.int .u64 (lo b.num.natAbs), .string (bg b.num.natAbs), .bool (decide (b.num < 0)), .int .u64 (lo (b.den - 1)), .string (bg (b.den - 1))] ∧ Bx w2 (w.heap.size + 1 + 1) 36 #[.int .u64 (lo z.num.natAbs), .string (bg z.num.natAbs), .bool (decide (z.num < 0)), .int .u64 (lo (z.den - 1)), .string (bg (z.den - 1))] ∧ Below w.heap.size w w2) ⟨so5 (BX0.out) (by show w.heap.size ≠ w.heap.size + 1 + 1; omega), so5 (BX1.out) (by show w.heap.size + 1 ≠ w.heap.size + 1 + 1; omega), ((((((BX2.out).set 0 _).set 1 _).set 2 _).set 3 _).set 4 _).eq (by simp only [rA, rB, rC]), sc5 (HB.out.trans (HG.out.mono HB.out.size)) (by show w.heap.size ≤ w.heap.size + 1 + 1; omega)⟩ ?_
  clear HB HG BX0 BX1 BX2
  rintro Wx2 ⟨bx0, bx1, bx2, HB⟩
  replace HB := Lib.hid HB
  refine wp_ret ?_
  try simp only [Exit.then, Exit.inBlock]
  have lx2 := bx2.cells
  have r0 := Gr.refl Wx2
  exact bodyPost_ret (v := .agg #[.int .u64 (lo z.num.natAbs), .string (bg z.num.natAbs), .bool (decide (z.num < 0)), .int .u64 (lo (z.den - 1)), .string (bg (z.den - 1))]) (by simp [results, Tryz.results51, go_sem, lx2 _ r0]) rfl ⟨rfl, HB.out⟩

set_option maxHeartbeats 1000000 in
theorem fadd_same1 (a b z : Rat) (hz : a + b = z) (hs_a : sz a ≤ 100000000000) (hs_b : sz b ≤ 100000000000) (h1 : decide (a.den = 1) = true) (h2 : decide (b.den = 1) = false) (h3 : decide (a.den - 1 = b.den - 1) = false) (w : World) :
    Calls Tryz.prog 51 #[(Value.agg #[.int .u64 (lo a.num.natAbs), .string (bg a.num.natAbs), .bool (decide (a.num < 0)), .int .u64 (lo (a.den - 1)), .string (bg (a.den - 1))]), (Value.agg #[.int .u64 (lo b.num.natAbs), .string (bg b.num.natAbs), .bool (decide (b.num < 0)), .int .u64 (lo (b.den - 1)), .string (bg (b.den - 1))])] w fun e w' => e = .returned (.agg #[.int .u64 (lo z.num.natAbs), .string (bg z.num.natAbs), .bool (decide (z.num < 0)), .int .u64 (lo (z.den - 1)), .string (bg (z.den - 1))]) ∧ Below w.heap.size w w' := by
  have hn_a := Nat.le_trans (sz_num a) hs_a
  have hd_a := Nat.le_trans (sz_den a) hs_a
  have he_a := Nat.le_trans (wl_mono (Nat.sub_le a.den 1)) hd_a
  have hp_a : 0 < a.den := a.den_pos
  have hn_b := Nat.le_trans (sz_num b) hs_b
  have hd_b := Nat.le_trans (sz_den b) hs_b
  have he_b := Nat.le_trans (wl_mono (Nat.sub_le b.den 1)) hd_b
  have hp_b : 0 < b.den := b.den_pos
  replace hz := Lib.hid hz
  go_enter Tryz.func51, Tryz.ntmps51
  -- region 0
  refine wp_seq_k fun K hK => ?_
  replace hK := Lib.hid hK
  refine wp_region_lit ?_
  go_wp2
  refine hK.out _ _ ?_; clear hK K
  show Code.wp _ _ _ _ _
  refine forgetW (fun w2 => Bx w2 (w.heap.size) 36 #[.int .u64 (lo a.num.natAbs), .string (bg a.num.natAbs), .bool (decide (a.num < 0)), .int .u64 (lo (a.den - 1)), .string (bg (a.den - 1))] ∧ Bx w2 (w.heap.size + 1) 36 #[.int .u64 (lo b.num.natAbs), .string (bg b.num.natAbs), .bool (decide (b.num < 0)), .int .u64 (lo (b.den - 1)), .string (bg (b.den - 1))] ∧ Bx w2 (w.heap.size + 1 + 1) 36 #[.int .u64 0, .string ⟨#[]⟩, .bool false, .int .u64 0, .string ⟨#[]⟩] ∧ Below w.heap.size w w2) ⟨((Bx.at rfl).alloc _).alloc _, (Bx.at (by simp)).alloc _, Bx.at (by simp), (((Below.refl _ _).alloc (Nat.le_refl _) _).alloc (by simp) _).alloc (by simp; omega) _⟩ ?_
  rintro Wx ⟨bx0, bx1, bx2, HB⟩
  replace HB := Lib.hid HB
  refine wp_seq ?_
  refine wp_block ?_
  -- region 1
  have lx0 := bx0.cells
  have lx1 := bx1.cells
  have BX0 := Lib.hid bx0
  have BX1 := Lib.hid bx1
  have BX2 := Lib.hid bx2
  clear bx0 bx1 bx2
  refine wp_seq_k fun K hK => ?_
  replace hK := Lib.hid hK
  refine wp_region_seqplan 7 [(true, 0), (true, 1), (true, 2), (true, 3), (true, 4), (true, 5), (true, 6)] (by rfl) (by simp) (fun T hT => ?_)
  iterate 1
    refine wpPlan_takeL (v := ?_) rfl (by rfl) (fun w' hw => ?_) ?_
    rotate_left
    · go_simp
      with_reducible rfl
    simp only [Act.put, rA, rB, rC]
  refine wpPlan_callL rfl (by rfl) Tryz.call45 (fun w' hw => fiswhole_any (a) true _ h1) (by rfl) ?_
  simp only [Act.put, rA, rB, rC]
  iterate 2
    refine wpPlan_takeL (v := ?_) rfl (by rfl) (fun w' hw => ?_) ?_
    rotate_left
    · go_simp
      with_reducible rfl
    simp only [Act.put, rA, rB, rC]
  refine wpPlan_callL rfl (by rfl) Tryz.call45 (fun w' hw => fiswhole_any (b) false _ h2) (by rfl) ?_
  simp only [Act.put, rA, rB, rC]
  iterate 2
    refine wpPlan_takeL (v := ?_) rfl (by rfl) (fun w' hw => ?_) ?_
    rotate_left
    · go_simp
      with_reducible rfl
    simp only [Act.put, rA, rB, rC]
  refine wpPlan_nil (hT.out _ _ ?_); clear hT T
  intro vw1 hg
  simp only [puts, Act.put, rA, rB, rC, rD, rE, ↓reduceIte, Nat.reduceEqDiff]
  clear lx0 lx1
  have HG := Lib.hid (hg)
  clear hg
  replace BX0 := bG BX0 HG
  replace BX1 := bG BX1 HG
  replace BX2 := bG BX2 HG
  have r0 := Gr.refl vw1
  go_wp2
  refine hK.out _ _ ?_; clear hK K
  show Code.wp _ _ _ _ _
  clear r0
  refine forgetW (fun w2 => Bx w2 (w.heap.size) 36 #[.int .u64 (lo a.num.natAbs), .string (bg a.num.natAbs), .bool (decide (a.num < 0)), .int .u64 (lo (a.den - 1)), .string (bg (a.den - 1))] ∧ Bx w2 (w.heap.size + 1) 36 #[.int .u64 (lo b.num.natAbs), .string (bg b.num.natAbs), .bool (decide (b.num < 0)), .int .u64 (lo (b.den - 1)), .string (bg (b.den - 1))] ∧ Bx w2 (w.heap.size + 1 + 1) 36 #[.int .u64 0, .string ⟨#[]⟩, .bool false, .int .u64 0, .string ⟨#[]⟩] ∧ Below w.heap.size w w2) ⟨BX0.out, BX1.out, BX2.out, HB.out.trans (HG.out.mono HB.out.size)⟩ ?_
  clear HB HG BX0 BX1 BX2
  rintro Wx1 ⟨bx0, bx1, bx2, HB⟩
  replace HB := Lib.hid HB
  refine wp_cond_false (by rfl) ?_
  -- region 3
  have lx0 := bx0.cells
  have lx1 := bx1.cells
  have BX0 := Lib.hid bx0
  have BX1 := Lib.hid bx1
  have BX2 := Lib.hid bx2
  clear bx0 bx1 bx2
  refine wp_seq_k fun K hK => ?_
  replace hK := Lib.hid hK
  refine wp_region_seqplan 6 [(true, 0), (true, 1), (true, 2), (true, 3), (true, 4), (true, 5)] (by rfl) (by simp) (fun T hT => ?_)
  iterate 6
    refine wpPlan_takeL (v := ?_) rfl (by rfl) (fun w' hw => ?_) ?_
    rotate_left
    · go_simp
      with_reducible rfl
    simp only [Act.put, rA, rB, rC]
  refine wpPlan_nil (hT.out _ _ ?_); clear hT T
  intro vw2 hg
  simp only [puts, Act.put, rA, rB, rC, rD, rE, ↓reduceIte, Nat.reduceEqDiff]
  clear lx0 lx1
  have HG := Lib.hid (hg)
  clear hg
  replace BX0 := bG BX0 HG
  replace BX1 := bG BX1 HG
  replace BX2 := bG BX2 HG
  have r0 := Gr.refl vw2
  go_wp2
  refine hK.out _ _ ?_; clear hK K
  show Code.wp _ _ _ _ _
  clear r0
  refine forgetW (fun w2 => Bx w2 (w.heap.size) 36 #[.int .u64 (lo a.num.natAbs), .string (bg a.num.natAbs), .bool (decide (a.num < 0)), .int .u64 (lo (a.den - 1)), .string (bg (a.den - 1))] ∧ Bx w2 (w.heap.size + 1) 36 #[.int .u64 (lo b.num.natAbs), .string (bg b.num.natAbs), .bool (decide (b.num < 0)), .int .u64 (lo (b.den - 1)), .string (bg (b.den - 1))] ∧ Bx w2 (w.heap.size + 1 + 1) 36 #[.int .u64 0, .string ⟨#[]⟩, .bool false, .int .u64 0, .string ⟨#[]⟩] ∧ Below w.heap.size w w2) ⟨BX0.out, BX1.out, BX2.out, HB.out.trans (HG.out.mono HB.out.size)⟩ ?_
  clear HB HG BX0 BX1 BX2
  rintro Wx3 ⟨bx0, bx1, bx2, HB⟩
  replace HB := Lib.hid HB
  refine wp_cond_false (by rfl) ?_
  refine wp_skip ?_
  show Code.wp _ _ _ _ _
  -- region 5
  obtain ⟨u1, HZ1⟩ : ∃ z, Hid ((b.den : Int) = z) := ⟨_, Lib.hid rfl⟩
  have su1 : wl (Int.natAbs u1) ≤ 100000000000 := by rw [← HZ1.out]; rw [Int.natAbs_natCast]; omega
  obtain ⟨u2, HZ2⟩ : ∃ z, Hid ((a.num) * (u1) = z) := ⟨_, Lib.hid rfl⟩
  have su2 : wl (Int.natAbs u2) ≤ 200000000000 := by rw [← HZ2.out]; have := wl_imul (a.num) (u1); omega
  obtain ⟨u3, HZ3⟩ : ∃ z, Hid ((a.den : Int) = z) := ⟨_, Lib.hid rfl⟩
  have su3 : wl (Int.natAbs u3) ≤ 100000000000 := by rw [← HZ3.out]; rw [Int.natAbs_natCast]; omega
  obtain ⟨u4, HZ4⟩ : ∃ z, Hid ((b.num) * (u3) = z) := ⟨_, Lib.hid rfl⟩
  have su4 : wl (Int.natAbs u4) ≤ 200000000000 := by rw [← HZ4.out]; have := wl_imul (b.num) (u3); omega
  obtain ⟨u5, HZ5⟩ : ∃ z, Hid ((u2) + (u4) = z) := ⟨_, Lib.hid rfl⟩
  have su5 : wl (Int.natAbs u5) ≤ 200000000001 := by rw [← HZ5.out]; have := wl_iadd (u2) (u4); omega
  obtain ⟨u6, HZ6⟩ : ∃ z, Hid ((a.den) * (b.den) = z) := ⟨_, Lib.hid rfl⟩
  have su6 : wl u6 ≤ 200000000000 := by rw [← HZ6.out]; have := wl_mul (a.den) (b.den); omega
  have HZ7 : Hid (mkRat (u5) (u6) = z) := Lib.hid (by rw [← HZ5.out, ← HZ2.out, ← HZ4.out, ← HZ6.out, ← HZ1.out, ← HZ3.out, ← hz.out]; exact (Rat.add_def' a b).symm)
  have lx0 := bx0.cells
  have lx1 := bx1.cells
  have BX0 := Lib.hid bx0
  have BX1 := Lib.hid bx1
  have BX2 := Lib.hid bx2
  clear bx0 bx1 bx2
  refine wp_seq_k fun K hK => ?_
  replace hK := Lib.hid hK
  refine wp_region_plan 17 [] [] (fun _ => 0) (fun _ => .cells #[] 0) [(true, 0), (true, 1), (true, 2), (true, 5), (true, 6), (true, 7), (true, 11), (true, 13), (true, 3), (true, 4), (true, 8), (true, 9), (true, 10), (true, 12), (true, 14), (true, 15), (true, 16)] (by kernel_rfl) (by kernel_rfl) (fun i hi => by cases hi) (fun i hi => by cases hi) (fun _ _ _ _ _ h => h) (fun T hT => ?_)
  iterate 8
    refine wpPlan_takeL (v := ?_) rfl (by rfl) (fun w' hw => ?_) ?_
    rotate_left
    · go_simp
      with_reducible rfl
    simp only [Act.put, rA, rB, rC]
  refine wpPlan_callL rfl (by rfl) Tryz.call68 (fun w' hw => fsigned_any (b) (u1) _ HZ1.out (by omega)) (by rfl) ?_
  simp only [Act.put, rA, rB, rC]
  refine wpPlan_callL rfl (by rfl) Tryz.call47 (fun w' hw => zimul (a.num) (u1) (u2) _ HZ2.out (by omega) (by omega)) (by rfl) ?_
  simp only [Act.put, rA, rB, rC]
  refine wpPlan_callL rfl (by rfl) Tryz.call68 (fun w' hw => fsigned_any (a) (u3) _ HZ3.out (by omega)) (by rfl) ?_
  simp only [Act.put, rA, rB, rC]
  refine wpPlan_callL rfl (by rfl) Tryz.call47 (fun w' hw => zimul (b.num) (u3) (u4) _ HZ4.out (by omega) (by omega)) (by rfl) ?_
  simp only [Act.put, rA, rB, rC]
  refine wpPlan_callL rfl (by rfl) Tryz.call83 (fun w' hw => ziadd (u2) (u4) (u5) _ HZ5.out (by omega) (by omega)) (by rfl) ?_
  simp only [Act.put, rA, rB, rC]
  refine wpPlan_callL rfl (by rfl) Tryz.call50 (fun w' hw => fden_any (a) (by omega) _) (by rfl) ?_
  simp only [Act.put, rA, rB, rC]
  refine wpPlan_callL rfl (by rfl) Tryz.call50 (fun w' hw => fden_any (b) (by omega) _) (by rfl) ?_
  simp only [Act.put, rA, rB, rC]
  refine wpPlan_callL rfl (by rfl) Tryz.call49 (fun w' hw => zmul (a.den) (b.den) (u6) _ HZ6.out (by omega) (by omega)) (by rfl) ?_
  simp only [Act.put, rA, rB, rC]
  refine wpPlan_callL rfl (by rfl) Tryz.call48 (fun w' hw => lowest_any (u5) (u6) (z) HZ7 (by rw [← HZ6.out]; exact Nat.mul_pos hp_a hp_b) (by omega) (by omega) _) (by rfl) ?_
  simp only [Act.put, rA, rB, rC]
  refine wpPlan_nil (hT.out _ _ ?_); clear hT T
  intro G vw3 hg hf
  simp only [puts, Act.put, rA, rB, rC, rD, rE, ↓reduceIte, Nat.reduceEqDiff]
  clear lx0 lx1
  have HG := Lib.hid (hg)
  clear hg
  replace BX0 := bG BX0 HG
  replace BX1 := bG BX1 HG
  replace BX2 := bG BX2 HG
  have lx2 := BX2.out.cells; have fx2 := BX2.out.free
  have r0 := Gr.refl vw3
  go_wp2
  refine hK.out _ _ ?_; clear hK K
  show Code.wp _ _ _ _ _
  clear lx2 fx2
  clear r0
  refine forgetW (fun w2 => Bx w2 (w.heap.size + 1 + 1) 36 #[.int .u64 (lo z.num.natAbs), .string (bg z.num.natAbs), .bool (decide (z.num < 0)), .int .u64 (lo (z.den - 1)), .string (bg (z.den - 1))] ∧ Below w.heap.size w w2) ⟨((((((BX2.out).set 0 _).set 1 _).set 2 _).set 3 _).set 4 _).eq (by simp only [rA, rB, rC]), sc5 (HB.out.trans (HG.out.mono HB.out.size)) (by show w.heap.size ≤ w.heap.size + 1 + 1; omega)⟩ ?_
  clear HB HG BX0 BX1 BX2
  rintro Wx5 ⟨bx2, HB⟩
  replace HB := Lib.hid HB
  refine wp_ret ?_
  try simp only [Exit.then, Exit.inBlock]
  have lx2 := bx2.cells
  have r0 := Gr.refl Wx5
  exact bodyPost_ret (v := .agg #[.int .u64 (lo z.num.natAbs), .string (bg z.num.natAbs), .bool (decide (z.num < 0)), .int .u64 (lo (z.den - 1)), .string (bg (z.den - 1))]) (by simp [results, Tryz.results51, go_sem, lx2 _ r0]) rfl ⟨rfl, HB.out⟩

set_option maxHeartbeats 1000000 in
theorem fadd_same (a b z : Rat) (hz : a + b = z) (hs_a : sz a ≤ 100000000000) (hs_b : sz b ≤ 100000000000) (h1 : decide (a.den = 1) = false) (h3 : decide (a.den - 1 = b.den - 1) = true) (w : World) :
    Calls Tryz.prog 51 #[(Value.agg #[.int .u64 (lo a.num.natAbs), .string (bg a.num.natAbs), .bool (decide (a.num < 0)), .int .u64 (lo (a.den - 1)), .string (bg (a.den - 1))]), (Value.agg #[.int .u64 (lo b.num.natAbs), .string (bg b.num.natAbs), .bool (decide (b.num < 0)), .int .u64 (lo (b.den - 1)), .string (bg (b.den - 1))])] w fun e w' => e = .returned (.agg #[.int .u64 (lo z.num.natAbs), .string (bg z.num.natAbs), .bool (decide (z.num < 0)), .int .u64 (lo (z.den - 1)), .string (bg (z.den - 1))]) ∧ Below w.heap.size w w' := by
  have hn_a := Nat.le_trans (sz_num a) hs_a
  have hd_a := Nat.le_trans (sz_den a) hs_a
  have he_a := Nat.le_trans (wl_mono (Nat.sub_le a.den 1)) hd_a
  have hp_a : 0 < a.den := a.den_pos
  have hn_b := Nat.le_trans (sz_num b) hs_b
  have hd_b := Nat.le_trans (sz_den b) hs_b
  have he_b := Nat.le_trans (wl_mono (Nat.sub_le b.den 1)) hd_b
  have hp_b : 0 < b.den := b.den_pos
  replace hz := Lib.hid hz
  go_enter Tryz.func51, Tryz.ntmps51
  -- region 0
  refine wp_seq_k fun K hK => ?_
  replace hK := Lib.hid hK
  refine wp_region_lit ?_
  go_wp2
  refine hK.out _ _ ?_; clear hK K
  show Code.wp _ _ _ _ _
  refine forgetW (fun w2 => Bx w2 (w.heap.size) 36 #[.int .u64 (lo a.num.natAbs), .string (bg a.num.natAbs), .bool (decide (a.num < 0)), .int .u64 (lo (a.den - 1)), .string (bg (a.den - 1))] ∧ Bx w2 (w.heap.size + 1) 36 #[.int .u64 (lo b.num.natAbs), .string (bg b.num.natAbs), .bool (decide (b.num < 0)), .int .u64 (lo (b.den - 1)), .string (bg (b.den - 1))] ∧ Bx w2 (w.heap.size + 1 + 1) 36 #[.int .u64 0, .string ⟨#[]⟩, .bool false, .int .u64 0, .string ⟨#[]⟩] ∧ Below w.heap.size w w2) ⟨((Bx.at rfl).alloc _).alloc _, (Bx.at (by simp)).alloc _, Bx.at (by simp), (((Below.refl _ _).alloc (Nat.le_refl _) _).alloc (by simp) _).alloc (by simp; omega) _⟩ ?_
  rintro Wx ⟨bx0, bx1, bx2, HB⟩
  replace HB := Lib.hid HB
  refine wp_seq ?_
  refine wp_block ?_
  -- region 1
  have lx0 := bx0.cells
  have lx1 := bx1.cells
  have BX0 := Lib.hid bx0
  have BX1 := Lib.hid bx1
  have BX2 := Lib.hid bx2
  clear bx0 bx1 bx2
  refine wp_seq_k fun K hK => ?_
  replace hK := Lib.hid hK
  refine wp_region_seqplan 7 [(true, 0), (true, 1), (true, 2), (true, 3), (true, 4), (true, 5), (true, 6)] (by rfl) (by simp) (fun T hT => ?_)
  iterate 1
    refine wpPlan_takeL (v := ?_) rfl (by rfl) (fun w' hw => ?_) ?_
    rotate_left
    · go_simp
      with_reducible rfl
    simp only [Act.put, rA, rB, rC]
  refine wpPlan_callL rfl (by rfl) Tryz.call45 (fun w' hw => fiswhole_any (a) false _ h1) (by rfl) ?_
  simp only [Act.put, rA, rB, rC]
  iterate 1
    refine wpPlan_takeL (v := ?_) rfl (by rfl) (fun w' hw => ?_) ?_
    rotate_left
    · go_simp
      with_reducible rfl
    simp only [Act.put, rA, rB, rC]
  refine wpPlan_skipL rfl (by rfl) ?_
  simp only [Act.put, rA, rB, rC]
  refine wpPlan_skipL rfl (by rfl) ?_
  simp only [Act.put, rA, rB, rC]
  iterate 2
    refine wpPlan_takeL (v := ?_) rfl (by rfl) (fun w' hw => ?_) ?_
    rotate_left
    · go_simp
      with_reducible rfl
    simp only [Act.put, rA, rB, rC]
  refine wpPlan_nil (hT.out _ _ ?_); clear hT T
  intro vw1 hg
  simp only [puts, Act.put, rA, rB, rC, rD, rE, ↓reduceIte, Nat.reduceEqDiff]
  clear lx0 lx1
  have HG := Lib.hid (hg)
  clear hg
  replace BX0 := bG BX0 HG
  replace BX1 := bG BX1 HG
  replace BX2 := bG BX2 HG
  have r0 := Gr.refl vw1
  go_wp2
  refine hK.out _ _ ?_; clear hK K
  show Code.wp _ _ _ _ _
  clear r0
  refine forgetW (fun w2 => Bx w2 (w.heap.size) 36 #[.int .u64 (lo a.num.natAbs), .string (bg a.num.natAbs), .bool (decide (a.num < 0)), .int .u64 (lo (a.den - 1)), .string (bg (a.den - 1))] ∧ Bx w2 (w.heap.size + 1) 36 #[.int .u64 (lo b.num.natAbs), .string (bg b.num.natAbs), .bool (decide (b.num < 0)), .int .u64 (lo (b.den - 1)), .string (bg (b.den - 1))] ∧ Bx w2 (w.heap.size + 1 + 1) 36 #[.int .u64 0, .string ⟨#[]⟩, .bool false, .int .u64 0, .string ⟨#[]⟩] ∧ Below w.heap.size w w2) ⟨BX0.out, BX1.out, BX2.out, HB.out.trans (HG.out.mono HB.out.size)⟩ ?_
  clear HB HG BX0 BX1 BX2
  rintro Wx1 ⟨bx0, bx1, bx2, HB⟩
  replace HB := Lib.hid HB
  refine wp_cond_false (by rfl) ?_
  -- region 3
  have lx0 := bx0.cells
  have lx1 := bx1.cells
  have BX0 := Lib.hid bx0
  have BX1 := Lib.hid bx1
  have BX2 := Lib.hid bx2
  clear bx0 bx1 bx2
  refine wp_seq_k fun K hK => ?_
  replace hK := Lib.hid hK
  refine wp_region_seqplan 6 [(true, 0), (true, 1), (true, 2), (true, 3), (true, 4), (true, 5)] (by rfl) (by simp) (fun T hT => ?_)
  iterate 6
    refine wpPlan_takeL (v := ?_) rfl (by rfl) (fun w' hw => ?_) ?_
    rotate_left
    · go_simp
      with_reducible rfl
    simp only [Act.put, rA, rB, rC]
  refine wpPlan_nil (hT.out _ _ ?_); clear hT T
  intro vw2 hg
  simp only [puts, Act.put, rA, rB, rC, rD, rE, ↓reduceIte, Nat.reduceEqDiff]
  clear lx0 lx1
  have HG := Lib.hid (hg)
  clear hg
  replace BX0 := bG BX0 HG
  replace BX1 := bG BX1 HG
  replace BX2 := bG BX2 HG
  have r0 := Gr.refl vw2
  go_wp2
  refine hK.out _ _ ?_; clear hK K
  show Code.wp _ _ _ _ _
  clear r0
  refine forgetW (fun w2 => Bx w2 (w.heap.size) 36 #[.int .u64 (lo a.num.natAbs), .string (bg a.num.natAbs), .bool (decide (a.num < 0)), .int .u64 (lo (a.den - 1)), .string (bg (a.den - 1))] ∧ Bx w2 (w.heap.size + 1) 36 #[.int .u64 (lo b.num.natAbs), .string (bg b.num.natAbs), .bool (decide (b.num < 0)), .int .u64 (lo (b.den - 1)), .string (bg (b.den - 1))] ∧ Bx w2 (w.heap.size + 1 + 1) 36 #[.int .u64 0, .string ⟨#[]⟩, .bool false, .int .u64 0, .string ⟨#[]⟩] ∧ Below w.heap.size w w2) ⟨BX0.out, BX1.out, BX2.out, HB.out.trans (HG.out.mono HB.out.size)⟩ ?_
  clear HB HG BX0 BX1 BX2
  rintro Wx3 ⟨bx0, bx1, bx2, HB⟩
  replace HB := Lib.hid HB
  refine wp_cond_true (by rfl) ?_
  -- region 4
  obtain ⟨u1, HZ1⟩ : ∃ z, Hid ((a.num) + (b.num) = z) := ⟨_, Lib.hid rfl⟩
  have su1 : wl (Int.natAbs u1) ≤ 100000000001 := by rw [← HZ1.out]; have := wl_iadd (a.num) (b.num); omega
  have HZ2 : Hid (mkRat (u1) (a.den) = z) := Lib.hid (by rw [← HZ1.out, ← hz.out]; exact add_same a b (by have := of_decide_eq_true h3; omega))
  have lx0 := bx0.cells
  have lx1 := bx1.cells
  have BX0 := Lib.hid bx0
  have BX1 := Lib.hid bx1
  have BX2 := Lib.hid bx2
  clear bx0 bx1 bx2
  refine wp_seq_k fun K hK => ?_
  replace hK := Lib.hid hK
  refine wp_region_plan 8 [] [] (fun _ => 0) (fun _ => .cells #[] 0) [(true, 0), (true, 1), (true, 2), (true, 3), (true, 5), (true, 4), (true, 6), (true, 7)] (by kernel_rfl) (by kernel_rfl) (fun i hi => by cases hi) (fun i hi => by cases hi) (fun _ _ _ _ _ h => h) (fun T hT => ?_)
  iterate 5
    refine wpPlan_takeL (v := ?_) rfl (by rfl) (fun w' hw => ?_) ?_
    rotate_left
    · go_simp
      with_reducible rfl
    simp only [Act.put, rA, rB, rC]
  refine wpPlan_callL rfl (by rfl) Tryz.call83 (fun w' hw => ziadd (a.num) (b.num) (u1) _ HZ1.out (by omega) (by omega)) (by rfl) ?_
  simp only [Act.put, rA, rB, rC]
  refine wpPlan_callL rfl (by rfl) Tryz.call50 (fun w' hw => fden_any (a) (by omega) _) (by rfl) ?_
  simp only [Act.put, rA, rB, rC]
  refine wpPlan_callL rfl (by rfl) Tryz.call48 (fun w' hw => lowest_any (u1) (a.den) (z) HZ2 (by omega) (by omega) (by omega) _) (by rfl) ?_
  simp only [Act.put, rA, rB, rC]
  refine wpPlan_nil (hT.out _ _ ?_); clear hT T
  intro G vw3 hg hf
  simp only [puts, Act.put, rA, rB, rC, rD, rE, ↓reduceIte, Nat.reduceEqDiff]
  clear lx0 lx1
  have HG := Lib.hid (hg)
  clear hg
  replace BX0 := bG BX0 HG
  replace BX1 := bG BX1 HG
  replace BX2 := bG BX2 HG
  have lx2 := BX2.out.cells; have fx2 := BX2.out.free
  have r0 := Gr.refl vw3
  go_wp2
  refine hK.out _ _ ?_; clear hK K
  show Code.wp _ _ _ _ _
  clear lx2 fx2
  clear r0
  refine forgetW (fun w2 => Bx w2 (w.heap.size) 36 #[.int .u64 (lo a.num.natAbs), .string (bg a.num.natAbs), .bool (decide (a.num < 0)), .int .u64 (lo (a.den - 1)), .string (bg (a.den - 1))] ∧ Bx w2 (w.heap.size + 1) 36 #[.int .u64 (lo b.num.natAbs), .string (bg b.num.natAbs), .bool (decide (b.num < 0)), .int .u64 (lo (b.den - 1)), .string (bg (b.den - 1))] ∧ Bx w2 (w.heap.size + 1 + 1) 36 #[.int .u64 (lo z.num.natAbs), .string (bg z.num.natAbs), .bool (decide (z.num < 0)), .int .u64 (lo (z.den - 1)), .string (bg (z.den - 1))] ∧ Below w.heap.size w w2) ⟨so5 (BX0.out) (by show w.heap.size ≠ w.heap.size + 1 + 1; omega), so5 (BX1.out) (by show w.heap.size + 1 ≠ w.heap.size + 1 + 1; omega), ((((((BX2.out).set 0 _).set 1 _).set 2 _).set 3 _).set 4 _).eq (by simp only [rA, rB, rC]), sc5 (HB.out.trans (HG.out.mono HB.out.size)) (by show w.heap.size ≤ w.heap.size + 1 + 1; omega)⟩ ?_
  clear HB HG BX0 BX1 BX2
  rintro Wx4 ⟨bx0, bx1, bx2, HB⟩
  replace HB := Lib.hid HB
  refine wp_ret ?_
  try simp only [Exit.then, Exit.inBlock]
  have lx2 := bx2.cells
  have r0 := Gr.refl Wx4
  exact bodyPost_ret (v := .agg #[.int .u64 (lo z.num.natAbs), .string (bg z.num.natAbs), .bool (decide (z.num < 0)), .int .u64 (lo (z.den - 1)), .string (bg (z.den - 1))]) (by simp [results, Tryz.results51, go_sem, lx2 _ r0]) rfl ⟨rfl, HB.out⟩

set_option maxHeartbeats 1000000 in
theorem fadd_other (a b z : Rat) (hz : a + b = z) (hs_a : sz a ≤ 100000000000) (hs_b : sz b ≤ 100000000000) (h1 : decide (a.den = 1) = false) (h3 : decide (a.den - 1 = b.den - 1) = false) (w : World) :
    Calls Tryz.prog 51 #[(Value.agg #[.int .u64 (lo a.num.natAbs), .string (bg a.num.natAbs), .bool (decide (a.num < 0)), .int .u64 (lo (a.den - 1)), .string (bg (a.den - 1))]), (Value.agg #[.int .u64 (lo b.num.natAbs), .string (bg b.num.natAbs), .bool (decide (b.num < 0)), .int .u64 (lo (b.den - 1)), .string (bg (b.den - 1))])] w fun e w' => e = .returned (.agg #[.int .u64 (lo z.num.natAbs), .string (bg z.num.natAbs), .bool (decide (z.num < 0)), .int .u64 (lo (z.den - 1)), .string (bg (z.den - 1))]) ∧ Below w.heap.size w w' := by
  have hn_a := Nat.le_trans (sz_num a) hs_a
  have hd_a := Nat.le_trans (sz_den a) hs_a
  have he_a := Nat.le_trans (wl_mono (Nat.sub_le a.den 1)) hd_a
  have hp_a : 0 < a.den := a.den_pos
  have hn_b := Nat.le_trans (sz_num b) hs_b
  have hd_b := Nat.le_trans (sz_den b) hs_b
  have he_b := Nat.le_trans (wl_mono (Nat.sub_le b.den 1)) hd_b
  have hp_b : 0 < b.den := b.den_pos
  replace hz := Lib.hid hz
  go_enter Tryz.func51, Tryz.ntmps51
  -- region 0
  refine wp_seq_k fun K hK => ?_
  replace hK := Lib.hid hK
  refine wp_region_lit ?_
  go_wp2
  refine hK.out _ _ ?_; clear hK K
  show Code.wp _ _ _ _ _
  refine forgetW (fun w2 => Bx w2 (w.heap.size) 36 #[.int .u64 (lo a.num.natAbs), .string (bg a.num.natAbs), .bool (decide (a.num < 0)), .int .u64 (lo (a.den - 1)), .string (bg (a.den - 1))] ∧ Bx w2 (w.heap.size + 1) 36 #[.int .u64 (lo b.num.natAbs), .string (bg b.num.natAbs), .bool (decide (b.num < 0)), .int .u64 (lo (b.den - 1)), .string (bg (b.den - 1))] ∧ Bx w2 (w.heap.size + 1 + 1) 36 #[.int .u64 0, .string ⟨#[]⟩, .bool false, .int .u64 0, .string ⟨#[]⟩] ∧ Below w.heap.size w w2) ⟨((Bx.at rfl).alloc _).alloc _, (Bx.at (by simp)).alloc _, Bx.at (by simp), (((Below.refl _ _).alloc (Nat.le_refl _) _).alloc (by simp) _).alloc (by simp; omega) _⟩ ?_
  rintro Wx ⟨bx0, bx1, bx2, HB⟩
  replace HB := Lib.hid HB
  refine wp_seq ?_
  refine wp_block ?_
  -- region 1
  have lx0 := bx0.cells
  have lx1 := bx1.cells
  have BX0 := Lib.hid bx0
  have BX1 := Lib.hid bx1
  have BX2 := Lib.hid bx2
  clear bx0 bx1 bx2
  refine wp_seq_k fun K hK => ?_
  replace hK := Lib.hid hK
  refine wp_region_seqplan 7 [(true, 0), (true, 1), (true, 2), (true, 3), (true, 4), (true, 5), (true, 6)] (by rfl) (by simp) (fun T hT => ?_)
  iterate 1
    refine wpPlan_takeL (v := ?_) rfl (by rfl) (fun w' hw => ?_) ?_
    rotate_left
    · go_simp
      with_reducible rfl
    simp only [Act.put, rA, rB, rC]
  refine wpPlan_callL rfl (by rfl) Tryz.call45 (fun w' hw => fiswhole_any (a) false _ h1) (by rfl) ?_
  simp only [Act.put, rA, rB, rC]
  iterate 1
    refine wpPlan_takeL (v := ?_) rfl (by rfl) (fun w' hw => ?_) ?_
    rotate_left
    · go_simp
      with_reducible rfl
    simp only [Act.put, rA, rB, rC]
  refine wpPlan_skipL rfl (by rfl) ?_
  simp only [Act.put, rA, rB, rC]
  refine wpPlan_skipL rfl (by rfl) ?_
  simp only [Act.put, rA, rB, rC]
  iterate 2
    refine wpPlan_takeL (v := ?_) rfl (by rfl) (fun w' hw => ?_) ?_
    rotate_left
    · go_simp
      with_reducible rfl
    simp only [Act.put, rA, rB, rC]
  refine wpPlan_nil (hT.out _ _ ?_); clear hT T
  intro vw1 hg
  simp only [puts, Act.put, rA, rB, rC, rD, rE, ↓reduceIte, Nat.reduceEqDiff]
  clear lx0 lx1
  have HG := Lib.hid (hg)
  clear hg
  replace BX0 := bG BX0 HG
  replace BX1 := bG BX1 HG
  replace BX2 := bG BX2 HG
  have r0 := Gr.refl vw1
  go_wp2
  refine hK.out _ _ ?_; clear hK K
  show Code.wp _ _ _ _ _
  clear r0
  refine forgetW (fun w2 => Bx w2 (w.heap.size) 36 #[.int .u64 (lo a.num.natAbs), .string (bg a.num.natAbs), .bool (decide (a.num < 0)), .int .u64 (lo (a.den - 1)), .string (bg (a.den - 1))] ∧ Bx w2 (w.heap.size + 1) 36 #[.int .u64 (lo b.num.natAbs), .string (bg b.num.natAbs), .bool (decide (b.num < 0)), .int .u64 (lo (b.den - 1)), .string (bg (b.den - 1))] ∧ Bx w2 (w.heap.size + 1 + 1) 36 #[.int .u64 0, .string ⟨#[]⟩, .bool false, .int .u64 0, .string ⟨#[]⟩] ∧ Below w.heap.size w w2) ⟨BX0.out, BX1.out, BX2.out, HB.out.trans (HG.out.mono HB.out.size)⟩ ?_
  clear HB HG BX0 BX1 BX2
  rintro Wx1 ⟨bx0, bx1, bx2, HB⟩
  replace HB := Lib.hid HB
  refine wp_cond_false (by rfl) ?_
  -- region 3
  have lx0 := bx0.cells
  have lx1 := bx1.cells
  have BX0 := Lib.hid bx0
  have BX1 := Lib.hid bx1
  have BX2 := Lib.hid bx2
  clear bx0 bx1 bx2
  refine wp_seq_k fun K hK => ?_
  replace hK := Lib.hid hK
  refine wp_region_seqplan 6 [(true, 0), (true, 1), (true, 2), (true, 3), (true, 4), (true, 5)] (by rfl) (by simp) (fun T hT => ?_)
  iterate 6
    refine wpPlan_takeL (v := ?_) rfl (by rfl) (fun w' hw => ?_) ?_
    rotate_left
    · go_simp
      with_reducible rfl
    simp only [Act.put, rA, rB, rC]
  refine wpPlan_nil (hT.out _ _ ?_); clear hT T
  intro vw2 hg
  simp only [puts, Act.put, rA, rB, rC, rD, rE, ↓reduceIte, Nat.reduceEqDiff]
  clear lx0 lx1
  have HG := Lib.hid (hg)
  clear hg
  replace BX0 := bG BX0 HG
  replace BX1 := bG BX1 HG
  replace BX2 := bG BX2 HG
  have r0 := Gr.refl vw2
  go_wp2
  refine hK.out _ _ ?_; clear hK K
  show Code.wp _ _ _ _ _
  clear r0
  refine forgetW (fun w2 => Bx w2 (w.heap.size) 36 #[.int .u64 (lo a.num.natAbs), .string (bg a.num.natAbs), .bool (decide (a.num < 0)), .int .u64 (lo (a.den - 1)), .string (bg (a.den - 1))] ∧ Bx w2 (w.heap.size + 1) 36 #[.int .u64 (lo b.num.natAbs), .string (bg b.num.natAbs), .bool (decide (b.num < 0)), .int .u64 (lo (b.den - 1)), .string (bg (b.den - 1))] ∧ Bx w2 (w.heap.size + 1 + 1) 36 #[.int .u64 0, .string ⟨#[]⟩, .bool false, .int .u64 0, .string ⟨#[]⟩] ∧ Below w.heap.size w w2) ⟨BX0.out, BX1.out, BX2.out, HB.out.trans (HG.out.mono HB.out.size)⟩ ?_
  clear HB HG BX0 BX1 BX2
  rintro Wx3 ⟨bx0, bx1, bx2, HB⟩
  replace HB := Lib.hid HB
  refine wp_cond_false (by rfl) ?_
  refine wp_skip ?_
  show Code.wp _ _ _ _ _
  -- region 5
  obtain ⟨u1, HZ1⟩ : ∃ z, Hid ((b.den : Int) = z) := ⟨_, Lib.hid rfl⟩
  have su1 : wl (Int.natAbs u1) ≤ 100000000000 := by rw [← HZ1.out]; rw [Int.natAbs_natCast]; omega
  obtain ⟨u2, HZ2⟩ : ∃ z, Hid ((a.num) * (u1) = z) := ⟨_, Lib.hid rfl⟩
  have su2 : wl (Int.natAbs u2) ≤ 200000000000 := by rw [← HZ2.out]; have := wl_imul (a.num) (u1); omega
  obtain ⟨u3, HZ3⟩ : ∃ z, Hid ((a.den : Int) = z) := ⟨_, Lib.hid rfl⟩
  have su3 : wl (Int.natAbs u3) ≤ 100000000000 := by rw [← HZ3.out]; rw [Int.natAbs_natCast]; omega
  obtain ⟨u4, HZ4⟩ : ∃ z, Hid ((b.num) * (u3) = z) := ⟨_, Lib.hid rfl⟩
  have su4 : wl (Int.natAbs u4) ≤ 200000000000 := by rw [← HZ4.out]; have := wl_imul (b.num) (u3); omega
  obtain ⟨u5, HZ5⟩ : ∃ z, Hid ((u2) + (u4) = z) := ⟨_, Lib.hid rfl⟩
  have su5 : wl (Int.natAbs u5) ≤ 200000000001 := by rw [← HZ5.out]; have := wl_iadd (u2) (u4); omega
  obtain ⟨u6, HZ6⟩ : ∃ z, Hid ((a.den) * (b.den) = z) := ⟨_, Lib.hid rfl⟩
  have su6 : wl u6 ≤ 200000000000 := by rw [← HZ6.out]; have := wl_mul (a.den) (b.den); omega
  have HZ7 : Hid (mkRat (u5) (u6) = z) := Lib.hid (by rw [← HZ5.out, ← HZ2.out, ← HZ4.out, ← HZ6.out, ← HZ1.out, ← HZ3.out, ← hz.out]; exact (Rat.add_def' a b).symm)
  have lx0 := bx0.cells
  have lx1 := bx1.cells
  have BX0 := Lib.hid bx0
  have BX1 := Lib.hid bx1
  have BX2 := Lib.hid bx2
  clear bx0 bx1 bx2
  refine wp_seq_k fun K hK => ?_
  replace hK := Lib.hid hK
  refine wp_region_plan 17 [] [] (fun _ => 0) (fun _ => .cells #[] 0) [(true, 0), (true, 1), (true, 2), (true, 5), (true, 6), (true, 7), (true, 11), (true, 13), (true, 3), (true, 4), (true, 8), (true, 9), (true, 10), (true, 12), (true, 14), (true, 15), (true, 16)] (by kernel_rfl) (by kernel_rfl) (fun i hi => by cases hi) (fun i hi => by cases hi) (fun _ _ _ _ _ h => h) (fun T hT => ?_)
  iterate 8
    refine wpPlan_takeL (v := ?_) rfl (by rfl) (fun w' hw => ?_) ?_
    rotate_left
    · go_simp
      with_reducible rfl
    simp only [Act.put, rA, rB, rC]
  refine wpPlan_callL rfl (by rfl) Tryz.call68 (fun w' hw => fsigned_any (b) (u1) _ HZ1.out (by omega)) (by rfl) ?_
  simp only [Act.put, rA, rB, rC]
  refine wpPlan_callL rfl (by rfl) Tryz.call47 (fun w' hw => zimul (a.num) (u1) (u2) _ HZ2.out (by omega) (by omega)) (by rfl) ?_
  simp only [Act.put, rA, rB, rC]
  refine wpPlan_callL rfl (by rfl) Tryz.call68 (fun w' hw => fsigned_any (a) (u3) _ HZ3.out (by omega)) (by rfl) ?_
  simp only [Act.put, rA, rB, rC]
  refine wpPlan_callL rfl (by rfl) Tryz.call47 (fun w' hw => zimul (b.num) (u3) (u4) _ HZ4.out (by omega) (by omega)) (by rfl) ?_
  simp only [Act.put, rA, rB, rC]
  refine wpPlan_callL rfl (by rfl) Tryz.call83 (fun w' hw => ziadd (u2) (u4) (u5) _ HZ5.out (by omega) (by omega)) (by rfl) ?_
  simp only [Act.put, rA, rB, rC]
  refine wpPlan_callL rfl (by rfl) Tryz.call50 (fun w' hw => fden_any (a) (by omega) _) (by rfl) ?_
  simp only [Act.put, rA, rB, rC]
  refine wpPlan_callL rfl (by rfl) Tryz.call50 (fun w' hw => fden_any (b) (by omega) _) (by rfl) ?_
  simp only [Act.put, rA, rB, rC]
  refine wpPlan_callL rfl (by rfl) Tryz.call49 (fun w' hw => zmul (a.den) (b.den) (u6) _ HZ6.out (by omega) (by omega)) (by rfl) ?_
  simp only [Act.put, rA, rB, rC]
  refine wpPlan_callL rfl (by rfl) Tryz.call48 (fun w' hw => lowest_any (u5) (u6) (z) HZ7 (by rw [← HZ6.out]; exact Nat.mul_pos hp_a hp_b) (by omega) (by omega) _) (by rfl) ?_
  simp only [Act.put, rA, rB, rC]
  refine wpPlan_nil (hT.out _ _ ?_); clear hT T
  intro G vw3 hg hf
  simp only [puts, Act.put, rA, rB, rC, rD, rE, ↓reduceIte, Nat.reduceEqDiff]
  clear lx0 lx1
  have HG := Lib.hid (hg)
  clear hg
  replace BX0 := bG BX0 HG
  replace BX1 := bG BX1 HG
  replace BX2 := bG BX2 HG
  have lx2 := BX2.out.cells; have fx2 := BX2.out.free
  have r0 := Gr.refl vw3
  go_wp2
  refine hK.out _ _ ?_; clear hK K
  show Code.wp _ _ _ _ _
  clear lx2 fx2
  clear r0
  refine forgetW (fun w2 => Bx w2 (w.heap.size + 1 + 1) 36 #[.int .u64 (lo z.num.natAbs), .string (bg z.num.natAbs), .bool (decide (z.num < 0)), .int .u64 (lo (z.den - 1)), .string (bg (z.den - 1))] ∧ Below w.heap.size w w2) ⟨((((((BX2.out).set 0 _).set 1 _).set 2 _).set 3 _).set 4 _).eq (by simp only [rA, rB, rC]), sc5 (HB.out.trans (HG.out.mono HB.out.size)) (by show w.heap.size ≤ w.heap.size + 1 + 1; omega)⟩ ?_
  clear HB HG BX0 BX1 BX2
  rintro Wx5 ⟨bx2, HB⟩
  replace HB := Lib.hid HB
  refine wp_ret ?_
  try simp only [Exit.then, Exit.inBlock]
  have lx2 := bx2.cells
  have r0 := Gr.refl Wx5
  exact bodyPost_ret (v := .agg #[.int .u64 (lo z.num.natAbs), .string (bg z.num.natAbs), .bool (decide (z.num < 0)), .int .u64 (lo (z.den - 1)), .string (bg (z.den - 1))]) (by simp [results, Tryz.results51, go_sem, lx2 _ r0]) rfl ⟨rfl, HB.out⟩

theorem fadd_any (a b z : Rat) (w : World) (hz : a + b = z) (hs_a : sz a ≤ 100000000000) (hs_b : sz b ≤ 100000000000) :
    Calls Tryz.prog 51 #[(Value.agg #[.int .u64 (lo a.num.natAbs), .string (bg a.num.natAbs), .bool (decide (a.num < 0)), .int .u64 (lo (a.den - 1)), .string (bg (a.den - 1))]), (Value.agg #[.int .u64 (lo b.num.natAbs), .string (bg b.num.natAbs), .bool (decide (b.num < 0)), .int .u64 (lo (b.den - 1)), .string (bg (b.den - 1))])] w fun e w' => e = .returned (Value.agg #[.int .u64 (lo z.num.natAbs), .string (bg z.num.natAbs), .bool (decide (z.num < 0)), .int .u64 (lo (z.den - 1)), .string (bg (z.den - 1))]) ∧ Below w.heap.size w w' := by
  cases h1 : decide (a.den = 1)
  · cases h3 : decide (a.den - 1 = b.den - 1)
    · exact fadd_other a b z hz hs_a hs_b h1 h3 w
    · exact fadd_same a b z hz hs_a hs_b h1 h3 w
  · cases h2 : decide (b.den = 1)
    · refine fadd_same1 a b z hz hs_a hs_b h1 h2 ?_ w
      have := a.den_pos
      have := b.den_pos
      have := of_decide_eq_true h1
      have := of_decide_eq_false h2
      exact decide_eq_false (by omega)
    · exact fadd_int a b z hz hs_a hs_b h1 h2 w

set_option maxHeartbeats 1000000 in
theorem fmul_int (a b z : Rat) (hz : a * b = z) (hs_a : sz a ≤ 100000000000) (hs_b : sz b ≤ 100000000000) (h1 : decide (a.den = 1) = true) (h2 : decide (b.den = 1) = true) (w : World) :
    Calls Tryz.prog 26 #[(Value.agg #[.int .u64 (lo a.num.natAbs), .string (bg a.num.natAbs), .bool (decide (a.num < 0)), .int .u64 (lo (a.den - 1)), .string (bg (a.den - 1))]), (Value.agg #[.int .u64 (lo b.num.natAbs), .string (bg b.num.natAbs), .bool (decide (b.num < 0)), .int .u64 (lo (b.den - 1)), .string (bg (b.den - 1))])] w fun e w' => e = .returned (.agg #[.int .u64 (lo z.num.natAbs), .string (bg z.num.natAbs), .bool (decide (z.num < 0)), .int .u64 (lo (z.den - 1)), .string (bg (z.den - 1))]) ∧ Below w.heap.size w w' := by
  have hn_a := Nat.le_trans (sz_num a) hs_a
  have hd_a := Nat.le_trans (sz_den a) hs_a
  have he_a := Nat.le_trans (wl_mono (Nat.sub_le a.den 1)) hd_a
  have hp_a : 0 < a.den := a.den_pos
  have hn_b := Nat.le_trans (sz_num b) hs_b
  have hd_b := Nat.le_trans (sz_den b) hs_b
  have he_b := Nat.le_trans (wl_mono (Nat.sub_le b.den 1)) hd_b
  have hp_b : 0 < b.den := b.den_pos
  replace hz := Lib.hid hz
  go_enter Tryz.func26, Tryz.ntmps26
  -- region 0
  refine wp_seq_k fun K hK => ?_
  replace hK := Lib.hid hK
  refine wp_region_lit ?_
  go_wp2
  refine hK.out _ _ ?_; clear hK K
  show Code.wp _ _ _ _ _
  refine forgetW (fun w2 => Bx w2 (w.heap.size) 36 #[.int .u64 (lo a.num.natAbs), .string (bg a.num.natAbs), .bool (decide (a.num < 0)), .int .u64 (lo (a.den - 1)), .string (bg (a.den - 1))] ∧ Bx w2 (w.heap.size + 1) 36 #[.int .u64 (lo b.num.natAbs), .string (bg b.num.natAbs), .bool (decide (b.num < 0)), .int .u64 (lo (b.den - 1)), .string (bg (b.den - 1))] ∧ Bx w2 (w.heap.size + 1 + 1) 36 #[.int .u64 0, .string ⟨#[]⟩, .bool false, .int .u64 0, .string ⟨#[]⟩] ∧ Below w.heap.size w w2) ⟨((Bx.at rfl).alloc _).alloc _, (Bx.at (by simp)).alloc _, Bx.at (by simp), (((Below.refl _ _).alloc (Nat.le_refl _) _).alloc (by simp) _).alloc (by simp; omega) _⟩ ?_
  rintro Wx ⟨bx0, bx1, bx2, HB⟩
  replace HB := Lib.hid HB
  refine wp_seq ?_
  -- region 1
  have lx0 := bx0.cells
  have lx1 := bx1.cells
  have BX0 := Lib.hid bx0
  have BX1 := Lib.hid bx1
  have BX2 := Lib.hid bx2
  clear bx0 bx1 bx2
  refine wp_seq_k fun K hK => ?_
  replace hK := Lib.hid hK
  refine wp_region_seqplan 6 [(true, 0), (true, 1), (true, 2), (true, 3), (true, 4), (true, 5)] (by rfl) (by simp) (fun T hT => ?_)
  iterate 1
    refine wpPlan_takeL (v := ?_) rfl (by rfl) (fun w' hw => ?_) ?_
    rotate_left
    · go_simp
      with_reducible rfl
    simp only [Act.put, rA, rB, rC]
  refine wpPlan_callL rfl (by rfl) Tryz.call45 (fun w' hw => fiswhole_any (a) true _ h1) (by rfl) ?_
  simp only [Act.put, rA, rB, rC]
  iterate 2
    refine wpPlan_takeL (v := ?_) rfl (by rfl) (fun w' hw => ?_) ?_
    rotate_left
    · go_simp
      with_reducible rfl
    simp only [Act.put, rA, rB, rC]
  refine wpPlan_callL rfl (by rfl) Tryz.call45 (fun w' hw => fiswhole_any (b) true _ h2) (by rfl) ?_
  simp only [Act.put, rA, rB, rC]
  iterate 1
    refine wpPlan_takeL (v := ?_) rfl (by rfl) (fun w' hw => ?_) ?_
    rotate_left
    · go_simp
      with_reducible rfl
    simp only [Act.put, rA, rB, rC]
  refine wpPlan_nil (hT.out _ _ ?_); clear hT T
  intro vw1 hg
  simp only [puts, Act.put, rA, rB, rC, rD, rE, ↓reduceIte, Nat.reduceEqDiff]
  clear lx0 lx1
  have HG := Lib.hid (hg)
  clear hg
  replace BX0 := bG BX0 HG
  replace BX1 := bG BX1 HG
  replace BX2 := bG BX2 HG
  have r0 := Gr.refl vw1
  go_wp2
  refine hK.out _ _ ?_; clear hK K
  show Code.wp _ _ _ _ _
  clear r0
  refine forgetW (fun w2 => Bx w2 (w.heap.size) 36 #[.int .u64 (lo a.num.natAbs), .string (bg a.num.natAbs), .bool (decide (a.num < 0)), .int .u64 (lo (a.den - 1)), .string (bg (a.den - 1))] ∧ Bx w2 (w.heap.size + 1) 36 #[.int .u64 (lo b.num.natAbs), .string (bg b.num.natAbs), .bool (decide (b.num < 0)), .int .u64 (lo (b.den - 1)), .string (bg (b.den - 1))] ∧ Bx w2 (w.heap.size + 1 + 1) 36 #[.int .u64 0, .string ⟨#[]⟩, .bool false, .int .u64 0, .string ⟨#[]⟩] ∧ Below w.heap.size w w2) ⟨BX0.out, BX1.out, BX2.out, HB.out.trans (HG.out.mono HB.out.size)⟩ ?_
  clear HB HG BX0 BX1 BX2
  rintro Wx1 ⟨bx0, bx1, bx2, HB⟩
  replace HB := Lib.hid HB
  refine wp_cond_true (by rfl) ?_
  -- region 2
  obtain ⟨u1, HZ1⟩ : ∃ z, Hid ((a.num) * (b.num) = z) := ⟨_, Lib.hid rfl⟩
  have su1 : wl (Int.natAbs u1) ≤ 200000000000 := by rw [← HZ1.out]; have := wl_imul (a.num) (b.num); omega
  have HZ2 : Hid (((u1 : Int) : Rat) = z) := Lib.hid (by rw [← HZ1.out, ← hz.out]; exact mul_int a b (of_decide_eq_true h1) (of_decide_eq_true h2))
  have lx0 := bx0.cells
  have lx1 := bx1.cells
  have BX0 := Lib.hid bx0
  have BX1 := Lib.hid bx1
  have BX2 := Lib.hid bx2
  clear bx0 bx1 bx2
  refine wp_seq_k fun K hK => ?_
  replace hK := Lib.hid hK
  refine wp_region_seqplan 6 [(true, 0), (true, 1), (true, 2), (true, 3), (true, 4), (true, 5)] (by rfl) (by simp) (fun T hT => ?_)
  iterate 4
    refine wpPlan_takeL (v := ?_) rfl (by rfl) (fun w' hw => ?_) ?_
    rotate_left
    · go_simp
      with_reducible rfl
    simp only [Act.put, rA, rB, rC]
  refine wpPlan_callL rfl (by rfl) Tryz.call47 (fun w' hw => zimul (a.num) (b.num) (u1) _ HZ1.out (by omega) (by omega)) (by rfl) ?_
  simp only [Act.put, rA, rB, rC]
  refine wpPlan_callL rfl (by rfl) Tryz.call46 (fun w' hw => fwhole_any (u1) (z) _ HZ2.out) (by rfl) ?_
  simp only [Act.put, rA, rB, rC]
  refine wpPlan_nil (hT.out _ _ ?_); clear hT T
  intro vw2 hg
  simp only [puts, Act.put, rA, rB, rC, rD, rE, ↓reduceIte, Nat.reduceEqDiff]
  clear lx0 lx1
  have HG := Lib.hid (hg)
  clear hg
  replace BX0 := bG BX0 HG
  replace BX1 := bG BX1 HG
  replace BX2 := bG BX2 HG
  have lx2 := BX2.out.cells; have fx2 := BX2.out.free
  have r0 := Gr.refl vw2
  go_wp2
  refine hK.out _ _ ?_; clear hK K
  show Code.wp _ _ _ _ _
  clear lx2 fx2
  clear r0
  refine forgetW (fun w2 => Bx w2 (w.heap.size) 36 #[.int .u64 (lo a.num.natAbs), .string (bg a.num.natAbs), .bool (decide (a.num < 0)), .int .u64 (lo (a.den - 1)), .string (bg (a.den - 1))] ∧ Bx w2 (w.heap.size + 1) 36 #[.int .u64 (lo b.num.natAbs), .string (bg b.num.natAbs), .bool (decide (b.num < 0)), .int .u64 (lo (b.den - 1)), .string (bg (b.den - 1))] ∧ Bx w2 (w.heap.size + 1 + 1) 36 #[.int .u64 (lo z.num.natAbs), .string (bg z.num.natAbs), .bool (decide (z.num < 0)), .int .u64 (lo (z.den - 1)), .string (bg (z.den - 1))] ∧ Below w.heap.size w w2) ⟨so5 (BX0.out) (by show w.heap.size ≠ w.heap.size + 1 + 1; omega), so5 (BX1.out) (by show w.heap.size + 1 ≠ w.heap.size + 1 + 1; omega), ((((((BX2.out).set 0 _).set 1 _).set 2 _).set 3 _).set 4 _).eq (by simp only [rA, rB, rC]), sc5 (HB.out.trans (HG.out.mono HB.out.size)) (by show w.heap.size ≤ w.heap.size + 1 + 1; omega)⟩ ?_
  clear HB HG BX0 BX1 BX2
  rintro Wx2 ⟨bx0, bx1, bx2, HB⟩
  replace HB := Lib.hid HB
  refine wp_ret ?_
  try simp only [Exit.then, Exit.inBlock]
  have lx2 := bx2.cells
  have r0 := Gr.refl Wx2
  exact bodyPost_ret (v := .agg #[.int .u64 (lo z.num.natAbs), .string (bg z.num.natAbs), .bool (decide (z.num < 0)), .int .u64 (lo (z.den - 1)), .string (bg (z.den - 1))]) (by simp [results, Tryz.results26, go_sem, lx2 _ r0]) rfl ⟨rfl, HB.out⟩

set_option maxHeartbeats 1000000 in
theorem fmul_other1 (a b z : Rat) (hz : a * b = z) (hs_a : sz a ≤ 100000000000) (hs_b : sz b ≤ 100000000000) (h1 : decide (a.den = 1) = true) (h2 : decide (b.den = 1) = false) (w : World) :
    Calls Tryz.prog 26 #[(Value.agg #[.int .u64 (lo a.num.natAbs), .string (bg a.num.natAbs), .bool (decide (a.num < 0)), .int .u64 (lo (a.den - 1)), .string (bg (a.den - 1))]), (Value.agg #[.int .u64 (lo b.num.natAbs), .string (bg b.num.natAbs), .bool (decide (b.num < 0)), .int .u64 (lo (b.den - 1)), .string (bg (b.den - 1))])] w fun e w' => e = .returned (.agg #[.int .u64 (lo z.num.natAbs), .string (bg z.num.natAbs), .bool (decide (z.num < 0)), .int .u64 (lo (z.den - 1)), .string (bg (z.den - 1))]) ∧ Below w.heap.size w w' := by
  have hn_a := Nat.le_trans (sz_num a) hs_a
  have hd_a := Nat.le_trans (sz_den a) hs_a
  have he_a := Nat.le_trans (wl_mono (Nat.sub_le a.den 1)) hd_a
  have hp_a : 0 < a.den := a.den_pos
  have hn_b := Nat.le_trans (sz_num b) hs_b
  have hd_b := Nat.le_trans (sz_den b) hs_b
  have he_b := Nat.le_trans (wl_mono (Nat.sub_le b.den 1)) hd_b
  have hp_b : 0 < b.den := b.den_pos
  replace hz := Lib.hid hz
  go_enter Tryz.func26, Tryz.ntmps26
  -- region 0
  refine wp_seq_k fun K hK => ?_
  replace hK := Lib.hid hK
  refine wp_region_lit ?_
  go_wp2
  refine hK.out _ _ ?_; clear hK K
  show Code.wp _ _ _ _ _
  refine forgetW (fun w2 => Bx w2 (w.heap.size) 36 #[.int .u64 (lo a.num.natAbs), .string (bg a.num.natAbs), .bool (decide (a.num < 0)), .int .u64 (lo (a.den - 1)), .string (bg (a.den - 1))] ∧ Bx w2 (w.heap.size + 1) 36 #[.int .u64 (lo b.num.natAbs), .string (bg b.num.natAbs), .bool (decide (b.num < 0)), .int .u64 (lo (b.den - 1)), .string (bg (b.den - 1))] ∧ Bx w2 (w.heap.size + 1 + 1) 36 #[.int .u64 0, .string ⟨#[]⟩, .bool false, .int .u64 0, .string ⟨#[]⟩] ∧ Below w.heap.size w w2) ⟨((Bx.at rfl).alloc _).alloc _, (Bx.at (by simp)).alloc _, Bx.at (by simp), (((Below.refl _ _).alloc (Nat.le_refl _) _).alloc (by simp) _).alloc (by simp; omega) _⟩ ?_
  rintro Wx ⟨bx0, bx1, bx2, HB⟩
  replace HB := Lib.hid HB
  refine wp_seq ?_
  -- region 1
  have lx0 := bx0.cells
  have lx1 := bx1.cells
  have BX0 := Lib.hid bx0
  have BX1 := Lib.hid bx1
  have BX2 := Lib.hid bx2
  clear bx0 bx1 bx2
  refine wp_seq_k fun K hK => ?_
  replace hK := Lib.hid hK
  refine wp_region_seqplan 6 [(true, 0), (true, 1), (true, 2), (true, 3), (true, 4), (true, 5)] (by rfl) (by simp) (fun T hT => ?_)
  iterate 1
    refine wpPlan_takeL (v := ?_) rfl (by rfl) (fun w' hw => ?_) ?_
    rotate_left
    · go_simp
      with_reducible rfl
    simp only [Act.put, rA, rB, rC]
  refine wpPlan_callL rfl (by rfl) Tryz.call45 (fun w' hw => fiswhole_any (a) true _ h1) (by rfl) ?_
  simp only [Act.put, rA, rB, rC]
  iterate 2
    refine wpPlan_takeL (v := ?_) rfl (by rfl) (fun w' hw => ?_) ?_
    rotate_left
    · go_simp
      with_reducible rfl
    simp only [Act.put, rA, rB, rC]
  refine wpPlan_callL rfl (by rfl) Tryz.call45 (fun w' hw => fiswhole_any (b) false _ h2) (by rfl) ?_
  simp only [Act.put, rA, rB, rC]
  iterate 1
    refine wpPlan_takeL (v := ?_) rfl (by rfl) (fun w' hw => ?_) ?_
    rotate_left
    · go_simp
      with_reducible rfl
    simp only [Act.put, rA, rB, rC]
  refine wpPlan_nil (hT.out _ _ ?_); clear hT T
  intro vw1 hg
  simp only [puts, Act.put, rA, rB, rC, rD, rE, ↓reduceIte, Nat.reduceEqDiff]
  clear lx0 lx1
  have HG := Lib.hid (hg)
  clear hg
  replace BX0 := bG BX0 HG
  replace BX1 := bG BX1 HG
  replace BX2 := bG BX2 HG
  have r0 := Gr.refl vw1
  go_wp2
  refine hK.out _ _ ?_; clear hK K
  show Code.wp _ _ _ _ _
  clear r0
  refine forgetW (fun w2 => Bx w2 (w.heap.size) 36 #[.int .u64 (lo a.num.natAbs), .string (bg a.num.natAbs), .bool (decide (a.num < 0)), .int .u64 (lo (a.den - 1)), .string (bg (a.den - 1))] ∧ Bx w2 (w.heap.size + 1) 36 #[.int .u64 (lo b.num.natAbs), .string (bg b.num.natAbs), .bool (decide (b.num < 0)), .int .u64 (lo (b.den - 1)), .string (bg (b.den - 1))] ∧ Bx w2 (w.heap.size + 1 + 1) 36 #[.int .u64 0, .string ⟨#[]⟩, .bool false, .int .u64 0, .string ⟨#[]⟩] ∧ Below w.heap.size w w2) ⟨BX0.out, BX1.out, BX2.out, HB.out.trans (HG.out.mono HB.out.size)⟩ ?_
  clear HB HG BX0 BX1 BX2
  rintro Wx1 ⟨bx0, bx1, bx2, HB⟩
  replace HB := Lib.hid HB
  refine wp_cond_false (by rfl) ?_
  refine wp_skip ?_
  show Code.wp _ _ _ _ _
  -- region 3
  obtain ⟨u1, HZ1⟩ : ∃ z, Hid ((a.num) * (b.num) = z) := ⟨_, Lib.hid rfl⟩
  have su1 : wl (Int.natAbs u1) ≤ 200000000000 := by rw [← HZ1.out]; have := wl_imul (a.num) (b.num); omega
  obtain ⟨u2, HZ2⟩ : ∃ z, Hid ((a.den) * (b.den) = z) := ⟨_, Lib.hid rfl⟩
  have su2 : wl u2 ≤ 200000000000 := by rw [← HZ2.out]; have := wl_mul (a.den) (b.den); omega
  have HZ3 : Hid (mkRat (u1) (u2) = z) := Lib.hid (by rw [← HZ1.out, ← HZ2.out, ← hz.out]; exact (Rat.mul_def' a b).symm)
  have lx0 := bx0.cells
  have lx1 := bx1.cells
  have BX0 := Lib.hid bx0
  have BX1 := Lib.hid bx1
  have BX2 := Lib.hid bx2
  clear bx0 bx1 bx2
  refine wp_seq_k fun K hK => ?_
  replace hK := Lib.hid hK
  refine wp_region_plan 11 [] [] (fun _ => 0) (fun _ => .cells #[] 0) [(true, 0), (true, 1), (true, 2), (true, 3), (true, 5), (true, 7), (true, 4), (true, 6), (true, 8), (true, 9), (true, 10)] (by kernel_rfl) (by kernel_rfl) (fun i hi => by cases hi) (fun i hi => by cases hi) (fun _ _ _ _ _ h => h) (fun T hT => ?_)
  iterate 6
    refine wpPlan_takeL (v := ?_) rfl (by rfl) (fun w' hw => ?_) ?_
    rotate_left
    · go_simp
      with_reducible rfl
    simp only [Act.put, rA, rB, rC]
  refine wpPlan_callL rfl (by rfl) Tryz.call47 (fun w' hw => zimul (a.num) (b.num) (u1) _ HZ1.out (by omega) (by omega)) (by rfl) ?_
  simp only [Act.put, rA, rB, rC]
  refine wpPlan_callL rfl (by rfl) Tryz.call50 (fun w' hw => fden_any (a) (by omega) _) (by rfl) ?_
  simp only [Act.put, rA, rB, rC]
  refine wpPlan_callL rfl (by rfl) Tryz.call50 (fun w' hw => fden_any (b) (by omega) _) (by rfl) ?_
  simp only [Act.put, rA, rB, rC]
  refine wpPlan_callL rfl (by rfl) Tryz.call49 (fun w' hw => zmul (a.den) (b.den) (u2) _ HZ2.out (by omega) (by omega)) (by rfl) ?_
  simp only [Act.put, rA, rB, rC]
  refine wpPlan_callL rfl (by rfl) Tryz.call48 (fun w' hw => lowest_any (u1) (u2) (z) HZ3 (by rw [← HZ2.out]; exact Nat.mul_pos hp_a hp_b) (by omega) (by omega) _) (by rfl) ?_
  simp only [Act.put, rA, rB, rC]
  refine wpPlan_nil (hT.out _ _ ?_); clear hT T
  intro G vw2 hg hf
  simp only [puts, Act.put, rA, rB, rC, rD, rE, ↓reduceIte, Nat.reduceEqDiff]
  clear lx0 lx1
  have HG := Lib.hid (hg)
  clear hg
  replace BX0 := bG BX0 HG
  replace BX1 := bG BX1 HG
  replace BX2 := bG BX2 HG
  have lx2 := BX2.out.cells; have fx2 := BX2.out.free
  have r0 := Gr.refl vw2
  go_wp2
  refine hK.out _ _ ?_; clear hK K
  show Code.wp _ _ _ _ _
  clear lx2 fx2
  clear r0
  refine forgetW (fun w2 => Bx w2 (w.heap.size + 1 + 1) 36 #[.int .u64 (lo z.num.natAbs), .string (bg z.num.natAbs), .bool (decide (z.num < 0)), .int .u64 (lo (z.den - 1)), .string (bg (z.den - 1))] ∧ Below w.heap.size w w2) ⟨((((((BX2.out).set 0 _).set 1 _).set 2 _).set 3 _).set 4 _).eq (by simp only [rA, rB, rC]), sc5 (HB.out.trans (HG.out.mono HB.out.size)) (by show w.heap.size ≤ w.heap.size + 1 + 1; omega)⟩ ?_
  clear HB HG BX0 BX1 BX2
  rintro Wx3 ⟨bx2, HB⟩
  replace HB := Lib.hid HB
  refine wp_ret ?_
  try simp only [Exit.then, Exit.inBlock]
  have lx2 := bx2.cells
  have r0 := Gr.refl Wx3
  exact bodyPost_ret (v := .agg #[.int .u64 (lo z.num.natAbs), .string (bg z.num.natAbs), .bool (decide (z.num < 0)), .int .u64 (lo (z.den - 1)), .string (bg (z.den - 1))]) (by simp [results, Tryz.results26, go_sem, lx2 _ r0]) rfl ⟨rfl, HB.out⟩

set_option maxHeartbeats 1000000 in
theorem fmul_other (a b z : Rat) (hz : a * b = z) (hs_a : sz a ≤ 100000000000) (hs_b : sz b ≤ 100000000000) (h1 : decide (a.den = 1) = false) (w : World) :
    Calls Tryz.prog 26 #[(Value.agg #[.int .u64 (lo a.num.natAbs), .string (bg a.num.natAbs), .bool (decide (a.num < 0)), .int .u64 (lo (a.den - 1)), .string (bg (a.den - 1))]), (Value.agg #[.int .u64 (lo b.num.natAbs), .string (bg b.num.natAbs), .bool (decide (b.num < 0)), .int .u64 (lo (b.den - 1)), .string (bg (b.den - 1))])] w fun e w' => e = .returned (.agg #[.int .u64 (lo z.num.natAbs), .string (bg z.num.natAbs), .bool (decide (z.num < 0)), .int .u64 (lo (z.den - 1)), .string (bg (z.den - 1))]) ∧ Below w.heap.size w w' := by
  have hn_a := Nat.le_trans (sz_num a) hs_a
  have hd_a := Nat.le_trans (sz_den a) hs_a
  have he_a := Nat.le_trans (wl_mono (Nat.sub_le a.den 1)) hd_a
  have hp_a : 0 < a.den := a.den_pos
  have hn_b := Nat.le_trans (sz_num b) hs_b
  have hd_b := Nat.le_trans (sz_den b) hs_b
  have he_b := Nat.le_trans (wl_mono (Nat.sub_le b.den 1)) hd_b
  have hp_b : 0 < b.den := b.den_pos
  replace hz := Lib.hid hz
  go_enter Tryz.func26, Tryz.ntmps26
  -- region 0
  refine wp_seq_k fun K hK => ?_
  replace hK := Lib.hid hK
  refine wp_region_lit ?_
  go_wp2
  refine hK.out _ _ ?_; clear hK K
  show Code.wp _ _ _ _ _
  refine forgetW (fun w2 => Bx w2 (w.heap.size) 36 #[.int .u64 (lo a.num.natAbs), .string (bg a.num.natAbs), .bool (decide (a.num < 0)), .int .u64 (lo (a.den - 1)), .string (bg (a.den - 1))] ∧ Bx w2 (w.heap.size + 1) 36 #[.int .u64 (lo b.num.natAbs), .string (bg b.num.natAbs), .bool (decide (b.num < 0)), .int .u64 (lo (b.den - 1)), .string (bg (b.den - 1))] ∧ Bx w2 (w.heap.size + 1 + 1) 36 #[.int .u64 0, .string ⟨#[]⟩, .bool false, .int .u64 0, .string ⟨#[]⟩] ∧ Below w.heap.size w w2) ⟨((Bx.at rfl).alloc _).alloc _, (Bx.at (by simp)).alloc _, Bx.at (by simp), (((Below.refl _ _).alloc (Nat.le_refl _) _).alloc (by simp) _).alloc (by simp; omega) _⟩ ?_
  rintro Wx ⟨bx0, bx1, bx2, HB⟩
  replace HB := Lib.hid HB
  refine wp_seq ?_
  -- region 1
  have lx0 := bx0.cells
  have lx1 := bx1.cells
  have BX0 := Lib.hid bx0
  have BX1 := Lib.hid bx1
  have BX2 := Lib.hid bx2
  clear bx0 bx1 bx2
  refine wp_seq_k fun K hK => ?_
  replace hK := Lib.hid hK
  refine wp_region_seqplan 6 [(true, 0), (true, 1), (true, 2), (true, 3), (true, 4), (true, 5)] (by rfl) (by simp) (fun T hT => ?_)
  iterate 1
    refine wpPlan_takeL (v := ?_) rfl (by rfl) (fun w' hw => ?_) ?_
    rotate_left
    · go_simp
      with_reducible rfl
    simp only [Act.put, rA, rB, rC]
  refine wpPlan_callL rfl (by rfl) Tryz.call45 (fun w' hw => fiswhole_any (a) false _ h1) (by rfl) ?_
  simp only [Act.put, rA, rB, rC]
  iterate 1
    refine wpPlan_takeL (v := ?_) rfl (by rfl) (fun w' hw => ?_) ?_
    rotate_left
    · go_simp
      with_reducible rfl
    simp only [Act.put, rA, rB, rC]
  refine wpPlan_skipL rfl (by rfl) ?_
  simp only [Act.put, rA, rB, rC]
  refine wpPlan_skipL rfl (by rfl) ?_
  simp only [Act.put, rA, rB, rC]
  iterate 1
    refine wpPlan_takeL (v := ?_) rfl (by rfl) (fun w' hw => ?_) ?_
    rotate_left
    · go_simp
      with_reducible rfl
    simp only [Act.put, rA, rB, rC]
  refine wpPlan_nil (hT.out _ _ ?_); clear hT T
  intro vw1 hg
  simp only [puts, Act.put, rA, rB, rC, rD, rE, ↓reduceIte, Nat.reduceEqDiff]
  clear lx0 lx1
  have HG := Lib.hid (hg)
  clear hg
  replace BX0 := bG BX0 HG
  replace BX1 := bG BX1 HG
  replace BX2 := bG BX2 HG
  have r0 := Gr.refl vw1
  go_wp2
  refine hK.out _ _ ?_; clear hK K
  show Code.wp _ _ _ _ _
  clear r0
  refine forgetW (fun w2 => Bx w2 (w.heap.size) 36 #[.int .u64 (lo a.num.natAbs), .string (bg a.num.natAbs), .bool (decide (a.num < 0)), .int .u64 (lo (a.den - 1)), .string (bg (a.den - 1))] ∧ Bx w2 (w.heap.size + 1) 36 #[.int .u64 (lo b.num.natAbs), .string (bg b.num.natAbs), .bool (decide (b.num < 0)), .int .u64 (lo (b.den - 1)), .string (bg (b.den - 1))] ∧ Bx w2 (w.heap.size + 1 + 1) 36 #[.int .u64 0, .string ⟨#[]⟩, .bool false, .int .u64 0, .string ⟨#[]⟩] ∧ Below w.heap.size w w2) ⟨BX0.out, BX1.out, BX2.out, HB.out.trans (HG.out.mono HB.out.size)⟩ ?_
  clear HB HG BX0 BX1 BX2
  rintro Wx1 ⟨bx0, bx1, bx2, HB⟩
  replace HB := Lib.hid HB
  refine wp_cond_false (by rfl) ?_
  refine wp_skip ?_
  show Code.wp _ _ _ _ _
  -- region 3
  obtain ⟨u1, HZ1⟩ : ∃ z, Hid ((a.num) * (b.num) = z) := ⟨_, Lib.hid rfl⟩
  have su1 : wl (Int.natAbs u1) ≤ 200000000000 := by rw [← HZ1.out]; have := wl_imul (a.num) (b.num); omega
  obtain ⟨u2, HZ2⟩ : ∃ z, Hid ((a.den) * (b.den) = z) := ⟨_, Lib.hid rfl⟩
  have su2 : wl u2 ≤ 200000000000 := by rw [← HZ2.out]; have := wl_mul (a.den) (b.den); omega
  have HZ3 : Hid (mkRat (u1) (u2) = z) := Lib.hid (by rw [← HZ1.out, ← HZ2.out, ← hz.out]; exact (Rat.mul_def' a b).symm)
  have lx0 := bx0.cells
  have lx1 := bx1.cells
  have BX0 := Lib.hid bx0
  have BX1 := Lib.hid bx1
  have BX2 := Lib.hid bx2
  clear bx0 bx1 bx2
  refine wp_seq_k fun K hK => ?_
  replace hK := Lib.hid hK
  refine wp_region_plan 11 [] [] (fun _ => 0) (fun _ => .cells #[] 0) [(true, 0), (true, 1), (true, 2), (true, 3), (true, 5), (true, 7), (true, 4), (true, 6), (true, 8), (true, 9), (true, 10)] (by kernel_rfl) (by kernel_rfl) (fun i hi => by cases hi) (fun i hi => by cases hi) (fun _ _ _ _ _ h => h) (fun T hT => ?_)
  iterate 6
    refine wpPlan_takeL (v := ?_) rfl (by rfl) (fun w' hw => ?_) ?_
    rotate_left
    · go_simp
      with_reducible rfl
    simp only [Act.put, rA, rB, rC]
  refine wpPlan_callL rfl (by rfl) Tryz.call47 (fun w' hw => zimul (a.num) (b.num) (u1) _ HZ1.out (by omega) (by omega)) (by rfl) ?_
  simp only [Act.put, rA, rB, rC]
  refine wpPlan_callL rfl (by rfl) Tryz.call50 (fun w' hw => fden_any (a) (by omega) _) (by rfl) ?_
  simp only [Act.put, rA, rB, rC]
  refine wpPlan_callL rfl (by rfl) Tryz.call50 (fun w' hw => fden_any (b) (by omega) _) (by rfl) ?_
  simp only [Act.put, rA, rB, rC]
  refine wpPlan_callL rfl (by rfl) Tryz.call49 (fun w' hw => zmul (a.den) (b.den) (u2) _ HZ2.out (by omega) (by omega)) (by rfl) ?_
  simp only [Act.put, rA, rB, rC]
  refine wpPlan_callL rfl (by rfl) Tryz.call48 (fun w' hw => lowest_any (u1) (u2) (z) HZ3 (by rw [← HZ2.out]; exact Nat.mul_pos hp_a hp_b) (by omega) (by omega) _) (by rfl) ?_
  simp only [Act.put, rA, rB, rC]
  refine wpPlan_nil (hT.out _ _ ?_); clear hT T
  intro G vw2 hg hf
  simp only [puts, Act.put, rA, rB, rC, rD, rE, ↓reduceIte, Nat.reduceEqDiff]
  clear lx0 lx1
  have HG := Lib.hid (hg)
  clear hg
  replace BX0 := bG BX0 HG
  replace BX1 := bG BX1 HG
  replace BX2 := bG BX2 HG
  have lx2 := BX2.out.cells; have fx2 := BX2.out.free
  have r0 := Gr.refl vw2
  go_wp2
  refine hK.out _ _ ?_; clear hK K
  show Code.wp _ _ _ _ _
  clear lx2 fx2
  clear r0
  refine forgetW (fun w2 => Bx w2 (w.heap.size + 1 + 1) 36 #[.int .u64 (lo z.num.natAbs), .string (bg z.num.natAbs), .bool (decide (z.num < 0)), .int .u64 (lo (z.den - 1)), .string (bg (z.den - 1))] ∧ Below w.heap.size w w2) ⟨((((((BX2.out).set 0 _).set 1 _).set 2 _).set 3 _).set 4 _).eq (by simp only [rA, rB, rC]), sc5 (HB.out.trans (HG.out.mono HB.out.size)) (by show w.heap.size ≤ w.heap.size + 1 + 1; omega)⟩ ?_
  clear HB HG BX0 BX1 BX2
  rintro Wx3 ⟨bx2, HB⟩
  replace HB := Lib.hid HB
  refine wp_ret ?_
  try simp only [Exit.then, Exit.inBlock]
  have lx2 := bx2.cells
  have r0 := Gr.refl Wx3
  exact bodyPost_ret (v := .agg #[.int .u64 (lo z.num.natAbs), .string (bg z.num.natAbs), .bool (decide (z.num < 0)), .int .u64 (lo (z.den - 1)), .string (bg (z.den - 1))]) (by simp [results, Tryz.results26, go_sem, lx2 _ r0]) rfl ⟨rfl, HB.out⟩

theorem fmul_any (a b z : Rat) (w : World) (hz : a * b = z) (hs_a : sz a ≤ 100000000000) (hs_b : sz b ≤ 100000000000) :
    Calls Tryz.prog 26 #[(Value.agg #[.int .u64 (lo a.num.natAbs), .string (bg a.num.natAbs), .bool (decide (a.num < 0)), .int .u64 (lo (a.den - 1)), .string (bg (a.den - 1))]), (Value.agg #[.int .u64 (lo b.num.natAbs), .string (bg b.num.natAbs), .bool (decide (b.num < 0)), .int .u64 (lo (b.den - 1)), .string (bg (b.den - 1))])] w fun e w' => e = .returned (Value.agg #[.int .u64 (lo z.num.natAbs), .string (bg z.num.natAbs), .bool (decide (z.num < 0)), .int .u64 (lo (z.den - 1)), .string (bg (z.den - 1))]) ∧ Below w.heap.size w w' := by
  cases h1 : decide (a.den = 1)
  · exact fmul_other a b z hz hs_a hs_b h1 w
  · cases h2 : decide (b.den = 1)
    · exact fmul_other1 a b z hz hs_a hs_b h1 h2 w
    · exact fmul_int a b z hz hs_a hs_b h1 h2 w

set_option maxHeartbeats 1000000 in
theorem fsub_any (a b z : Rat) (w : World) (hz : a - b = z) (hs_a : sz a ≤ 100000000000) (hs_b : sz b ≤ 100000000000) :
    Calls Tryz.prog 36 #[(Value.agg #[.int .u64 (lo a.num.natAbs), .string (bg a.num.natAbs), .bool (decide (a.num < 0)), .int .u64 (lo (a.den - 1)), .string (bg (a.den - 1))]), (Value.agg #[.int .u64 (lo b.num.natAbs), .string (bg b.num.natAbs), .bool (decide (b.num < 0)), .int .u64 (lo (b.den - 1)), .string (bg (b.den - 1))])] w fun e w' => e = .returned (.agg #[.int .u64 (lo z.num.natAbs), .string (bg z.num.natAbs), .bool (decide (z.num < 0)), .int .u64 (lo (z.den - 1)), .string (bg (z.den - 1))]) ∧ Below w.heap.size w w' := by
  replace hz := Lib.hid hz
  go_enter Tryz.func36, Tryz.ntmps36
  -- region 0
  refine wp_seq_k fun K hK => ?_
  replace hK := Lib.hid hK
  refine wp_region_lit ?_
  go_wp2
  refine hK.out _ _ ?_; clear hK K
  show Code.wp _ _ _ _ _
  refine forgetW (fun w2 => Bx w2 (w.heap.size) 36 #[.int .u64 (lo a.num.natAbs), .string (bg a.num.natAbs), .bool (decide (a.num < 0)), .int .u64 (lo (a.den - 1)), .string (bg (a.den - 1))] ∧ Bx w2 (w.heap.size + 1) 36 #[.int .u64 (lo b.num.natAbs), .string (bg b.num.natAbs), .bool (decide (b.num < 0)), .int .u64 (lo (b.den - 1)), .string (bg (b.den - 1))] ∧ Bx w2 (w.heap.size + 1 + 1) 36 #[.int .u64 0, .string ⟨#[]⟩, .bool false, .int .u64 0, .string ⟨#[]⟩] ∧ Below w.heap.size w w2) ⟨((Bx.at rfl).alloc _).alloc _, (Bx.at (by simp)).alloc _, Bx.at (by simp), (((Below.refl _ _).alloc (Nat.le_refl _) _).alloc (by simp) _).alloc (by simp; omega) _⟩ ?_
  rintro Wx ⟨bx0, bx1, bx2, HB⟩
  replace HB := Lib.hid HB
  -- region 1
  obtain ⟨u1, HZ1⟩ : ∃ z, Hid (-(b) = z) := ⟨_, Lib.hid rfl⟩
  have su1 : sz u1 ≤ 100000000000 := by rw [← HZ1.out]; rw [sz_neg]; omega
  have HZ2 : Hid ((a) + (u1) = z) := Lib.hid (by rw [← HZ1.out, ← hz.out, Rat.sub_eq_add_neg])
  have lx0 := bx0.cells
  have lx1 := bx1.cells
  have BX0 := Lib.hid bx0
  have BX1 := Lib.hid bx1
  have BX2 := Lib.hid bx2
  clear bx0 bx1 bx2
  refine wp_seq_k fun K hK => ?_
  replace hK := Lib.hid hK
  refine wp_region_plan 4 [] [] (fun _ => 0) (fun _ => .cells #[] 0) [(true, 0), (true, 1), (true, 2), (true, 3)] (by kernel_rfl) (by kernel_rfl) (fun i hi => by cases hi) (fun i hi => by cases hi) (fun _ _ _ _ _ h => h) (fun T hT => ?_)
  iterate 2
    refine wpPlan_takeL (v := ?_) rfl (by rfl) (fun w' hw => ?_) ?_
    rotate_left
    · go_simp
      with_reducible rfl
    simp only [Act.put, rA, rB, rC]
  refine wpPlan_callL rfl (by rfl) Tryz.call61 (fun w' hw => fneg_any (b) (u1) _ HZ1.out) (by rfl) ?_
  simp only [Act.put, rA, rB, rC]
  refine wpPlan_callL rfl (by rfl) Tryz.call51 (fun w' hw => fadd_any (a) (u1) (z) _ HZ2.out (by omega) (by omega)) (by rfl) ?_
  simp only [Act.put, rA, rB, rC]
  refine wpPlan_nil (hT.out _ _ ?_); clear hT T
  intro G vw1 hg hf
  simp only [puts, Act.put, rA, rB, rC, rD, rE, ↓reduceIte, Nat.reduceEqDiff]
  clear lx0 lx1
  have HG := Lib.hid (hg)
  clear hg
  replace BX0 := bG BX0 HG
  replace BX1 := bG BX1 HG
  replace BX2 := bG BX2 HG
  have lx2 := BX2.out.cells; have fx2 := BX2.out.free
  have r0 := Gr.refl vw1
  go_wp2
  refine hK.out _ _ ?_; clear hK K
  show Code.wp _ _ _ _ _
  clear lx2 fx2
  clear r0
  refine forgetW (fun w2 => Bx w2 (w.heap.size + 1 + 1) 36 #[.int .u64 (lo z.num.natAbs), .string (bg z.num.natAbs), .bool (decide (z.num < 0)), .int .u64 (lo (z.den - 1)), .string (bg (z.den - 1))] ∧ Below w.heap.size w w2) ⟨((((((BX2.out).set 0 _).set 1 _).set 2 _).set 3 _).set 4 _).eq (by simp only [rA, rB, rC]), sc5 (HB.out.trans (HG.out.mono HB.out.size)) (by show w.heap.size ≤ w.heap.size + 1 + 1; omega)⟩ ?_
  clear HB HG BX0 BX1 BX2
  rintro Wx1 ⟨bx2, HB⟩
  replace HB := Lib.hid HB
  refine wp_ret ?_
  try simp only [Exit.then, Exit.inBlock]
  have lx2 := bx2.cells
  have r0 := Gr.refl Wx1
  exact bodyPost_ret (v := .agg #[.int .u64 (lo z.num.natAbs), .string (bg z.num.natAbs), .bool (decide (z.num < 0)), .int .u64 (lo (z.den - 1)), .string (bg (z.den - 1))]) (by simp [results, Tryz.results36, go_sem, lx2 _ r0]) rfl ⟨rfl, HB.out⟩

end Go.Proofs.YtenpbnmmadbkdaaGreat


/- fracs: Cmp, Div, Of. -/
namespace Go.Proofs.YtenpbnmmadbkdaaGreat
open Go.RowKit
set_option linter.unusedSimpArgs false
set_option linter.unusedVariables false
attribute [local go_sem ↓] Go.wp_at_zero Go.wp_at_succ
attribute [local go_sem ↓] eq_nat eq_nat_zero
set_option maxHeartbeats 1000000 in
theorem fcmp_same (a b : Rat) (t : Int) (ht : sgQ (a - b) = t) (hs_a : sz a ≤ 100000000000) (hs_b : sz b ≤ 100000000000) (h3 : decide (a.den - 1 = b.den - 1) = true) (w : World) :
    Calls Tryz.prog 41 #[(Value.agg #[.int .u64 (lo a.num.natAbs), .string (bg a.num.natAbs), .bool (decide (a.num < 0)), .int .u64 (lo (a.den - 1)), .string (bg (a.den - 1))]), (Value.agg #[.int .u64 (lo b.num.natAbs), .string (bg b.num.natAbs), .bool (decide (b.num < 0)), .int .u64 (lo (b.den - 1)), .string (bg (b.den - 1))])] w fun e w' => e = .returned (.int .i64 (t)) ∧ Below w.heap.size w w' := by
  have hn_a := Nat.le_trans (sz_num a) hs_a
  have hd_a := Nat.le_trans (sz_den a) hs_a
  have he_a := Nat.le_trans (wl_mono (Nat.sub_le a.den 1)) hd_a
  have hp_a : 0 < a.den := a.den_pos
  have hn_b := Nat.le_trans (sz_num b) hs_b
  have hd_b := Nat.le_trans (sz_den b) hs_b
  have he_b := Nat.le_trans (wl_mono (Nat.sub_le b.den 1)) hd_b
  have hp_b : 0 < b.den := b.den_pos
  replace ht := Lib.hid ht
  go_enter Tryz.func41, Tryz.ntmps41
  -- region 0
  refine wp_seq_k fun K hK => ?_
  replace hK := Lib.hid hK
  refine wp_region_lit ?_
  go_wp2
  refine hK.out _ _ ?_; clear hK K
  show Code.wp _ _ _ _ _
  refine forgetW (fun w2 => Bx w2 (w.heap.size) 36 #[.int .u64 (lo a.num.natAbs), .string (bg a.num.natAbs), .bool (decide (a.num < 0)), .int .u64 (lo (a.den - 1)), .string (bg (a.den - 1))] ∧ Bx w2 (w.heap.size + 1) 36 #[.int .u64 (lo b.num.natAbs), .string (bg b.num.natAbs), .bool (decide (b.num < 0)), .int .u64 (lo (b.den - 1)), .string (bg (b.den - 1))] ∧ Below w.heap.size w w2) ⟨(Bx.at rfl).alloc _, Bx.at (by simp), ((Below.refl _ _).alloc (Nat.le_refl _) _).alloc (by simp) _⟩ ?_
  rintro Wx ⟨bx0, bx1, HB⟩
  replace HB := Lib.hid HB
  refine wp_seq ?_
  -- region 1
  have lx0 := bx0.cells
  have lx1 := bx1.cells
  have BX0 := Lib.hid bx0
  have BX1 := Lib.hid bx1
  clear bx0 bx1
  refine wp_seq_k fun K hK => ?_
  replace hK := Lib.hid hK
  refine wp_region_seqplan 5 [(true, 0), (true, 1), (true, 2), (true, 3), (true, 4)] (by rfl) (by simp) (fun T hT => ?_)
  iterate 5
    refine wpPlan_takeL (v := ?_) rfl (by rfl) (fun w' hw => ?_) ?_
    rotate_left
    · go_simp
      with_reducible rfl
    simp only [Act.put, rA, rB, rC]
  refine wpPlan_nil (hT.out _ _ ?_); clear hT T
  intro vw1 hg
  simp only [puts, Act.put, rA, rB, rC, rD, rE, ↓reduceIte, Nat.reduceEqDiff]
  clear lx0 lx1
  have HG := Lib.hid (hg)
  clear hg
  replace BX0 := bG BX0 HG
  replace BX1 := bG BX1 HG
  have r0 := Gr.refl vw1
  go_wp2
  refine hK.out _ _ ?_; clear hK K
  show Code.wp _ _ _ _ _
  clear r0
  refine forgetW (fun w2 => Bx w2 (w.heap.size) 36 #[.int .u64 (lo a.num.natAbs), .string (bg a.num.natAbs), .bool (decide (a.num < 0)), .int .u64 (lo (a.den - 1)), .string (bg (a.den - 1))] ∧ Bx w2 (w.heap.size + 1) 36 #[.int .u64 (lo b.num.natAbs), .string (bg b.num.natAbs), .bool (decide (b.num < 0)), .int .u64 (lo (b.den - 1)), .string (bg (b.den - 1))] ∧ Below w.heap.size w w2) ⟨BX0.out, BX1.out, HB.out.trans (HG.out.mono HB.out.size)⟩ ?_
  clear HB HG BX0 BX1
  rintro Wx1 ⟨bx0, bx1, HB⟩
  replace HB := Lib.hid HB
  refine wp_cond_true (by rfl) ?_
  -- region 2
  have lx0 := bx0.cells
  have lx1 := bx1.cells
  have BX0 := Lib.hid bx0
  have BX1 := Lib.hid bx1
  clear bx0 bx1
  refine wp_seq_k fun K hK => ?_
  replace hK := Lib.hid hK
  refine wp_region_seqplan 6 [(true, 0), (true, 1), (true, 2), (true, 3), (true, 4), (true, 5)] (by rfl) (by simp) (fun T hT => ?_)
  iterate 4
    refine wpPlan_takeL (v := ?_) rfl (by rfl) (fun w' hw => ?_) ?_
    rotate_left
    · go_simp
      with_reducible rfl
    simp only [Act.put, rA, rB, rC]
  refine wpPlan_callL rfl (by rfl) Tryz.call67 (fun w' hw => zicmp (a.num) (b.num) (t) _ (by rw [← ht.out]; exact sgQ_sub_same a b (by have := of_decide_eq_true h3; omega)) (by omega) (by omega)) (by rfl) ?_
  simp only [Act.put, rA, rB, rC]
  iterate 1
    refine wpPlan_takeL (v := ?_) rfl (by rfl) (fun w' hw => ?_) ?_
    rotate_left
    · go_simp
      with_reducible rfl
    simp only [Act.put, rA, rB, rC]
  refine wpPlan_nil (hT.out _ _ ?_); clear hT T
  intro vw2 hg
  simp only [puts, Act.put, rA, rB, rC, rD, rE, ↓reduceIte, Nat.reduceEqDiff]
  clear lx0 lx1
  have HG := Lib.hid (hg)
  clear hg
  replace BX0 := bG BX0 HG
  replace BX1 := bG BX1 HG
  have r0 := Gr.refl vw2
  go_wp2
  refine hK.out _ _ ?_; clear hK K
  show Code.wp _ _ _ _ _
  clear r0
  refine forgetW (fun w2 => Bx w2 (w.heap.size) 36 #[.int .u64 (lo a.num.natAbs), .string (bg a.num.natAbs), .bool (decide (a.num < 0)), .int .u64 (lo (a.den - 1)), .string (bg (a.den - 1))] ∧ Bx w2 (w.heap.size + 1) 36 #[.int .u64 (lo b.num.natAbs), .string (bg b.num.natAbs), .bool (decide (b.num < 0)), .int .u64 (lo (b.den - 1)), .string (bg (b.den - 1))] ∧ Below w.heap.size w w2) ⟨BX0.out, BX1.out, HB.out.trans (HG.out.mono HB.out.size)⟩ ?_
  clear HB HG BX0 BX1
  rintro Wx2 ⟨bx0, bx1, HB⟩
  replace HB := Lib.hid HB
  refine wp_ret ?_
  try simp only [Exit.then, Exit.inBlock]
  have r0 := Gr.refl Wx2
  exact bodyPost_ret (v := .int .i64 (t)) (by simp [results, Tryz.results41, go_sem]) rfl ⟨rfl, HB.out⟩

set_option maxHeartbeats 1000000 in
theorem fcmp_other (a b : Rat) (t : Int) (ht : sgQ (a - b) = t) (hs_a : sz a ≤ 100000000000) (hs_b : sz b ≤ 100000000000) (h3 : decide (a.den - 1 = b.den - 1) = false) (w : World) :
    Calls Tryz.prog 41 #[(Value.agg #[.int .u64 (lo a.num.natAbs), .string (bg a.num.natAbs), .bool (decide (a.num < 0)), .int .u64 (lo (a.den - 1)), .string (bg (a.den - 1))]), (Value.agg #[.int .u64 (lo b.num.natAbs), .string (bg b.num.natAbs), .bool (decide (b.num < 0)), .int .u64 (lo (b.den - 1)), .string (bg (b.den - 1))])] w fun e w' => e = .returned (.int .i64 (t)) ∧ Below w.heap.size w w' := by
  have hn_a := Nat.le_trans (sz_num a) hs_a
  have hd_a := Nat.le_trans (sz_den a) hs_a
  have he_a := Nat.le_trans (wl_mono (Nat.sub_le a.den 1)) hd_a
  have hp_a : 0 < a.den := a.den_pos
  have hn_b := Nat.le_trans (sz_num b) hs_b
  have hd_b := Nat.le_trans (sz_den b) hs_b
  have he_b := Nat.le_trans (wl_mono (Nat.sub_le b.den 1)) hd_b
  have hp_b : 0 < b.den := b.den_pos
  replace ht := Lib.hid ht
  go_enter Tryz.func41, Tryz.ntmps41
  -- region 0
  refine wp_seq_k fun K hK => ?_
  replace hK := Lib.hid hK
  refine wp_region_lit ?_
  go_wp2
  refine hK.out _ _ ?_; clear hK K
  show Code.wp _ _ _ _ _
  refine forgetW (fun w2 => Bx w2 (w.heap.size) 36 #[.int .u64 (lo a.num.natAbs), .string (bg a.num.natAbs), .bool (decide (a.num < 0)), .int .u64 (lo (a.den - 1)), .string (bg (a.den - 1))] ∧ Bx w2 (w.heap.size + 1) 36 #[.int .u64 (lo b.num.natAbs), .string (bg b.num.natAbs), .bool (decide (b.num < 0)), .int .u64 (lo (b.den - 1)), .string (bg (b.den - 1))] ∧ Below w.heap.size w w2) ⟨(Bx.at rfl).alloc _, Bx.at (by simp), ((Below.refl _ _).alloc (Nat.le_refl _) _).alloc (by simp) _⟩ ?_
  rintro Wx ⟨bx0, bx1, HB⟩
  replace HB := Lib.hid HB
  refine wp_seq ?_
  -- region 1
  have lx0 := bx0.cells
  have lx1 := bx1.cells
  have BX0 := Lib.hid bx0
  have BX1 := Lib.hid bx1
  clear bx0 bx1
  refine wp_seq_k fun K hK => ?_
  replace hK := Lib.hid hK
  refine wp_region_seqplan 5 [(true, 0), (true, 1), (true, 2), (true, 3), (true, 4)] (by rfl) (by simp) (fun T hT => ?_)
  iterate 5
    refine wpPlan_takeL (v := ?_) rfl (by rfl) (fun w' hw => ?_) ?_
    rotate_left
    · go_simp
      with_reducible rfl
    simp only [Act.put, rA, rB, rC]
  refine wpPlan_nil (hT.out _ _ ?_); clear hT T
  intro vw1 hg
  simp only [puts, Act.put, rA, rB, rC, rD, rE, ↓reduceIte, Nat.reduceEqDiff]
  clear lx0 lx1
  have HG := Lib.hid (hg)
  clear hg
  replace BX0 := bG BX0 HG
  replace BX1 := bG BX1 HG
  have r0 := Gr.refl vw1
  go_wp2
  refine hK.out _ _ ?_; clear hK K
  show Code.wp _ _ _ _ _
  clear r0
  refine forgetW (fun w2 => Bx w2 (w.heap.size) 36 #[.int .u64 (lo a.num.natAbs), .string (bg a.num.natAbs), .bool (decide (a.num < 0)), .int .u64 (lo (a.den - 1)), .string (bg (a.den - 1))] ∧ Bx w2 (w.heap.size + 1) 36 #[.int .u64 (lo b.num.natAbs), .string (bg b.num.natAbs), .bool (decide (b.num < 0)), .int .u64 (lo (b.den - 1)), .string (bg (b.den - 1))] ∧ Below w.heap.size w w2) ⟨BX0.out, BX1.out, HB.out.trans (HG.out.mono HB.out.size)⟩ ?_
  clear HB HG BX0 BX1
  rintro Wx1 ⟨bx0, bx1, HB⟩
  replace HB := Lib.hid HB
  refine wp_cond_false (by rfl) ?_
  refine wp_skip ?_
  show Code.wp _ _ _ _ _
  -- region 3
  obtain ⟨u1, HZ1⟩ : ∃ z, Hid ((b.den : Int) = z) := ⟨_, Lib.hid rfl⟩
  have su1 : wl (Int.natAbs u1) ≤ 100000000000 := by rw [← HZ1.out]; rw [Int.natAbs_natCast]; omega
  obtain ⟨u2, HZ2⟩ : ∃ z, Hid ((a.num) * (u1) = z) := ⟨_, Lib.hid rfl⟩
  have su2 : wl (Int.natAbs u2) ≤ 200000000000 := by rw [← HZ2.out]; have := wl_imul (a.num) (u1); omega
  obtain ⟨u3, HZ3⟩ : ∃ z, Hid ((a.den : Int) = z) := ⟨_, Lib.hid rfl⟩
  have su3 : wl (Int.natAbs u3) ≤ 100000000000 := by rw [← HZ3.out]; rw [Int.natAbs_natCast]; omega
  obtain ⟨u4, HZ4⟩ : ∃ z, Hid ((b.num) * (u3) = z) := ⟨_, Lib.hid rfl⟩
  have su4 : wl (Int.natAbs u4) ≤ 200000000000 := by rw [← HZ4.out]; have := wl_imul (b.num) (u3); omega
  have lx0 := bx0.cells
  have lx1 := bx1.cells
  have BX0 := Lib.hid bx0
  have BX1 := Lib.hid bx1
  clear bx0 bx1
  refine wp_seq_k fun K hK => ?_
  replace hK := Lib.hid hK
  refine wp_region_plan 11 [] [] (fun _ => 0) (fun _ => .cells #[] 0) [(true, 0), (true, 1), (true, 2), (true, 5), (true, 6), (true, 7), (true, 3), (true, 4), (true, 8), (true, 9), (true, 10)] (by kernel_rfl) (by kernel_rfl) (fun i hi => by cases hi) (fun i hi => by cases hi) (fun _ _ _ _ _ h => h) (fun T hT => ?_)
  iterate 6
    refine wpPlan_takeL (v := ?_) rfl (by rfl) (fun w' hw => ?_) ?_
    rotate_left
    · go_simp
      with_reducible rfl
    simp only [Act.put, rA, rB, rC]
  refine wpPlan_callL rfl (by rfl) Tryz.call68 (fun w' hw => fsigned_any (b) (u1) _ HZ1.out (by omega)) (by rfl) ?_
  simp only [Act.put, rA, rB, rC]
  refine wpPlan_callL rfl (by rfl) Tryz.call47 (fun w' hw => zimul (a.num) (u1) (u2) _ HZ2.out (by omega) (by omega)) (by rfl) ?_
  simp only [Act.put, rA, rB, rC]
  refine wpPlan_callL rfl (by rfl) Tryz.call68 (fun w' hw => fsigned_any (a) (u3) _ HZ3.out (by omega)) (by rfl) ?_
  simp only [Act.put, rA, rB, rC]
  refine wpPlan_callL rfl (by rfl) Tryz.call47 (fun w' hw => zimul (b.num) (u3) (u4) _ HZ4.out (by omega) (by omega)) (by rfl) ?_
  simp only [Act.put, rA, rB, rC]
  refine wpPlan_callL rfl (by rfl) Tryz.call67 (fun w' hw => zicmp (u2) (u4) (t) _ (by rw [← ht.out, ← HZ2.out, ← HZ4.out, ← HZ1.out, ← HZ3.out]; exact sgQ_sub a b) (by omega) (by omega)) (by rfl) ?_
  simp only [Act.put, rA, rB, rC]
  refine wpPlan_nil (hT.out _ _ ?_); clear hT T
  intro G vw2 hg hf
  simp only [puts, Act.put, rA, rB, rC, rD, rE, ↓reduceIte, Nat.reduceEqDiff]
  clear lx0 lx1
  have HG := Lib.hid (hg)
  clear hg
  replace BX0 := bG BX0 HG
  replace BX1 := bG BX1 HG
  have r0 := Gr.refl vw2
  go_wp2
  refine hK.out _ _ ?_; clear hK K
  show Code.wp _ _ _ _ _
  clear r0
  refine forgetW (fun w2 => Below w.heap.size w w2) (HB.out.trans (HG.out.mono HB.out.size)) ?_
  clear HB HG BX0 BX1
  rintro Wx3 HB
  replace HB := Lib.hid HB
  refine wp_ret ?_
  try simp only [Exit.then, Exit.inBlock]
  have r0 := Gr.refl Wx3
  exact bodyPost_ret (v := .int .i64 (t)) (by simp [results, Tryz.results41, go_sem]) rfl ⟨rfl, HB.out⟩

theorem fcmp_any (a b : Rat) (t : Int) (w : World) (ht : sgQ (a - b) = t) (hs_a : sz a ≤ 100000000000) (hs_b : sz b ≤ 100000000000) :
    Calls Tryz.prog 41 #[(Value.agg #[.int .u64 (lo a.num.natAbs), .string (bg a.num.natAbs), .bool (decide (a.num < 0)), .int .u64 (lo (a.den - 1)), .string (bg (a.den - 1))]), (Value.agg #[.int .u64 (lo b.num.natAbs), .string (bg b.num.natAbs), .bool (decide (b.num < 0)), .int .u64 (lo (b.den - 1)), .string (bg (b.den - 1))])] w fun e w' => e = .returned (.int .i64 t) ∧ Below w.heap.size w w' := by
  cases h3 : decide (a.den - 1 = b.den - 1)
  · exact fcmp_other a b t ht hs_a hs_b h3 w
  · exact fcmp_same a b t ht hs_a hs_b h3 w

set_option maxHeartbeats 1000000 in
theorem fdiv_yes (a b z r : Rat) (t : Int) (hz : Hid (a * r = z)) (hr : Hid (b⁻¹ = r)) (ht : Hid (sgQ b = t)) (h0 : (t == 0) = false) (hb0 : 0 < Int.natAbs b.num) (hs_r : sz r ≤ 100000000000) (hs_a : sz a ≤ 100000000000) (hs_b : sz b ≤ 100000000000) (w : World) :
    Calls Tryz.prog 57 #[(Value.agg #[.int .u64 (lo a.num.natAbs), .string (bg a.num.natAbs), .bool (decide (a.num < 0)), .int .u64 (lo (a.den - 1)), .string (bg (a.den - 1))]), (Value.agg #[.int .u64 (lo b.num.natAbs), .string (bg b.num.natAbs), .bool (decide (b.num < 0)), .int .u64 (lo (b.den - 1)), .string (bg (b.den - 1))])] w fun e w' => e = .returned (.tuple #[(.agg #[.int .u64 (lo z.num.natAbs), .string (bg z.num.natAbs), .bool (decide (z.num < 0)), .int .u64 (lo (z.den - 1)), .string (bg (z.den - 1))]), .int .i64 0]) ∧ Below w.heap.size w w' := by
  have hn_a := Nat.le_trans (sz_num a) hs_a
  have hd_a := Nat.le_trans (sz_den a) hs_a
  have he_a := Nat.le_trans (wl_mono (Nat.sub_le a.den 1)) hd_a
  have hp_a : 0 < a.den := a.den_pos
  have hn_b := Nat.le_trans (sz_num b) hs_b
  have hd_b := Nat.le_trans (sz_den b) hs_b
  have he_b := Nat.le_trans (wl_mono (Nat.sub_le b.den 1)) hd_b
  have hp_b : 0 < b.den := b.den_pos
  go_enter Tryz.func57, Tryz.ntmps57
  -- region 0
  refine wp_seq_k fun K hK => ?_
  replace hK := Lib.hid hK
  refine wp_region_lit ?_
  go_wp2
  refine hK.out _ _ ?_; clear hK K
  show Code.wp _ _ _ _ _
  refine forgetW (fun w2 => Bx w2 (w.heap.size) 36 #[.int .u64 (lo a.num.natAbs), .string (bg a.num.natAbs), .bool (decide (a.num < 0)), .int .u64 (lo (a.den - 1)), .string (bg (a.den - 1))] ∧ Bx w2 (w.heap.size + 1) 36 #[.int .u64 (lo b.num.natAbs), .string (bg b.num.natAbs), .bool (decide (b.num < 0)), .int .u64 (lo (b.den - 1)), .string (bg (b.den - 1))] ∧ Bx w2 (w.heap.size + 1 + 1) 36 #[.int .u64 0, .string ⟨#[]⟩, .bool false, .int .u64 0, .string ⟨#[]⟩] ∧ Below w.heap.size w w2) ⟨((Bx.at rfl).alloc _).alloc _, (Bx.at (by simp)).alloc _, Bx.at (by simp), (((Below.refl _ _).alloc (Nat.le_refl _) _).alloc (by simp) _).alloc (by simp; omega) _⟩ ?_
  rintro Wx ⟨bx0, bx1, bx2, HB⟩
  replace HB := Lib.hid HB
  refine wp_seq ?_
  -- region 1
  have lx1 := bx1.cells
  have BX0 := Lib.hid bx0
  have BX1 := Lib.hid bx1
  have BX2 := Lib.hid bx2
  clear bx0 bx1 bx2
  refine wp_seq_k fun K hK => ?_
  replace hK := Lib.hid hK
  refine wp_region_seqplan 3 [(true, 0), (true, 1), (true, 2)] (by rfl) (by simp) (fun T hT => ?_)
  iterate 1
    refine wpPlan_takeL (v := ?_) rfl (by rfl) (fun w' hw => ?_) ?_
    rotate_left
    · go_simp
      with_reducible rfl
    simp only [Act.put, rA, rB, rC]
  refine wpPlan_callL rfl (by rfl) Tryz.call15 (fun w' hw => fsign_any (b) (t) _ (ht.out)) (by rfl) ?_
  simp only [Act.put, rA, rB, rC]
  iterate 1
    refine wpPlan_takeL (v := ?_) rfl (by rfl) (fun w' hw => ?_) ?_
    rotate_left
    · go_simp
      with_reducible rfl
    simp only [Act.put, rA, rB, rC]
  refine wpPlan_nil (hT.out _ _ ?_); clear hT T
  intro vw1 hg
  simp only [puts, Act.put, rA, rB, rC, rD, rE, ↓reduceIte, Nat.reduceEqDiff]
  clear lx1
  have HG := Lib.hid (hg)
  clear hg
  replace BX0 := bG BX0 HG
  replace BX1 := bG BX1 HG
  replace BX2 := bG BX2 HG
  have r0 := Gr.refl vw1
  go_wp2
  refine hK.out _ _ ?_; clear hK K
  show Code.wp _ _ _ _ _
  clear r0
  refine forgetW (fun w2 => Bx w2 (w.heap.size) 36 #[.int .u64 (lo a.num.natAbs), .string (bg a.num.natAbs), .bool (decide (a.num < 0)), .int .u64 (lo (a.den - 1)), .string (bg (a.den - 1))] ∧ Bx w2 (w.heap.size + 1) 36 #[.int .u64 (lo b.num.natAbs), .string (bg b.num.natAbs), .bool (decide (b.num < 0)), .int .u64 (lo (b.den - 1)), .string (bg (b.den - 1))] ∧ Bx w2 (w.heap.size + 1 + 1) 36 #[.int .u64 0, .string ⟨#[]⟩, .bool false, .int .u64 0, .string ⟨#[]⟩] ∧ Below w.heap.size w w2) ⟨BX0.out, BX1.out, BX2.out, HB.out.trans (HG.out.mono HB.out.size)⟩ ?_
  clear HB HG BX0 BX1 BX2
  rintro Wx1 ⟨bx0, bx1, bx2, HB⟩
  replace HB := Lib.hid HB
  refine wp_cond_false (by rfl) ?_
  refine wp_skip ?_
  show Code.wp _ _ _ _ _
  -- region 3
  obtain ⟨u1, HZ1⟩ : ∃ z, Hid ((if decide (t < 0) then -((b.den : Nat) : Int) else ((b.den : Nat) : Int)) = z) := ⟨_, Lib.hid rfl⟩
  have su1 : wl (Int.natAbs u1) ≤ 100000000000 := by rw [← HZ1.out]; split <;> simp <;> omega
  have HZ2 : Hid (mkRat (u1) (b.num.natAbs) = r) := Lib.hid (by rw [← HZ1.out, ← ht.out, ← hr.out]; exact inv_mk b (by omega))
  have lx1 := bx1.cells
  have BX0 := Lib.hid bx0
  have BX1 := Lib.hid bx1
  have BX2 := Lib.hid bx2
  clear bx0 bx1 bx2
  refine wp_seq_k fun K hK => ?_
  replace hK := Lib.hid hK
  refine wp_region_plan 11 [10] [] (fun _ => 6) (fun _ => .cells #[.int .u64 0, .string ⟨#[]⟩, .bool false, .int .u64 0, .string ⟨#[]⟩] 36) [(true, 0), (true, 3), (true, 6), (true, 7), (true, 1), (true, 2), (true, 4), (true, 5), (true, 8), (true, 9)] (by kernel_rfl) (by kernel_rfl) (by intro i hi; simp only [List.mem_cons, List.not_mem_nil, or_false] at hi; rcases hi with rfl <;> exact ⟨_, rfl, rfl, rfl, by simp, fun ρ w => by kernel_rfl⟩) (fun i hi => by cases hi) (fun _ _ _ _ _ h => h) (fun T hT => ?_)
  iterate 4
    refine wpPlan_takeL (v := ?_) rfl (by rfl) (fun w' hw => ?_) ?_
    rotate_left
    · go_simp
      with_reducible rfl
    simp only [Act.put, rA, rB, rC]
  refine wpPlan_callL rfl (by rfl) Tryz.call15 (fun w' hw => fsign_any (b) (t) _ (ht.out)) (by rfl) ?_
  simp only [Act.put, rA, rB, rC]
  iterate 1
    refine wpPlan_takeL (v := ?_) rfl (by rfl) (fun w' hw => ?_) ?_
    rotate_left
    · go_simp
      with_reducible rfl
    simp only [Act.put, rA, rB, rC]
  refine wpPlan_callL rfl (by rfl) Tryz.call50 (fun w' hw => fden_any (b) (by omega) _) (by rfl) ?_
  simp only [Act.put, rA, rB, rC]
  refine wpPlan_callL rfl (by rfl) Tryz.call78 (fun w' hw => from_any (decide (t < 0)) (b.den) (u1) _ HZ1.out) (by rfl) ?_
  simp only [Act.put, rA, rB, rC]
  refine wpPlan_callL rfl (by rfl) Tryz.call74 (fun w' hw => abs_any (b.num) _) (by rfl) ?_
  simp only [Act.put, rA, rB, rC]
  refine wpPlan_callL rfl (by rfl) Tryz.call48 (fun w' hw => lowest_any (u1) (b.num.natAbs) (r) HZ2 (by omega) (by omega) (by omega) _) (by rfl) ?_
  simp only [Act.put, rA, rB, rC]
  refine wpPlan_nil (hT.out _ _ ?_); clear hT T
  intro G vw2 hg hf
  simp only [puts, Act.put, rA, rB, rC, rD, rE, ↓reduceIte, Nat.reduceEqDiff]
  clear lx1
  have HG := Lib.hid (hg)
  clear hg
  have bx3 := Bx.of_fresh hf (i := 10) (by decide) rfl
  have yx3 := (hf.1 10 (by decide)).1
  clear hf
  generalize G 10 = gx3 at *
  have qx0_3 : w.heap.size < gx3 := Nat.lt_of_lt_of_le BX0.out.lt yx3
  have qx1_3 : w.heap.size + 1 < gx3 := Nat.lt_of_lt_of_le BX1.out.lt yx3
  have qx2_3 : w.heap.size + 1 + 1 < gx3 := Nat.lt_of_lt_of_le BX2.out.lt yx3
  replace yx3 : w.heap.size ≤ gx3 := Nat.le_trans HB.out.size yx3
  replace BX0 := bG BX0 HG
  replace BX1 := bG BX1 HG
  replace BX2 := bG BX2 HG
  have lx3 := bx3.cells; have fx3 := bx3.free
  have r0 := Gr.refl vw2
  have BX3 := Lib.hid bx3; clear bx3
  go_wp2
  refine hK.out _ _ ?_; clear hK K
  show Code.wp _ _ _ _ _
  clear lx3 fx3
  clear r0
  refine forgetW (fun w2 => Bx w2 (w.heap.size) 36 #[.int .u64 (lo a.num.natAbs), .string (bg a.num.natAbs), .bool (decide (a.num < 0)), .int .u64 (lo (a.den - 1)), .string (bg (a.den - 1))] ∧ Bx w2 (w.heap.size + 1 + 1) 36 #[.int .u64 0, .string ⟨#[]⟩, .bool false, .int .u64 0, .string ⟨#[]⟩] ∧ Bx w2 gx3 36 #[.int .u64 (lo r.num.natAbs), .string (bg r.num.natAbs), .bool (decide (r.num < 0)), .int .u64 (lo (r.den - 1)), .string (bg (r.den - 1))] ∧ Below w.heap.size w w2) ⟨so5 (BX0.out) (by show w.heap.size ≠ gx3; omega), so5 (BX2.out) (by show w.heap.size + 1 + 1 ≠ gx3; omega), ((((((BX3.out).set 0 _).set 1 _).set 2 _).set 3 _).set 4 _).eq (by simp only [rA, rB, rC]), sc5 (HB.out.trans (HG.out.mono HB.out.size)) (by show w.heap.size ≤ gx3; omega)⟩ ?_
  clear HB HG BX0 BX1 BX2 BX3
  rintro Wx3 ⟨bx0, bx2, bx3, HB⟩
  replace HB := Lib.hid HB
  -- region 4
  have HZ3 : Hid ((a) * (r) = z) := Lib.hid (hz.out)
  have lx0 := bx0.cells
  have lx3 := bx3.cells
  have BX0 := Lib.hid bx0
  have BX2 := Lib.hid bx2
  have BX3 := Lib.hid bx3
  clear bx0 bx2 bx3
  refine wp_seq_k fun K hK => ?_
  replace hK := Lib.hid hK
  refine wp_region_seqplan 3 [(true, 0), (true, 1), (true, 2)] (by rfl) (by simp) (fun T hT => ?_)
  iterate 2
    refine wpPlan_takeL (v := ?_) rfl (by rfl) (fun w' hw => ?_) ?_
    rotate_left
    · go_simp
      with_reducible rfl
    simp only [Act.put, rA, rB, rC]
  refine wpPlan_callL rfl (by rfl) Tryz.call26 (fun w' hw => fmul_any (a) (r) (z) _ HZ3.out (by omega) (by omega)) (by rfl) ?_
  simp only [Act.put, rA, rB, rC]
  refine wpPlan_nil (hT.out _ _ ?_); clear hT T
  intro vw3 hg
  simp only [puts, Act.put, rA, rB, rC, rD, rE, ↓reduceIte, Nat.reduceEqDiff]
  clear lx0 lx3
  have HG := Lib.hid (hg)
  clear hg
  replace BX0 := bG BX0 HG
  replace BX2 := bG BX2 HG
  replace BX3 := bG BX3 HG
  have lx2 := BX2.out.cells; have fx2 := BX2.out.free
  have r0 := Gr.refl vw3
  go_wp2
  refine hK.out _ _ ?_; clear hK K
  show Code.wp _ _ _ _ _
  clear lx2 fx2
  clear r0
  refine forgetW (fun w2 => Bx w2 (w.heap.size + 1 + 1) 36 #[.int .u64 (lo z.num.natAbs), .string (bg z.num.natAbs), .bool (decide (z.num < 0)), .int .u64 (lo (z.den - 1)), .string (bg (z.den - 1))] ∧ Below w.heap.size w w2) ⟨((((((BX2.out).set 0 _).set 1 _).set 2 _).set 3 _).set 4 _).eq (by simp only [rA, rB, rC]), sc5 (HB.out.trans (HG.out.mono HB.out.size)) (by show w.heap.size ≤ w.heap.size + 1 + 1; omega)⟩ ?_
  clear HB HG BX0 BX2 BX3
  rintro Wx4 ⟨bx2, HB⟩
  replace HB := Lib.hid HB
  refine wp_ret ?_
  try simp only [Exit.then, Exit.inBlock]
  have lx2 := bx2.cells
  have r0 := Gr.refl Wx4
  exact bodyPost_ret (v := .tuple #[(.agg #[.int .u64 (lo z.num.natAbs), .string (bg z.num.natAbs), .bool (decide (z.num < 0)), .int .u64 (lo (z.den - 1)), .string (bg (z.den - 1))]), .int .i64 0]) (by simp [results, Tryz.results57, go_sem, lx2 _ r0]) rfl ⟨rfl, HB.out⟩

set_option maxHeartbeats 1000000 in
theorem fdiv_zero (a b : Rat) (t : Int) (ht : Hid (sgQ b = t)) (h0 : (t == 0) = true) (w : World) :
    Calls Tryz.prog 57 #[(Value.agg #[.int .u64 (lo a.num.natAbs), .string (bg a.num.natAbs), .bool (decide (a.num < 0)), .int .u64 (lo (a.den - 1)), .string (bg (a.den - 1))]), (Value.agg #[.int .u64 (lo b.num.natAbs), .string (bg b.num.natAbs), .bool (decide (b.num < 0)), .int .u64 (lo (b.den - 1)), .string (bg (b.den - 1))])] w fun e w' => e = .returned (.tuple #[(.agg #[.int .u64 0, .string ⟨#[]⟩, .bool false, .int .u64 0, .string ⟨#[]⟩]), .int .i64 5]) ∧ Below w.heap.size w w' := by
  go_enter Tryz.func57, Tryz.ntmps57
  -- region 0
  refine wp_seq_k fun K hK => ?_
  replace hK := Lib.hid hK
  refine wp_region_lit ?_
  go_wp2
  refine hK.out _ _ ?_; clear hK K
  show Code.wp _ _ _ _ _
  refine forgetW (fun w2 => Bx w2 (w.heap.size) 36 #[.int .u64 (lo a.num.natAbs), .string (bg a.num.natAbs), .bool (decide (a.num < 0)), .int .u64 (lo (a.den - 1)), .string (bg (a.den - 1))] ∧ Bx w2 (w.heap.size + 1) 36 #[.int .u64 (lo b.num.natAbs), .string (bg b.num.natAbs), .bool (decide (b.num < 0)), .int .u64 (lo (b.den - 1)), .string (bg (b.den - 1))] ∧ Bx w2 (w.heap.size + 1 + 1) 36 #[.int .u64 0, .string ⟨#[]⟩, .bool false, .int .u64 0, .string ⟨#[]⟩] ∧ Below w.heap.size w w2) ⟨((Bx.at rfl).alloc _).alloc _, (Bx.at (by simp)).alloc _, Bx.at (by simp), (((Below.refl _ _).alloc (Nat.le_refl _) _).alloc (by simp) _).alloc (by simp; omega) _⟩ ?_
  rintro Wx ⟨bx0, bx1, bx2, HB⟩
  replace HB := Lib.hid HB
  refine wp_seq ?_
  -- region 1
  have lx1 := bx1.cells
  have BX0 := Lib.hid bx0
  have BX1 := Lib.hid bx1
  have BX2 := Lib.hid bx2
  clear bx0 bx1 bx2
  refine wp_seq_k fun K hK => ?_
  replace hK := Lib.hid hK
  refine wp_region_seqplan 3 [(true, 0), (true, 1), (true, 2)] (by rfl) (by simp) (fun T hT => ?_)
  iterate 1
    refine wpPlan_takeL (v := ?_) rfl (by rfl) (fun w' hw => ?_) ?_
    rotate_left
    · go_simp
      with_reducible rfl
    simp only [Act.put, rA, rB, rC]
  refine wpPlan_callL rfl (by rfl) Tryz.call15 (fun w' hw => fsign_any (b) (t) _ (ht.out)) (by rfl) ?_
  simp only [Act.put, rA, rB, rC]
  iterate 1
    refine wpPlan_takeL (v := ?_) rfl (by rfl) (fun w' hw => ?_) ?_
    rotate_left
    · go_simp
      with_reducible rfl
    simp only [Act.put, rA, rB, rC]
  refine wpPlan_nil (hT.out _ _ ?_); clear hT T
  intro vw1 hg
  simp only [puts, Act.put, rA, rB, rC, rD, rE, ↓reduceIte, Nat.reduceEqDiff]
  clear lx1
  have HG := Lib.hid (hg)
  clear hg
  replace BX0 := bG BX0 HG
  replace BX1 := bG BX1 HG
  replace BX2 := bG BX2 HG
  have r0 := Gr.refl vw1
  go_wp2
  refine hK.out _ _ ?_; clear hK K
  show Code.wp _ _ _ _ _
  clear r0
  refine forgetW (fun w2 => Bx w2 (w.heap.size) 36 #[.int .u64 (lo a.num.natAbs), .string (bg a.num.natAbs), .bool (decide (a.num < 0)), .int .u64 (lo (a.den - 1)), .string (bg (a.den - 1))] ∧ Bx w2 (w.heap.size + 1) 36 #[.int .u64 (lo b.num.natAbs), .string (bg b.num.natAbs), .bool (decide (b.num < 0)), .int .u64 (lo (b.den - 1)), .string (bg (b.den - 1))] ∧ Bx w2 (w.heap.size + 1 + 1) 36 #[.int .u64 0, .string ⟨#[]⟩, .bool false, .int .u64 0, .string ⟨#[]⟩] ∧ Below w.heap.size w w2) ⟨BX0.out, BX1.out, BX2.out, HB.out.trans (HG.out.mono HB.out.size)⟩ ?_
  clear HB HG BX0 BX1 BX2
  rintro Wx1 ⟨bx0, bx1, bx2, HB⟩
  replace HB := Lib.hid HB
  refine wp_cond_true (by rfl) ?_
  -- region 2
  have BX0 := Lib.hid bx0
  have BX1 := Lib.hid bx1
  have BX2 := Lib.hid bx2
  clear bx0 bx1 bx2
  refine wp_seq_k fun K hK => ?_
  replace hK := Lib.hid hK
  refine wp_region_seqplan 1 [(true, 0)] (by rfl) (by simp) (fun T hT => ?_)
  iterate 1
    refine wpPlan_takeL (v := ?_) rfl (by rfl) (fun w' hw => ?_) ?_
    rotate_left
    · go_simp
      with_reducible rfl
    simp only [Act.put, rA, rB, rC]
  refine wpPlan_nil (hT.out _ _ ?_); clear hT T
  intro vw2 hg
  simp only [puts, Act.put, rA, rB, rC, rD, rE, ↓reduceIte, Nat.reduceEqDiff]
  have HG := Lib.hid (hg)
  clear hg
  replace BX0 := bG BX0 HG
  replace BX1 := bG BX1 HG
  replace BX2 := bG BX2 HG
  have lx2 := BX2.out.cells; have fx2 := BX2.out.free
  have r0 := Gr.refl vw2
  go_wp2
  refine hK.out _ _ ?_; clear hK K
  show Code.wp _ _ _ _ _
  clear lx2 fx2
  clear r0
  refine forgetW (fun w2 => Bx w2 (w.heap.size) 36 #[.int .u64 (lo a.num.natAbs), .string (bg a.num.natAbs), .bool (decide (a.num < 0)), .int .u64 (lo (a.den - 1)), .string (bg (a.den - 1))] ∧ Bx w2 (w.heap.size + 1) 36 #[.int .u64 (lo b.num.natAbs), .string (bg b.num.natAbs), .bool (decide (b.num < 0)), .int .u64 (lo (b.den - 1)), .string (bg (b.den - 1))] ∧ Bx w2 (w.heap.size + 1 + 1) 36 #[.int .u64 0, .string ⟨#[]⟩, .bool false, .int .u64 0, .string ⟨#[]⟩] ∧ Below w.heap.size w w2) ⟨so5 (BX0.out) (by show w.heap.size ≠ w.heap.size + 1 + 1; omega), so5 (BX1.out) (by show w.heap.size + 1 ≠ w.heap.size + 1 + 1; omega), ((((((BX2.out).set 0 _).set 1 _).set 2 _).set 3 _).set 4 _).eq (by simp only [rA, rB, rC]), sc5 (HB.out.trans (HG.out.mono HB.out.size)) (by show w.heap.size ≤ w.heap.size + 1 + 1; omega)⟩ ?_
  clear HB HG BX0 BX1 BX2
  rintro Wx2 ⟨bx0, bx1, bx2, HB⟩
  replace HB := Lib.hid HB
  refine wp_ret ?_
  try simp only [Exit.then, Exit.inBlock]
  have lx2 := bx2.cells
  have r0 := Gr.refl Wx2
  exact bodyPost_ret (v := .tuple #[(.agg #[.int .u64 0, .string ⟨#[]⟩, .bool false, .int .u64 0, .string ⟨#[]⟩]), .int .i64 5]) (by simp [results, Tryz.results57, go_sem, lx2 _ r0]) rfl ⟨rfl, HB.out⟩

theorem fdiv_any (a b z : Rat) (w : World) (hz : a / b = z) (hb : b ≠ 0) (hs_a : sz a ≤ 100000000000) (hs_b : sz b ≤ 100000000000) :
    Calls Tryz.prog 57 #[(Value.agg #[.int .u64 (lo a.num.natAbs), .string (bg a.num.natAbs), .bool (decide (a.num < 0)), .int .u64 (lo (a.den - 1)), .string (bg (a.den - 1))]), (Value.agg #[.int .u64 (lo b.num.natAbs), .string (bg b.num.natAbs), .bool (decide (b.num < 0)), .int .u64 (lo (b.den - 1)), .string (bg (b.den - 1))])] w fun e w' => e = .returned (.tuple #[(Value.agg #[.int .u64 (lo z.num.natAbs), .string (bg z.num.natAbs), .bool (decide (z.num < 0)), .int .u64 (lo (z.den - 1)), .string (bg (z.den - 1))]), .int .i64 0]) ∧ Below w.heap.size w w' := by
  have hn : b.num ≠ 0 := fun h => hb (num_zero.1 h)
  refine fdiv_yes a b z b⁻¹ (sgQ b) (Lib.hid (by rw [← hz, Rat.div_def])) (Lib.hid rfl) (Lib.hid rfl) ?_ (by omega) (Nat.le_trans (sz_inv b) hs_b) hs_a hs_b w
  have : sgQ b ≠ 0 := by unfold sgQ; rw [if_neg hb]; split <;> decide
  simpa using this
theorem fdiv_none (a b : Rat) (w : World) (hb : b = 0) :
    Calls Tryz.prog 57 #[(Value.agg #[.int .u64 (lo a.num.natAbs), .string (bg a.num.natAbs), .bool (decide (a.num < 0)), .int .u64 (lo (a.den - 1)), .string (bg (a.den - 1))]), (Value.agg #[.int .u64 (lo b.num.natAbs), .string (bg b.num.natAbs), .bool (decide (b.num < 0)), .int .u64 (lo (b.den - 1)), .string (bg (b.den - 1))])] w fun e w' => e = .returned (.tuple #[(Value.agg #[.int .u64 0, .string ⟨#[]⟩, .bool false, .int .u64 0, .string ⟨#[]⟩]), .int .i64 5]) ∧ Below w.heap.size w w' :=
  fdiv_zero a b 0 (Lib.hid (by rw [hb]; rfl)) rfl w

set_option maxHeartbeats 1000000 in
theorem fof_any (n d : Int) (z : Rat) (w : World) (hz : (n : Rat) / (d : Rat) = z) (hd : d ≠ 0) (h1 : -9223372036854775808 ≤ n) (h2 : n ≤ 9223372036854775807) (h3 : -9223372036854775808 ≤ d) (h4 : d ≤ 9223372036854775807) :
    Calls Tryz.prog 33 #[.int .i64 (n), .int .i64 (d)] w fun e w' => e = .returned (.tuple #[(.agg #[.int .u64 (lo z.num.natAbs), .string (bg z.num.natAbs), .bool (decide (z.num < 0)), .int .u64 (lo (z.den - 1)), .string (bg (z.den - 1))]), .int .i64 0]) ∧ Below w.heap.size w w' := by
  replace hz := Lib.hid hz
  go_enter Tryz.func33, Tryz.ntmps33
  -- region 0
  refine wp_seq_k fun K hK => ?_
  replace hK := Lib.hid hK
  refine wp_region_lit ?_
  go_wp2
  refine hK.out _ _ ?_; clear hK K
  show Code.wp _ _ _ _ _
  refine forgetW (fun w2 => Bx w2 (w.heap.size) 36 #[.int .u64 0, .string ⟨#[]⟩, .bool false, .int .u64 0, .string ⟨#[]⟩] ∧ Below w.heap.size w w2) ⟨Bx.at rfl, (Below.refl _ _).alloc (Nat.le_refl _) _⟩ ?_
  rintro Wx ⟨bx0, HB⟩
  replace HB := Lib.hid HB
  -- region 1
  obtain ⟨u1, HZ1⟩ : ∃ z, Hid (((n : Int) : Rat) = z) := ⟨_, Lib.hid rfl⟩
  have su1 : sz u1 ≤ 2 := by rw [← HZ1.out]; exact sz_int64 (by omega) (by omega)
  obtain ⟨u2, HZ2⟩ : ∃ z, Hid (((d : Int) : Rat) = z) := ⟨_, Lib.hid rfl⟩
  have su2 : sz u2 ≤ 2 := by rw [← HZ2.out]; exact sz_int64 (by omega) (by omega)
  have HZ3 : Hid ((u1) / (u2) = z) := Lib.hid (by rw [← HZ1.out, ← HZ2.out, ← hz.out])
  have BX0 := Lib.hid bx0
  clear bx0
  refine wp_seq_k fun K hK => ?_
  replace hK := Lib.hid hK
  refine wp_region_seqplan 7 [(true, 0), (true, 1), (true, 2), (true, 3), (true, 4), (true, 5), (true, 6)] (by rfl) (by simp) (fun T hT => ?_)
  iterate 1
    refine wpPlan_takeL (v := ?_) rfl (by rfl) (fun w' hw => ?_) ?_
    rotate_left
    · go_simp
      with_reducible rfl
    simp only [Act.put, rA, rB, rC]
  refine wpPlan_callL rfl (by rfl) Tryz.call55 (fun w' hw => fint_any (n) (u1) _ HZ1.out (by omega) (by omega)) (by rfl) ?_
  simp only [Act.put, rA, rB, rC]
  iterate 1
    refine wpPlan_takeL (v := ?_) rfl (by rfl) (fun w' hw => ?_) ?_
    rotate_left
    · go_simp
      with_reducible rfl
    simp only [Act.put, rA, rB, rC]
  refine wpPlan_callL rfl (by rfl) Tryz.call55 (fun w' hw => fint_any (d) (u2) _ HZ2.out (by omega) (by omega)) (by rfl) ?_
  simp only [Act.put, rA, rB, rC]
  refine wpPlan_callL rfl (by rfl) Tryz.call57 (fun w' hw => fdiv_any (u1) (u2) (z) _ HZ3.out (by rw [← HZ2.out]; exact fun h => hd (Rat.intCast_inj.1 h)) (by omega) (by omega)) (by rfl) ?_
  simp only [Act.put, rA, rB, rC]
  iterate 2
    refine wpPlan_takeL (v := ?_) rfl (by rfl) (fun w' hw => ?_) ?_
    rotate_left
    · go_simp
      with_reducible rfl
    simp only [Act.put, rA, rB, rC]
  refine wpPlan_nil (hT.out _ _ ?_); clear hT T
  intro vw1 hg
  simp only [puts, Act.put, rA, rB, rC, rD, rE, ↓reduceIte, Nat.reduceEqDiff]
  have HG := Lib.hid (hg)
  clear hg
  replace BX0 := bG BX0 HG
  have lx0 := BX0.out.cells; have fx0 := BX0.out.free
  have r0 := Gr.refl vw1
  go_wp2
  refine hK.out _ _ ?_; clear hK K
  show Code.wp _ _ _ _ _
  clear lx0 fx0
  clear r0
  refine forgetW (fun w2 => Bx w2 (w.heap.size) 36 #[.int .u64 (lo z.num.natAbs), .string (bg z.num.natAbs), .bool (decide (z.num < 0)), .int .u64 (lo (z.den - 1)), .string (bg (z.den - 1))] ∧ Below w.heap.size w w2) ⟨((((((BX0.out).set 0 _).set 1 _).set 2 _).set 3 _).set 4 _).eq (by simp only [rA, rB, rC]), sc5 (HB.out.trans (HG.out.mono HB.out.size)) (by show w.heap.size ≤ w.heap.size; omega)⟩ ?_
  clear HB HG BX0
  rintro Wx1 ⟨bx0, HB⟩
  replace HB := Lib.hid HB
  refine wp_ret ?_
  try simp only [Exit.then, Exit.inBlock]
  have lx0 := bx0.cells
  have r0 := Gr.refl Wx1
  exact bodyPost_ret (v := .tuple #[(.agg #[.int .u64 (lo z.num.natAbs), .string (bg z.num.natAbs), .bool (decide (z.num < 0)), .int .u64 (lo (z.den - 1)), .string (bg (z.den - 1))]), .int .i64 0]) (by simp [results, Tryz.results33, go_sem, lx0 _ r0]) rfl ⟨rfl, HB.out⟩

end Go.Proofs.YtenpbnmmadbkdaaGreat


/- points: both, Add, Sub, Scale, half, Mid, Cross, Dot, Square, Less, Turn, Int. -/
namespace Go.Proofs.YtenpbnmmadbkdaaGreat
open Go.RowKit
set_option linter.unusedSimpArgs false
set_option linter.unusedVariables false
attribute [local go_sem ↓] Go.wp_at_zero Go.wp_at_succ
theorem sz_cross (a b c d : Rat) : sz (a * d - b * c) ≤ sz a + sz b + sz c + sz d + 1 := by
  have h1 := sz_mul a d; have h2 := sz_mul b c; have h3 := sz_sub (a * d) (b * c); omega
theorem sz_dot (a b c d : Rat) : sz (a * c + b * d) ≤ sz a + sz b + sz c + sz d + 1 := by
  have h1 := sz_mul a c; have h2 := sz_mul b d; have h3 := sz_add (a * c) (b * d); omega
theorem sz_square (a b c d : Rat) : sz ((c - a) * (c - a) + (d - b) * (d - b)) ≤ 2 * (sz a + sz b + sz c + sz d) + 5 := by
  have h1 := sz_sub c a; have h2 := sz_sub d b; have h3 := sz_dot (c - a) (d - b) (c - a) (d - b); omega
theorem sz_quot (n d : Int) (h1 : -9223372036854775808 ≤ n) (h2 : n ≤ 9223372036854775807) (h3 : -9223372036854775808 ≤ d) (h4 : d ≤ 9223372036854775807) : sz ((n : Rat) / (d : Rat)) ≤ 4 := by
  have a := sz_int64 h1 h2; have b := sz_int64 h3 h4; have c := sz_div (n : Rat) (d : Rat); omega
/-- 1/2 -/
def half : Rat := ((1 : Int) : Rat) / ((2 : Int) : Rat)
theorem sz_half : sz half ≤ 4 := sz_quot 1 2 (by decide) (by decide) (by decide) (by decide)

set_option maxHeartbeats 1000000 in
theorem both_any (f : Nat) (cap : List Value) (a1 a2 b1 b2 z1 z2 : Rat) (hr : Hid (∀ args w, (callFunc f args).run Tryz.prog w = .ok (.enter f args) w)) (w : World) (h1 : Hid (∀ w', Gr w w' → Calls Tryz.prog f ((Value.agg #[.int .u64 (lo a1.num.natAbs), .string (bg a1.num.natAbs), .bool (decide (a1.num < 0)), .int .u64 (lo (a1.den - 1)), .string (bg (a1.den - 1))]) :: (Value.agg #[.int .u64 (lo b1.num.natAbs), .string (bg b1.num.natAbs), .bool (decide (b1.num < 0)), .int .u64 (lo (b1.den - 1)), .string (bg (b1.den - 1))]) :: cap).toArray w' fun e w'' => e = .returned (Value.agg #[.int .u64 (lo z1.num.natAbs), .string (bg z1.num.natAbs), .bool (decide (z1.num < 0)), .int .u64 (lo (z1.den - 1)), .string (bg (z1.den - 1))]) ∧ Below w'.heap.size w' w'')) (h2 : Hid (∀ w', Gr w w' → Calls Tryz.prog f ((Value.agg #[.int .u64 (lo a2.num.natAbs), .string (bg a2.num.natAbs), .bool (decide (a2.num < 0)), .int .u64 (lo (a2.den - 1)), .string (bg (a2.den - 1))]) :: (Value.agg #[.int .u64 (lo b2.num.natAbs), .string (bg b2.num.natAbs), .bool (decide (b2.num < 0)), .int .u64 (lo (b2.den - 1)), .string (bg (b2.den - 1))]) :: cap).toArray w' fun e w'' => e = .returned (Value.agg #[.int .u64 (lo z2.num.natAbs), .string (bg z2.num.natAbs), .bool (decide (z2.num < 0)), .int .u64 (lo (z2.den - 1)), .string (bg (z2.den - 1))]) ∧ Below w'.heap.size w' w'')) :
    Calls Tryz.prog 37 #[(Value.agg #[.int .u64 (lo a1.num.natAbs), .string (bg a1.num.natAbs), .bool (decide (a1.num < 0)), .int .u64 (lo (a1.den - 1)), .string (bg (a1.den - 1)), .int .u64 (lo a2.num.natAbs), .string (bg a2.num.natAbs), .bool (decide (a2.num < 0)), .int .u64 (lo (a2.den - 1)), .string (bg (a2.den - 1))]), (Value.agg #[.int .u64 (lo b1.num.natAbs), .string (bg b1.num.natAbs), .bool (decide (b1.num < 0)), .int .u64 (lo (b1.den - 1)), .string (bg (b1.den - 1)), .int .u64 (lo b2.num.natAbs), .string (bg b2.num.natAbs), .bool (decide (b2.num < 0)), .int .u64 (lo (b2.den - 1)), .string (bg (b2.den - 1))]), .func (.func f) #[] cap.toArray] w fun e w' => e = .returned (.agg #[.int .u64 (lo z1.num.natAbs), .string (bg z1.num.natAbs), .bool (decide (z1.num < 0)), .int .u64 (lo (z1.den - 1)), .string (bg (z1.den - 1)), .int .u64 (lo z2.num.natAbs), .string (bg z2.num.natAbs), .bool (decide (z2.num < 0)), .int .u64 (lo (z2.den - 1)), .string (bg (z2.den - 1))]) ∧ Below w.heap.size w w' := by
  go_enter Tryz.func37, Tryz.ntmps37
  -- region 0
  refine wp_seq_k fun K hK => ?_
  replace hK := Lib.hid hK
  refine wp_region_lit ?_
  go_wp2
  refine hK.out _ _ ?_; clear hK K
  show Code.wp _ _ _ _ _
  refine forgetW (fun w2 => Bx w2 (w.heap.size) 38 #[.int .u64 (lo a1.num.natAbs), .string (bg a1.num.natAbs), .bool (decide (a1.num < 0)), .int .u64 (lo (a1.den - 1)), .string (bg (a1.den - 1)), .int .u64 (lo a2.num.natAbs), .string (bg a2.num.natAbs), .bool (decide (a2.num < 0)), .int .u64 (lo (a2.den - 1)), .string (bg (a2.den - 1))] ∧ Bx w2 (w.heap.size + 1) 38 #[.int .u64 (lo b1.num.natAbs), .string (bg b1.num.natAbs), .bool (decide (b1.num < 0)), .int .u64 (lo (b1.den - 1)), .string (bg (b1.den - 1)), .int .u64 (lo b2.num.natAbs), .string (bg b2.num.natAbs), .bool (decide (b2.num < 0)), .int .u64 (lo (b2.den - 1)), .string (bg (b2.den - 1))] ∧ Bx w2 (w.heap.size + 1 + 1) 38 #[.int .u64 0, .string ⟨#[]⟩, .bool false, .int .u64 0, .string ⟨#[]⟩, .int .u64 0, .string ⟨#[]⟩, .bool false, .int .u64 0, .string ⟨#[]⟩] ∧ Below w.heap.size w w2) ⟨((Bx.at rfl).alloc _).alloc _, (Bx.at (by simp)).alloc _, Bx.at (by simp), (((Below.refl _ _).alloc (Nat.le_refl _) _).alloc (by simp) _).alloc (by simp; omega) _⟩ ?_
  rintro Wx ⟨bx0, bx1, bx2, HB⟩
  replace HB := Lib.hid HB
  -- region 1
  have lx0 := bx0.cells
  have lx1 := bx1.cells
  have BX0 := Lib.hid bx0
  have BX1 := Lib.hid bx1
  have BX2 := Lib.hid bx2
  clear bx0 bx1 bx2
  refine wp_seq_k fun K hK => ?_
  replace hK := Lib.hid hK
  refine wp_region_plan 13 [] [] (fun _ => 0) (fun _ => .cells #[] 0) [(true, 0), (true, 1), (true, 2), (true, 3), (true, 4), (true, 6), (true, 7), (true, 8), (true, 9), (true, 10), (true, 5), (true, 11), (true, 12)] (by kernel_rfl) (by kernel_rfl) (fun i hi => by cases hi) (fun i hi => by cases hi) (fun _ _ _ _ _ h => h) (fun T hT => ?_)
  iterate 10
    refine wpPlan_takeL (v := ?_) rfl (by rfl) (fun w' hw => ?_) ?_
    rotate_left
    · go_simp
      with_reducible rfl
    simp only [Act.put, rA, rB, rC]
  refine wpPlan_callV rfl (by rfl) (by rfl) hr.out (fun w' hw => h1.out _ (Gr.trans (show Gr w _ from HB.out) hw)) (by rfl) ?_
  simp only [Act.put, rA, rB, rC]
  refine wpPlan_callV rfl (by rfl) (by rfl) hr.out (fun w' hw => h2.out _ (Gr.trans (show Gr w _ from HB.out) hw)) (by rfl) ?_
  simp only [Act.put, rA, rB, rC]
  iterate 1
    refine wpPlan_takeL (v := ?_) rfl (by rfl) (fun w' hw => ?_) ?_
    rotate_left
    · go_simp
      with_reducible rfl
    simp only [Act.put, rA, rB, rC]
  refine wpPlan_nil (hT.out _ _ ?_); clear hT T
  intro G vw1 hg hf
  simp only [puts, Act.put, rA, rB, rC, rD, rE, ↓reduceIte, Nat.reduceEqDiff]
  clear lx0 lx1
  have HG := Lib.hid (hg)
  clear hg
  replace BX0 := bG BX0 HG
  replace BX1 := bG BX1 HG
  replace BX2 := bG BX2 HG
  have lx2 := BX2.out.cells; have fx2 := BX2.out.free
  have r0 := Gr.refl vw1
  go_wp2
  refine hK.out _ _ ?_; clear hK K
  show Code.wp _ _ _ _ _
  clear lx2 fx2
  clear r0
  refine forgetW (fun w2 => Bx w2 (w.heap.size + 1 + 1) 38 #[.int .u64 (lo z1.num.natAbs), .string (bg z1.num.natAbs), .bool (decide (z1.num < 0)), .int .u64 (lo (z1.den - 1)), .string (bg (z1.den - 1)), .int .u64 (lo z2.num.natAbs), .string (bg z2.num.natAbs), .bool (decide (z2.num < 0)), .int .u64 (lo (z2.den - 1)), .string (bg (z2.den - 1))] ∧ Below w.heap.size w w2) ⟨(((((((((((BX2.out).set 0 _).set 1 _).set 2 _).set 3 _).set 4 _).set 5 _).set 6 _).set 7 _).set 8 _).set 9 _).eq (by simp only [rA, rB, rC]), sc10 (HB.out.trans (HG.out.mono HB.out.size)) (by show w.heap.size ≤ w.heap.size + 1 + 1; omega)⟩ ?_
  clear HB HG BX0 BX1 BX2
  rintro Wx1 ⟨bx2, HB⟩
  replace HB := Lib.hid HB
  refine wp_ret ?_
  try simp only [Exit.then, Exit.inBlock]
  have lx2 := bx2.cells
  have r0 := Gr.refl Wx1
  exact bodyPost_ret (v := .agg #[.int .u64 (lo z1.num.natAbs), .string (bg z1.num.natAbs), .bool (decide (z1.num < 0)), .int .u64 (lo (z1.den - 1)), .string (bg (z1.den - 1)), .int .u64 (lo z2.num.natAbs), .string (bg z2.num.natAbs), .bool (decide (z2.num < 0)), .int .u64 (lo (z2.den - 1)), .string (bg (z2.den - 1))]) (by simp [results, Tryz.results37, go_sem, lx2 _ r0]) rfl ⟨rfl, HB.out⟩

set_option maxHeartbeats 1000000 in
theorem padd_any (a1 a2 b1 b2 z1 z2 : Rat) (w : World) (hz1 : a1 + b1 = z1) (hz2 : a2 + b2 = z2) (hs_a1 : sz a1 ≤ 100000000000) (hs_a2 : sz a2 ≤ 100000000000) (hs_b1 : sz b1 ≤ 100000000000) (hs_b2 : sz b2 ≤ 100000000000) :
    Calls Tryz.prog 58 #[(Value.agg #[.int .u64 (lo a1.num.natAbs), .string (bg a1.num.natAbs), .bool (decide (a1.num < 0)), .int .u64 (lo (a1.den - 1)), .string (bg (a1.den - 1)), .int .u64 (lo a2.num.natAbs), .string (bg a2.num.natAbs), .bool (decide (a2.num < 0)), .int .u64 (lo (a2.den - 1)), .string (bg (a2.den - 1))]), (Value.agg #[.int .u64 (lo b1.num.natAbs), .string (bg b1.num.natAbs), .bool (decide (b1.num < 0)), .int .u64 (lo (b1.den - 1)), .string (bg (b1.den - 1)), .int .u64 (lo b2.num.natAbs), .string (bg b2.num.natAbs), .bool (decide (b2.num < 0)), .int .u64 (lo (b2.den - 1)), .string (bg (b2.den - 1))])] w fun e w' => e = .returned (.agg #[.int .u64 (lo z1.num.natAbs), .string (bg z1.num.natAbs), .bool (decide (z1.num < 0)), .int .u64 (lo (z1.den - 1)), .string (bg (z1.den - 1)), .int .u64 (lo z2.num.natAbs), .string (bg z2.num.natAbs), .bool (decide (z2.num < 0)), .int .u64 (lo (z2.den - 1)), .string (bg (z2.den - 1))]) ∧ Below w.heap.size w w' := by
  replace hz1 := Lib.hid hz1
  replace hz2 := Lib.hid hz2
  go_enter Tryz.func58, Tryz.ntmps58
  -- region 0
  refine wp_seq_k fun K hK => ?_
  replace hK := Lib.hid hK
  refine wp_region_lit ?_
  go_wp2
  refine hK.out _ _ ?_; clear hK K
  show Code.wp _ _ _ _ _
  refine forgetW (fun w2 => Bx w2 (w.heap.size) 38 #[.int .u64 (lo a1.num.natAbs), .string (bg a1.num.natAbs), .bool (decide (a1.num < 0)), .int .u64 (lo (a1.den - 1)), .string (bg (a1.den - 1)), .int .u64 (lo a2.num.natAbs), .string (bg a2.num.natAbs), .bool (decide (a2.num < 0)), .int .u64 (lo (a2.den - 1)), .string (bg (a2.den - 1))] ∧ Bx w2 (w.heap.size + 1) 38 #[.int .u64 (lo b1.num.natAbs), .string (bg b1.num.natAbs), .bool (decide (b1.num < 0)), .int .u64 (lo (b1.den - 1)), .string (bg (b1.den - 1)), .int .u64 (lo b2.num.natAbs), .string (bg b2.num.natAbs), .bool (decide (b2.num < 0)), .int .u64 (lo (b2.den - 1)), .string (bg (b2.den - 1))] ∧ Bx w2 (w.heap.size + 1 + 1) 38 #[.int .u64 0, .string ⟨#[]⟩, .bool false, .int .u64 0, .string ⟨#[]⟩, .int .u64 0, .string ⟨#[]⟩, .bool false, .int .u64 0, .string ⟨#[]⟩] ∧ Below w.heap.size w w2) ⟨((Bx.at rfl).alloc _).alloc _, (Bx.at (by simp)).alloc _, Bx.at (by simp), (((Below.refl _ _).alloc (Nat.le_refl _) _).alloc (by simp) _).alloc (by simp; omega) _⟩ ?_
  rintro Wx ⟨bx0, bx1, bx2, HB⟩
  replace HB := Lib.hid HB
  -- region 1
  have HZ1 : Hid ((a1) + (b1) = z1) := Lib.hid (hz1.out)
  have HZ2 : Hid ((a2) + (b2) = z2) := Lib.hid (hz2.out)
  have lx0 := bx0.cells
  have lx1 := bx1.cells
  have BX0 := Lib.hid bx0
  have BX1 := Lib.hid bx1
  have BX2 := Lib.hid bx2
  clear bx0 bx1 bx2
  refine wp_seq_k fun K hK => ?_
  replace hK := Lib.hid hK
  refine wp_region_seqplan 3 [(true, 0), (true, 1), (true, 2)] (by rfl) (by simp) (fun T hT => ?_)
  iterate 2
    refine wpPlan_takeL (v := ?_) rfl (by rfl) (fun w' hw => ?_) ?_
    rotate_left
    · go_simp
      with_reducible rfl
    simp only [Act.put, rA, rB, rC]
  refine wpPlan_callL rfl (by rfl) Tryz.call37 (fun w' hw => both_any 51 [] (a1) (a2) (b1) (b2) (z1) (z2) (Lib.hid Tryz.call51) _ (Lib.hid fun w2 _ => fadd_any (a1) (b1) (z1) w2 HZ1.out (by omega) (by omega)) (Lib.hid fun w2 _ => fadd_any (a2) (b2) (z2) w2 HZ2.out (by omega) (by omega))) (by rfl) ?_
  simp only [Act.put, rA, rB, rC]
  refine wpPlan_nil (hT.out _ _ ?_); clear hT T
  intro vw1 hg
  simp only [puts, Act.put, rA, rB, rC, rD, rE, ↓reduceIte, Nat.reduceEqDiff]
  clear lx0 lx1
  have HG := Lib.hid (hg)
  clear hg
  replace BX0 := bG BX0 HG
  replace BX1 := bG BX1 HG
  replace BX2 := bG BX2 HG
  have lx2 := BX2.out.cells; have fx2 := BX2.out.free
  have r0 := Gr.refl vw1
  go_wp2
  refine hK.out _ _ ?_; clear hK K
  show Code.wp _ _ _ _ _
  clear lx2 fx2
  clear r0
  refine forgetW (fun w2 => Bx w2 (w.heap.size + 1 + 1) 38 #[.int .u64 (lo z1.num.natAbs), .string (bg z1.num.natAbs), .bool (decide (z1.num < 0)), .int .u64 (lo (z1.den - 1)), .string (bg (z1.den - 1)), .int .u64 (lo z2.num.natAbs), .string (bg z2.num.natAbs), .bool (decide (z2.num < 0)), .int .u64 (lo (z2.den - 1)), .string (bg (z2.den - 1))] ∧ Below w.heap.size w w2) ⟨(((((((((((BX2.out).set 0 _).set 1 _).set 2 _).set 3 _).set 4 _).set 5 _).set 6 _).set 7 _).set 8 _).set 9 _).eq (by simp only [rA, rB, rC]), sc10 (HB.out.trans (HG.out.mono HB.out.size)) (by show w.heap.size ≤ w.heap.size + 1 + 1; omega)⟩ ?_
  clear HB HG BX0 BX1 BX2
  rintro Wx1 ⟨bx2, HB⟩
  replace HB := Lib.hid HB
  refine wp_ret ?_
  try simp only [Exit.then, Exit.inBlock]
  have lx2 := bx2.cells
  have r0 := Gr.refl Wx1
  exact bodyPost_ret (v := .agg #[.int .u64 (lo z1.num.natAbs), .string (bg z1.num.natAbs), .bool (decide (z1.num < 0)), .int .u64 (lo (z1.den - 1)), .string (bg (z1.den - 1)), .int .u64 (lo z2.num.natAbs), .string (bg z2.num.natAbs), .bool (decide (z2.num < 0)), .int .u64 (lo (z2.den - 1)), .string (bg (z2.den - 1))]) (by simp [results, Tryz.results58, go_sem, lx2 _ r0]) rfl ⟨rfl, HB.out⟩

set_option maxHeartbeats 1000000 in
theorem psub_any (a1 a2 b1 b2 z1 z2 : Rat) (w : World) (hz1 : a1 - b1 = z1) (hz2 : a2 - b2 = z2) (hs_a1 : sz a1 ≤ 100000000000) (hs_a2 : sz a2 ≤ 100000000000) (hs_b1 : sz b1 ≤ 100000000000) (hs_b2 : sz b2 ≤ 100000000000) :
    Calls Tryz.prog 17 #[(Value.agg #[.int .u64 (lo a1.num.natAbs), .string (bg a1.num.natAbs), .bool (decide (a1.num < 0)), .int .u64 (lo (a1.den - 1)), .string (bg (a1.den - 1)), .int .u64 (lo a2.num.natAbs), .string (bg a2.num.natAbs), .bool (decide (a2.num < 0)), .int .u64 (lo (a2.den - 1)), .string (bg (a2.den - 1))]), (Value.agg #[.int .u64 (lo b1.num.natAbs), .string (bg b1.num.natAbs), .bool (decide (b1.num < 0)), .int .u64 (lo (b1.den - 1)), .string (bg (b1.den - 1)), .int .u64 (lo b2.num.natAbs), .string (bg b2.num.natAbs), .bool (decide (b2.num < 0)), .int .u64 (lo (b2.den - 1)), .string (bg (b2.den - 1))])] w fun e w' => e = .returned (.agg #[.int .u64 (lo z1.num.natAbs), .string (bg z1.num.natAbs), .bool (decide (z1.num < 0)), .int .u64 (lo (z1.den - 1)), .string (bg (z1.den - 1)), .int .u64 (lo z2.num.natAbs), .string (bg z2.num.natAbs), .bool (decide (z2.num < 0)), .int .u64 (lo (z2.den - 1)), .string (bg (z2.den - 1))]) ∧ Below w.heap.size w w' := by
  replace hz1 := Lib.hid hz1
  replace hz2 := Lib.hid hz2
  go_enter Tryz.func17, Tryz.ntmps17
  -- region 0
  refine wp_seq_k fun K hK => ?_
  replace hK := Lib.hid hK
  refine wp_region_lit ?_
  go_wp2
  refine hK.out _ _ ?_; clear hK K
  show Code.wp _ _ _ _ _
  refine forgetW (fun w2 => Bx w2 (w.heap.size) 38 #[.int .u64 (lo a1.num.natAbs), .string (bg a1.num.natAbs), .bool (decide (a1.num < 0)), .int .u64 (lo (a1.den - 1)), .string (bg (a1.den - 1)), .int .u64 (lo a2.num.natAbs), .string (bg a2.num.natAbs), .bool (decide (a2.num < 0)), .int .u64 (lo (a2.den - 1)), .string (bg (a2.den - 1))] ∧ Bx w2 (w.heap.size + 1) 38 #[.int .u64 (lo b1.num.natAbs), .string (bg b1.num.natAbs), .bool (decide (b1.num < 0)), .int .u64 (lo (b1.den - 1)), .string (bg (b1.den - 1)), .int .u64 (lo b2.num.natAbs), .string (bg b2.num.natAbs), .bool (decide (b2.num < 0)), .int .u64 (lo (b2.den - 1)), .string (bg (b2.den - 1))] ∧ Bx w2 (w.heap.size + 1 + 1) 38 #[.int .u64 0, .string ⟨#[]⟩, .bool false, .int .u64 0, .string ⟨#[]⟩, .int .u64 0, .string ⟨#[]⟩, .bool false, .int .u64 0, .string ⟨#[]⟩] ∧ Below w.heap.size w w2) ⟨((Bx.at rfl).alloc _).alloc _, (Bx.at (by simp)).alloc _, Bx.at (by simp), (((Below.refl _ _).alloc (Nat.le_refl _) _).alloc (by simp) _).alloc (by simp; omega) _⟩ ?_
  rintro Wx ⟨bx0, bx1, bx2, HB⟩
  replace HB := Lib.hid HB
  -- region 1
  have HZ1 : Hid ((a1) - (b1) = z1) := Lib.hid (hz1.out)
  have HZ2 : Hid ((a2) - (b2) = z2) := Lib.hid (hz2.out)
  have lx0 := bx0.cells
  have lx1 := bx1.cells
  have BX0 := Lib.hid bx0
  have BX1 := Lib.hid bx1
  have BX2 := Lib.hid bx2
  clear bx0 bx1 bx2
  refine wp_seq_k fun K hK => ?_
  replace hK := Lib.hid hK
  refine wp_region_seqplan 3 [(true, 0), (true, 1), (true, 2)] (by rfl) (by simp) (fun T hT => ?_)
  iterate 2
    refine wpPlan_takeL (v := ?_) rfl (by rfl) (fun w' hw => ?_) ?_
    rotate_left
    · go_simp
      with_reducible rfl
    simp only [Act.put, rA, rB, rC]
  refine wpPlan_callL rfl (by rfl) Tryz.call37 (fun w' hw => both_any 36 [] (a1) (a2) (b1) (b2) (z1) (z2) (Lib.hid Tryz.call36) _ (Lib.hid fun w2 _ => fsub_any (a1) (b1) (z1) w2 HZ1.out (by omega) (by omega)) (Lib.hid fun w2 _ => fsub_any (a2) (b2) (z2) w2 HZ2.out (by omega) (by omega))) (by rfl) ?_
  simp only [Act.put, rA, rB, rC]
  refine wpPlan_nil (hT.out _ _ ?_); clear hT T
  intro vw1 hg
  simp only [puts, Act.put, rA, rB, rC, rD, rE, ↓reduceIte, Nat.reduceEqDiff]
  clear lx0 lx1
  have HG := Lib.hid (hg)
  clear hg
  replace BX0 := bG BX0 HG
  replace BX1 := bG BX1 HG
  replace BX2 := bG BX2 HG
  have lx2 := BX2.out.cells; have fx2 := BX2.out.free
  have r0 := Gr.refl vw1
  go_wp2
  refine hK.out _ _ ?_; clear hK K
  show Code.wp _ _ _ _ _
  clear lx2 fx2
  clear r0
  refine forgetW (fun w2 => Bx w2 (w.heap.size + 1 + 1) 38 #[.int .u64 (lo z1.num.natAbs), .string (bg z1.num.natAbs), .bool (decide (z1.num < 0)), .int .u64 (lo (z1.den - 1)), .string (bg (z1.den - 1)), .int .u64 (lo z2.num.natAbs), .string (bg z2.num.natAbs), .bool (decide (z2.num < 0)), .int .u64 (lo (z2.den - 1)), .string (bg (z2.den - 1))] ∧ Below w.heap.size w w2) ⟨(((((((((((BX2.out).set 0 _).set 1 _).set 2 _).set 3 _).set 4 _).set 5 _).set 6 _).set 7 _).set 8 _).set 9 _).eq (by simp only [rA, rB, rC]), sc10 (HB.out.trans (HG.out.mono HB.out.size)) (by show w.heap.size ≤ w.heap.size + 1 + 1; omega)⟩ ?_
  clear HB HG BX0 BX1 BX2
  rintro Wx1 ⟨bx2, HB⟩
  replace HB := Lib.hid HB
  refine wp_ret ?_
  try simp only [Exit.then, Exit.inBlock]
  have lx2 := bx2.cells
  have r0 := Gr.refl Wx1
  exact bodyPost_ret (v := .agg #[.int .u64 (lo z1.num.natAbs), .string (bg z1.num.natAbs), .bool (decide (z1.num < 0)), .int .u64 (lo (z1.den - 1)), .string (bg (z1.den - 1)), .int .u64 (lo z2.num.natAbs), .string (bg z2.num.natAbs), .bool (decide (z2.num < 0)), .int .u64 (lo (z2.den - 1)), .string (bg (z2.den - 1))]) (by simp [results, Tryz.results17, go_sem, lx2 _ r0]) rfl ⟨rfl, HB.out⟩

set_option maxHeartbeats 1000000 in
theorem pclos_any (a b k z : Rat) (g : Nat) (w : World) (bx9 : Bx w g 36 #[.int .u64 (lo k.num.natAbs), .string (bg k.num.natAbs), .bool (decide (k.num < 0)), .int .u64 (lo (k.den - 1)), .string (bg (k.den - 1))]) (hz : a * k = z) (hs_a : sz a ≤ 100000000000) (hs_k : sz k ≤ 100000000000) :
    Calls Tryz.prog 87 #[(Value.agg #[.int .u64 (lo a.num.natAbs), .string (bg a.num.natAbs), .bool (decide (a.num < 0)), .int .u64 (lo (a.den - 1)), .string (bg (a.den - 1))]), (Value.agg #[.int .u64 (lo b.num.natAbs), .string (bg b.num.natAbs), .bool (decide (b.num < 0)), .int .u64 (lo (b.den - 1)), .string (bg (b.den - 1))]), .pointer (some ⟨g, 0, none⟩)] w fun e w' => e = .returned (.agg #[.int .u64 (lo z.num.natAbs), .string (bg z.num.natAbs), .bool (decide (z.num < 0)), .int .u64 (lo (z.den - 1)), .string (bg (z.den - 1))]) ∧ Below w.heap.size w w' := by
  replace hz := Lib.hid hz
  go_enter Tryz.func87, Tryz.ntmps87
  have e9 := bx9.lt
  -- region 0
  refine wp_seq_k fun K hK => ?_
  replace hK := Lib.hid hK
  refine wp_region_lit ?_
  go_wp2
  refine hK.out _ _ ?_; clear hK K
  show Code.wp _ _ _ _ _
  refine forgetW (fun w2 => Bx w2 g 36 #[.int .u64 (lo k.num.natAbs), .string (bg k.num.natAbs), .bool (decide (k.num < 0)), .int .u64 (lo (k.den - 1)), .string (bg (k.den - 1))] ∧ Bx w2 (w.heap.size) 36 #[.int .u64 (lo a.num.natAbs), .string (bg a.num.natAbs), .bool (decide (a.num < 0)), .int .u64 (lo (a.den - 1)), .string (bg (a.den - 1))] ∧ Bx w2 (w.heap.size + 1 + 1) 36 #[.int .u64 0, .string ⟨#[]⟩, .bool false, .int .u64 0, .string ⟨#[]⟩] ∧ Below w.heap.size w w2) ⟨(((bx9).alloc _).alloc _).alloc _, ((Bx.at rfl).alloc _).alloc _, Bx.at (by simp), (((Below.refl _ _).alloc (Nat.le_refl _) _).alloc (by simp) _).alloc (by simp; omega) _⟩ ?_
  clear bx9
  rintro Wx ⟨bx9, bx10, bx12, HB⟩
  replace HB := Lib.hid HB
  -- region 1
  have HZ1 : Hid ((a) * (k) = z) := Lib.hid (hz.out)
  have lx9 := bx9.cells
  have lx10 := bx10.cells
  have BX9 := Lib.hid bx9
  have BX10 := Lib.hid bx10
  have BX12 := Lib.hid bx12
  clear bx9 bx10 bx12
  refine wp_seq_k fun K hK => ?_
  replace hK := Lib.hid hK
  refine wp_region_seqplan 3 [(true, 0), (true, 1), (true, 2)] (by rfl) (by simp) (fun T hT => ?_)
  iterate 2
    refine wpPlan_takeL (v := ?_) rfl (by rfl) (fun w' hw => ?_) ?_
    rotate_left
    · go_simp
      with_reducible rfl
    simp only [Act.put, rA, rB, rC]
  refine wpPlan_callL rfl (by rfl) Tryz.call26 (fun w' hw => fmul_any (a) (k) (z) _ HZ1.out (by omega) (by omega)) (by rfl) ?_
  simp only [Act.put, rA, rB, rC]
  refine wpPlan_nil (hT.out _ _ ?_); clear hT T
  intro vw1 hg
  simp only [puts, Act.put, rA, rB, rC, rD, rE, ↓reduceIte, Nat.reduceEqDiff]
  clear lx9 lx10
  have HG := Lib.hid (hg)
  clear hg
  replace BX9 := bG BX9 HG
  replace BX10 := bG BX10 HG
  replace BX12 := bG BX12 HG
  have lx12 := BX12.out.cells; have fx12 := BX12.out.free
  have r0 := Gr.refl vw1
  go_wp2
  refine hK.out _ _ ?_; clear hK K
  show Code.wp _ _ _ _ _
  clear lx12 fx12
  clear r0
  refine forgetW (fun w2 => Bx w2 (w.heap.size + 1 + 1) 36 #[.int .u64 (lo z.num.natAbs), .string (bg z.num.natAbs), .bool (decide (z.num < 0)), .int .u64 (lo (z.den - 1)), .string (bg (z.den - 1))] ∧ Below w.heap.size w w2) ⟨((((((BX12.out).set 0 _).set 1 _).set 2 _).set 3 _).set 4 _).eq (by simp only [rA, rB, rC]), sc5 (HB.out.trans (HG.out.mono HB.out.size)) (by show w.heap.size ≤ w.heap.size + 1 + 1; omega)⟩ ?_
  clear HB HG BX9 BX10 BX12
  rintro Wx1 ⟨bx12, HB⟩
  replace HB := Lib.hid HB
  refine wp_ret ?_
  try simp only [Exit.then, Exit.inBlock]
  have lx12 := bx12.cells
  have r0 := Gr.refl Wx1
  exact bodyPost_ret (v := .agg #[.int .u64 (lo z.num.natAbs), .string (bg z.num.natAbs), .bool (decide (z.num < 0)), .int .u64 (lo (z.den - 1)), .string (bg (z.den - 1))]) (by simp [results, Tryz.results87, go_sem, lx12 _ r0]) rfl ⟨rfl, HB.out⟩

set_option maxHeartbeats 1000000 in
theorem pscale_any (a1 a2 k z1 z2 : Rat) (w : World) (hz1 : a1 * k = z1) (hz2 : a2 * k = z2) (hs_a1 : sz a1 ≤ 100000000000) (hs_a2 : sz a2 ≤ 100000000000) (hs_k : sz k ≤ 100000000000) :
    Calls Tryz.prog 59 #[(Value.agg #[.int .u64 (lo a1.num.natAbs), .string (bg a1.num.natAbs), .bool (decide (a1.num < 0)), .int .u64 (lo (a1.den - 1)), .string (bg (a1.den - 1)), .int .u64 (lo a2.num.natAbs), .string (bg a2.num.natAbs), .bool (decide (a2.num < 0)), .int .u64 (lo (a2.den - 1)), .string (bg (a2.den - 1))]), (Value.agg #[.int .u64 (lo k.num.natAbs), .string (bg k.num.natAbs), .bool (decide (k.num < 0)), .int .u64 (lo (k.den - 1)), .string (bg (k.den - 1))])] w fun e w' => e = .returned (.agg #[.int .u64 (lo z1.num.natAbs), .string (bg z1.num.natAbs), .bool (decide (z1.num < 0)), .int .u64 (lo (z1.den - 1)), .string (bg (z1.den - 1)), .int .u64 (lo z2.num.natAbs), .string (bg z2.num.natAbs), .bool (decide (z2.num < 0)), .int .u64 (lo (z2.den - 1)), .string (bg (z2.den - 1))]) ∧ Below w.heap.size w w' := by
  replace hz1 := Lib.hid hz1
  replace hz2 := Lib.hid hz2
  go_enter Tryz.func59, Tryz.ntmps59
  -- region 0
  refine wp_seq_k fun K hK => ?_
  replace hK := Lib.hid hK
  refine wp_region_lit ?_
  go_wp2
  refine hK.out _ _ ?_; clear hK K
  show Code.wp _ _ _ _ _
  refine forgetW (fun w2 => Bx w2 (w.heap.size) 38 #[.int .u64 (lo a1.num.natAbs), .string (bg a1.num.natAbs), .bool (decide (a1.num < 0)), .int .u64 (lo (a1.den - 1)), .string (bg (a1.den - 1)), .int .u64 (lo a2.num.natAbs), .string (bg a2.num.natAbs), .bool (decide (a2.num < 0)), .int .u64 (lo (a2.den - 1)), .string (bg (a2.den - 1))] ∧ Bx w2 (w.heap.size + 1) 36 #[.int .u64 (lo k.num.natAbs), .string (bg k.num.natAbs), .bool (decide (k.num < 0)), .int .u64 (lo (k.den - 1)), .string (bg (k.den - 1))] ∧ Bx w2 (w.heap.size + 1 + 1) 38 #[.int .u64 0, .string ⟨#[]⟩, .bool false, .int .u64 0, .string ⟨#[]⟩, .int .u64 0, .string ⟨#[]⟩, .bool false, .int .u64 0, .string ⟨#[]⟩] ∧ Below w.heap.size w w2) ⟨((Bx.at rfl).alloc _).alloc _, (Bx.at (by simp)).alloc _, Bx.at (by simp), (((Below.refl _ _).alloc (Nat.le_refl _) _).alloc (by simp) _).alloc (by simp; omega) _⟩ ?_
  rintro Wx ⟨bx0, bx1, bx2, HB⟩
  replace HB := Lib.hid HB
  -- region 1
  have HZ1 : Hid ((a1) * (k) = z1) := Lib.hid (hz1.out)
  have HZ2 : Hid ((a2) * (k) = z2) := Lib.hid (hz2.out)
  have lx0 := bx0.cells
  have BX0 := Lib.hid bx0
  have BX1 := Lib.hid bx1
  have BX2 := Lib.hid bx2
  clear bx0 bx1 bx2
  refine wp_seq_k fun K hK => ?_
  replace hK := Lib.hid hK
  refine wp_region_seqplan 4 [(true, 0), (true, 1), (true, 2), (true, 3)] (by rfl) (by simp) (fun T hT => ?_)
  iterate 3
    refine wpPlan_takeL (v := ?_) rfl (by rfl) (fun w' hw => ?_) ?_
    rotate_left
    · go_simp
      with_reducible rfl
    simp only [Act.put, rA, rB, rC]
  refine wpPlan_callL rfl (by rfl) Tryz.call37 (fun w' hw => both_any 87 [.pointer (some ⟨w.heap.size + 1, 0, none⟩)] (a1) (a2) (a1) (a2) (z1) (z2) (Lib.hid Tryz.call87) _ (Lib.hid fun w2 hw2 => pclos_any (a1) (a1) (k) (z1) (w.heap.size + 1) w2 (BX1.out.gr (hw.trans hw2)) HZ1.out (by omega) (by omega)) (Lib.hid fun w2 hw2 => pclos_any (a2) (a2) (k) (z2) (w.heap.size + 1) w2 (BX1.out.gr (hw.trans hw2)) HZ2.out (by omega) (by omega))) (by rfl) ?_
  simp only [Act.put, rA, rB, rC]
  refine wpPlan_nil (hT.out _ _ ?_); clear hT T
  intro vw1 hg
  simp only [puts, Act.put, rA, rB, rC, rD, rE, ↓reduceIte, Nat.reduceEqDiff]
  clear lx0
  have HG := Lib.hid (hg)
  clear hg
  replace BX0 := bG BX0 HG
  replace BX1 := bG BX1 HG
  replace BX2 := bG BX2 HG
  have lx2 := BX2.out.cells; have fx2 := BX2.out.free
  have r0 := Gr.refl vw1
  go_wp2
  refine hK.out _ _ ?_; clear hK K
  show Code.wp _ _ _ _ _
  clear lx2 fx2
  clear r0
  refine forgetW (fun w2 => Bx w2 (w.heap.size + 1 + 1) 38 #[.int .u64 (lo z1.num.natAbs), .string (bg z1.num.natAbs), .bool (decide (z1.num < 0)), .int .u64 (lo (z1.den - 1)), .string (bg (z1.den - 1)), .int .u64 (lo z2.num.natAbs), .string (bg z2.num.natAbs), .bool (decide (z2.num < 0)), .int .u64 (lo (z2.den - 1)), .string (bg (z2.den - 1))] ∧ Below w.heap.size w w2) ⟨(((((((((((BX2.out).set 0 _).set 1 _).set 2 _).set 3 _).set 4 _).set 5 _).set 6 _).set 7 _).set 8 _).set 9 _).eq (by simp only [rA, rB, rC]), sc10 (HB.out.trans (HG.out.mono HB.out.size)) (by show w.heap.size ≤ w.heap.size + 1 + 1; omega)⟩ ?_
  clear HB HG BX0 BX1 BX2
  rintro Wx1 ⟨bx2, HB⟩
  replace HB := Lib.hid HB
  refine wp_ret ?_
  try simp only [Exit.then, Exit.inBlock]
  have lx2 := bx2.cells
  have r0 := Gr.refl Wx1
  exact bodyPost_ret (v := .agg #[.int .u64 (lo z1.num.natAbs), .string (bg z1.num.natAbs), .bool (decide (z1.num < 0)), .int .u64 (lo (z1.den - 1)), .string (bg (z1.den - 1)), .int .u64 (lo z2.num.natAbs), .string (bg z2.num.natAbs), .bool (decide (z2.num < 0)), .int .u64 (lo (z2.den - 1)), .string (bg (z2.den - 1))]) (by simp [results, Tryz.results59, go_sem, lx2 _ r0]) rfl ⟨rfl, HB.out⟩

set_option maxHeartbeats 1000000 in
theorem pcross_any (a1 a2 b1 b2 z : Rat) (w : World) (hz : a1 * b2 - a2 * b1 = z) (hs_a1 : sz a1 ≤ 10000000000) (hs_a2 : sz a2 ≤ 10000000000) (hs_b1 : sz b1 ≤ 10000000000) (hs_b2 : sz b2 ≤ 10000000000) :
    Calls Tryz.prog 16 #[(Value.agg #[.int .u64 (lo a1.num.natAbs), .string (bg a1.num.natAbs), .bool (decide (a1.num < 0)), .int .u64 (lo (a1.den - 1)), .string (bg (a1.den - 1)), .int .u64 (lo a2.num.natAbs), .string (bg a2.num.natAbs), .bool (decide (a2.num < 0)), .int .u64 (lo (a2.den - 1)), .string (bg (a2.den - 1))]), (Value.agg #[.int .u64 (lo b1.num.natAbs), .string (bg b1.num.natAbs), .bool (decide (b1.num < 0)), .int .u64 (lo (b1.den - 1)), .string (bg (b1.den - 1)), .int .u64 (lo b2.num.natAbs), .string (bg b2.num.natAbs), .bool (decide (b2.num < 0)), .int .u64 (lo (b2.den - 1)), .string (bg (b2.den - 1))])] w fun e w' => e = .returned (.agg #[.int .u64 (lo z.num.natAbs), .string (bg z.num.natAbs), .bool (decide (z.num < 0)), .int .u64 (lo (z.den - 1)), .string (bg (z.den - 1))]) ∧ Below w.heap.size w w' := by
  replace hz := Lib.hid hz
  go_enter Tryz.func16, Tryz.ntmps16
  -- region 0
  refine wp_seq_k fun K hK => ?_
  replace hK := Lib.hid hK
  refine wp_region_lit ?_
  go_wp2
  refine hK.out _ _ ?_; clear hK K
  show Code.wp _ _ _ _ _
  refine forgetW (fun w2 => Bx w2 (w.heap.size) 38 #[.int .u64 (lo a1.num.natAbs), .string (bg a1.num.natAbs), .bool (decide (a1.num < 0)), .int .u64 (lo (a1.den - 1)), .string (bg (a1.den - 1)), .int .u64 (lo a2.num.natAbs), .string (bg a2.num.natAbs), .bool (decide (a2.num < 0)), .int .u64 (lo (a2.den - 1)), .string (bg (a2.den - 1))] ∧ Bx w2 (w.heap.size + 1) 38 #[.int .u64 (lo b1.num.natAbs), .string (bg b1.num.natAbs), .bool (decide (b1.num < 0)), .int .u64 (lo (b1.den - 1)), .string (bg (b1.den - 1)), .int .u64 (lo b2.num.natAbs), .string (bg b2.num.natAbs), .bool (decide (b2.num < 0)), .int .u64 (lo (b2.den - 1)), .string (bg (b2.den - 1))] ∧ Bx w2 (w.heap.size + 1 + 1) 36 #[.int .u64 0, .string ⟨#[]⟩, .bool false, .int .u64 0, .string ⟨#[]⟩] ∧ Below w.heap.size w w2) ⟨((Bx.at rfl).alloc _).alloc _, (Bx.at (by simp)).alloc _, Bx.at (by simp), (((Below.refl _ _).alloc (Nat.le_refl _) _).alloc (by simp) _).alloc (by simp; omega) _⟩ ?_
  rintro Wx ⟨bx0, bx1, bx2, HB⟩
  replace HB := Lib.hid HB
  -- region 1
  obtain ⟨u1, HZ1⟩ : ∃ z, Hid ((a1) * (b2) = z) := ⟨_, Lib.hid rfl⟩
  have su1 : sz u1 ≤ 20000000000 := by rw [← HZ1.out]; have := sz_mul (a1) (b2); omega
  obtain ⟨u2, HZ2⟩ : ∃ z, Hid ((a2) * (b1) = z) := ⟨_, Lib.hid rfl⟩
  have su2 : sz u2 ≤ 20000000000 := by rw [← HZ2.out]; have := sz_mul (a2) (b1); omega
  have HZ3 : Hid ((u1) - (u2) = z) := Lib.hid (by rw [← HZ1.out, ← HZ2.out, ← hz.out])
  have lx0 := bx0.cells
  have lx1 := bx1.cells
  have BX0 := Lib.hid bx0
  have BX1 := Lib.hid bx1
  have BX2 := Lib.hid bx2
  clear bx0 bx1 bx2
  refine wp_seq_k fun K hK => ?_
  replace hK := Lib.hid hK
  refine wp_region_plan 11 [] [] (fun _ => 0) (fun _ => .cells #[] 0) [(true, 0), (true, 1), (true, 2), (true, 3), (true, 5), (true, 6), (true, 7), (true, 8), (true, 4), (true, 9), (true, 10)] (by kernel_rfl) (by kernel_rfl) (fun i hi => by cases hi) (fun i hi => by cases hi) (fun _ _ _ _ _ h => h) (fun T hT => ?_)
  iterate 8
    refine wpPlan_takeL (v := ?_) rfl (by rfl) (fun w' hw => ?_) ?_
    rotate_left
    · go_simp
      with_reducible rfl
    simp only [Act.put, rA, rB, rC]
  refine wpPlan_callL rfl (by rfl) Tryz.call26 (fun w' hw => fmul_any (a1) (b2) (u1) _ HZ1.out (by omega) (by omega)) (by rfl) ?_
  simp only [Act.put, rA, rB, rC]
  refine wpPlan_callL rfl (by rfl) Tryz.call26 (fun w' hw => fmul_any (a2) (b1) (u2) _ HZ2.out (by omega) (by omega)) (by rfl) ?_
  simp only [Act.put, rA, rB, rC]
  refine wpPlan_callL rfl (by rfl) Tryz.call36 (fun w' hw => fsub_any (u1) (u2) (z) _ HZ3.out (by omega) (by omega)) (by rfl) ?_
  simp only [Act.put, rA, rB, rC]
  refine wpPlan_nil (hT.out _ _ ?_); clear hT T
  intro G vw1 hg hf
  simp only [puts, Act.put, rA, rB, rC, rD, rE, ↓reduceIte, Nat.reduceEqDiff]
  clear lx0 lx1
  have HG := Lib.hid (hg)
  clear hg
  replace BX0 := bG BX0 HG
  replace BX1 := bG BX1 HG
  replace BX2 := bG BX2 HG
  have lx2 := BX2.out.cells; have fx2 := BX2.out.free
  have r0 := Gr.refl vw1
  go_wp2
  refine hK.out _ _ ?_; clear hK K
  show Code.wp _ _ _ _ _
  clear lx2 fx2
  clear r0
  refine forgetW (fun w2 => Bx w2 (w.heap.size + 1 + 1) 36 #[.int .u64 (lo z.num.natAbs), .string (bg z.num.natAbs), .bool (decide (z.num < 0)), .int .u64 (lo (z.den - 1)), .string (bg (z.den - 1))] ∧ Below w.heap.size w w2) ⟨((((((BX2.out).set 0 _).set 1 _).set 2 _).set 3 _).set 4 _).eq (by simp only [rA, rB, rC]), sc5 (HB.out.trans (HG.out.mono HB.out.size)) (by show w.heap.size ≤ w.heap.size + 1 + 1; omega)⟩ ?_
  clear HB HG BX0 BX1 BX2
  rintro Wx1 ⟨bx2, HB⟩
  replace HB := Lib.hid HB
  refine wp_ret ?_
  try simp only [Exit.then, Exit.inBlock]
  have lx2 := bx2.cells
  have r0 := Gr.refl Wx1
  exact bodyPost_ret (v := .agg #[.int .u64 (lo z.num.natAbs), .string (bg z.num.natAbs), .bool (decide (z.num < 0)), .int .u64 (lo (z.den - 1)), .string (bg (z.den - 1))]) (by simp [results, Tryz.results16, go_sem, lx2 _ r0]) rfl ⟨rfl, HB.out⟩

set_option maxHeartbeats 1000000 in
theorem pdot_any (a1 a2 b1 b2 z : Rat) (w : World) (hz : a1 * b1 + a2 * b2 = z) (hs_a1 : sz a1 ≤ 10000000000) (hs_a2 : sz a2 ≤ 10000000000) (hs_b1 : sz b1 ≤ 10000000000) (hs_b2 : sz b2 ≤ 10000000000) :
    Calls Tryz.prog 27 #[(Value.agg #[.int .u64 (lo a1.num.natAbs), .string (bg a1.num.natAbs), .bool (decide (a1.num < 0)), .int .u64 (lo (a1.den - 1)), .string (bg (a1.den - 1)), .int .u64 (lo a2.num.natAbs), .string (bg a2.num.natAbs), .bool (decide (a2.num < 0)), .int .u64 (lo (a2.den - 1)), .string (bg (a2.den - 1))]), (Value.agg #[.int .u64 (lo b1.num.natAbs), .string (bg b1.num.natAbs), .bool (decide (b1.num < 0)), .int .u64 (lo (b1.den - 1)), .string (bg (b1.den - 1)), .int .u64 (lo b2.num.natAbs), .string (bg b2.num.natAbs), .bool (decide (b2.num < 0)), .int .u64 (lo (b2.den - 1)), .string (bg (b2.den - 1))])] w fun e w' => e = .returned (.agg #[.int .u64 (lo z.num.natAbs), .string (bg z.num.natAbs), .bool (decide (z.num < 0)), .int .u64 (lo (z.den - 1)), .string (bg (z.den - 1))]) ∧ Below w.heap.size w w' := by
  replace hz := Lib.hid hz
  go_enter Tryz.func27, Tryz.ntmps27
  -- region 0
  refine wp_seq_k fun K hK => ?_
  replace hK := Lib.hid hK
  refine wp_region_lit ?_
  go_wp2
  refine hK.out _ _ ?_; clear hK K
  show Code.wp _ _ _ _ _
  refine forgetW (fun w2 => Bx w2 (w.heap.size) 38 #[.int .u64 (lo a1.num.natAbs), .string (bg a1.num.natAbs), .bool (decide (a1.num < 0)), .int .u64 (lo (a1.den - 1)), .string (bg (a1.den - 1)), .int .u64 (lo a2.num.natAbs), .string (bg a2.num.natAbs), .bool (decide (a2.num < 0)), .int .u64 (lo (a2.den - 1)), .string (bg (a2.den - 1))] ∧ Bx w2 (w.heap.size + 1) 38 #[.int .u64 (lo b1.num.natAbs), .string (bg b1.num.natAbs), .bool (decide (b1.num < 0)), .int .u64 (lo (b1.den - 1)), .string (bg (b1.den - 1)), .int .u64 (lo b2.num.natAbs), .string (bg b2.num.natAbs), .bool (decide (b2.num < 0)), .int .u64 (lo (b2.den - 1)), .string (bg (b2.den - 1))] ∧ Bx w2 (w.heap.size + 1 + 1) 36 #[.int .u64 0, .string ⟨#[]⟩, .bool false, .int .u64 0, .string ⟨#[]⟩] ∧ Below w.heap.size w w2) ⟨((Bx.at rfl).alloc _).alloc _, (Bx.at (by simp)).alloc _, Bx.at (by simp), (((Below.refl _ _).alloc (Nat.le_refl _) _).alloc (by simp) _).alloc (by simp; omega) _⟩ ?_
  rintro Wx ⟨bx0, bx1, bx2, HB⟩
  replace HB := Lib.hid HB
  -- region 1
  obtain ⟨u1, HZ1⟩ : ∃ z, Hid ((a1) * (b1) = z) := ⟨_, Lib.hid rfl⟩
  have su1 : sz u1 ≤ 20000000000 := by rw [← HZ1.out]; have := sz_mul (a1) (b1); omega
  obtain ⟨u2, HZ2⟩ : ∃ z, Hid ((a2) * (b2) = z) := ⟨_, Lib.hid rfl⟩
  have su2 : sz u2 ≤ 20000000000 := by rw [← HZ2.out]; have := sz_mul (a2) (b2); omega
  have HZ3 : Hid ((u1) + (u2) = z) := Lib.hid (by rw [← HZ1.out, ← HZ2.out, ← hz.out])
  have lx0 := bx0.cells
  have lx1 := bx1.cells
  have BX0 := Lib.hid bx0
  have BX1 := Lib.hid bx1
  have BX2 := Lib.hid bx2
  clear bx0 bx1 bx2
  refine wp_seq_k fun K hK => ?_
  replace hK := Lib.hid hK
  refine wp_region_plan 11 [] [] (fun _ => 0) (fun _ => .cells #[] 0) [(true, 0), (true, 1), (true, 2), (true, 3), (true, 5), (true, 6), (true, 7), (true, 8), (true, 4), (true, 9), (true, 10)] (by kernel_rfl) (by kernel_rfl) (fun i hi => by cases hi) (fun i hi => by cases hi) (fun _ _ _ _ _ h => h) (fun T hT => ?_)
  iterate 8
    refine wpPlan_takeL (v := ?_) rfl (by rfl) (fun w' hw => ?_) ?_
    rotate_left
    · go_simp
      with_reducible rfl
    simp only [Act.put, rA, rB, rC]
  refine wpPlan_callL rfl (by rfl) Tryz.call26 (fun w' hw => fmul_any (a1) (b1) (u1) _ HZ1.out (by omega) (by omega)) (by rfl) ?_
  simp only [Act.put, rA, rB, rC]
  refine wpPlan_callL rfl (by rfl) Tryz.call26 (fun w' hw => fmul_any (a2) (b2) (u2) _ HZ2.out (by omega) (by omega)) (by rfl) ?_
  simp only [Act.put, rA, rB, rC]
  refine wpPlan_callL rfl (by rfl) Tryz.call51 (fun w' hw => fadd_any (u1) (u2) (z) _ HZ3.out (by omega) (by omega)) (by rfl) ?_
  simp only [Act.put, rA, rB, rC]
  refine wpPlan_nil (hT.out _ _ ?_); clear hT T
  intro G vw1 hg hf
  simp only [puts, Act.put, rA, rB, rC, rD, rE, ↓reduceIte, Nat.reduceEqDiff]
  clear lx0 lx1
  have HG := Lib.hid (hg)
  clear hg
  replace BX0 := bG BX0 HG
  replace BX1 := bG BX1 HG
  replace BX2 := bG BX2 HG
  have lx2 := BX2.out.cells; have fx2 := BX2.out.free
  have r0 := Gr.refl vw1
  go_wp2
  refine hK.out _ _ ?_; clear hK K
  show Code.wp _ _ _ _ _
  clear lx2 fx2
  clear r0
  refine forgetW (fun w2 => Bx w2 (w.heap.size + 1 + 1) 36 #[.int .u64 (lo z.num.natAbs), .string (bg z.num.natAbs), .bool (decide (z.num < 0)), .int .u64 (lo (z.den - 1)), .string (bg (z.den - 1))] ∧ Below w.heap.size w w2) ⟨((((((BX2.out).set 0 _).set 1 _).set 2 _).set 3 _).set 4 _).eq (by simp only [rA, rB, rC]), sc5 (HB.out.trans (HG.out.mono HB.out.size)) (by show w.heap.size ≤ w.heap.size + 1 + 1; omega)⟩ ?_
  clear HB HG BX0 BX1 BX2
  rintro Wx1 ⟨bx2, HB⟩
  replace HB := Lib.hid HB
  refine wp_ret ?_
  try simp only [Exit.then, Exit.inBlock]
  have lx2 := bx2.cells
  have r0 := Gr.refl Wx1
  exact bodyPost_ret (v := .agg #[.int .u64 (lo z.num.natAbs), .string (bg z.num.natAbs), .bool (decide (z.num < 0)), .int .u64 (lo (z.den - 1)), .string (bg (z.den - 1))]) (by simp [results, Tryz.results27, go_sem, lx2 _ r0]) rfl ⟨rfl, HB.out⟩

set_option maxHeartbeats 1000000 in
theorem pless_1 (a1 a2 b1 b2 : Rat) (r : Bool) (t : Int) (w : World) (ht : Hid (sgQ (a1 - b1) = t)) (h0 : (t == 0) = false) (h1 : (t != 0) = true) (hl : decide (t < 0) = r) (hs_a1 : sz a1 ≤ 10000000000) (hs_a2 : sz a2 ≤ 10000000000) (hs_b1 : sz b1 ≤ 10000000000) (hs_b2 : sz b2 ≤ 10000000000) :
    Calls Tryz.prog 21 #[(Value.agg #[.int .u64 (lo a1.num.natAbs), .string (bg a1.num.natAbs), .bool (decide (a1.num < 0)), .int .u64 (lo (a1.den - 1)), .string (bg (a1.den - 1)), .int .u64 (lo a2.num.natAbs), .string (bg a2.num.natAbs), .bool (decide (a2.num < 0)), .int .u64 (lo (a2.den - 1)), .string (bg (a2.den - 1))]), (Value.agg #[.int .u64 (lo b1.num.natAbs), .string (bg b1.num.natAbs), .bool (decide (b1.num < 0)), .int .u64 (lo (b1.den - 1)), .string (bg (b1.den - 1)), .int .u64 (lo b2.num.natAbs), .string (bg b2.num.natAbs), .bool (decide (b2.num < 0)), .int .u64 (lo (b2.den - 1)), .string (bg (b2.den - 1))])] w fun e w' => e = .returned (.bool (r)) ∧ Below w.heap.size w w' := by
  go_enter Tryz.func21, Tryz.ntmps21
  -- region 0
  refine wp_seq_k fun K hK => ?_
  replace hK := Lib.hid hK
  refine wp_region_lit ?_
  go_wp2
  refine hK.out _ _ ?_; clear hK K
  show Code.wp _ _ _ _ _
  refine forgetW (fun w2 => Bx w2 (w.heap.size) 38 #[.int .u64 (lo a1.num.natAbs), .string (bg a1.num.natAbs), .bool (decide (a1.num < 0)), .int .u64 (lo (a1.den - 1)), .string (bg (a1.den - 1)), .int .u64 (lo a2.num.natAbs), .string (bg a2.num.natAbs), .bool (decide (a2.num < 0)), .int .u64 (lo (a2.den - 1)), .string (bg (a2.den - 1))] ∧ Bx w2 (w.heap.size + 1) 38 #[.int .u64 (lo b1.num.natAbs), .string (bg b1.num.natAbs), .bool (decide (b1.num < 0)), .int .u64 (lo (b1.den - 1)), .string (bg (b1.den - 1)), .int .u64 (lo b2.num.natAbs), .string (bg b2.num.natAbs), .bool (decide (b2.num < 0)), .int .u64 (lo (b2.den - 1)), .string (bg (b2.den - 1))] ∧ Below w.heap.size w w2) ⟨(Bx.at rfl).alloc _, Bx.at (by simp), ((Below.refl _ _).alloc (Nat.le_refl _) _).alloc (by simp) _⟩ ?_
  rintro Wx ⟨bx0, bx1, HB⟩
  replace HB := Lib.hid HB
  refine wp_seq ?_
  -- region 1
  have lx0 := bx0.cells
  have lx1 := bx1.cells
  have BX0 := Lib.hid bx0
  have BX1 := Lib.hid bx1
  clear bx0 bx1
  refine wp_seq_k fun K hK => ?_
  replace hK := Lib.hid hK
  refine wp_region_seqplan 6 [(true, 0), (true, 1), (true, 2), (true, 3), (true, 4), (true, 5)] (by rfl) (by simp) (fun T hT => ?_)
  iterate 4
    refine wpPlan_takeL (v := ?_) rfl (by rfl) (fun w' hw => ?_) ?_
    rotate_left
    · go_simp
      with_reducible rfl
    simp only [Act.put, rA, rB, rC]
  refine wpPlan_callL rfl (by rfl) Tryz.call41 (fun w' hw => fcmp_any (a1) (b1) (t) _ (ht.out) (by omega) (by omega)) (by rfl) ?_
  simp only [Act.put, rA, rB, rC]
  iterate 1
    refine wpPlan_takeL (v := ?_) rfl (by rfl) (fun w' hw => ?_) ?_
    rotate_left
    · go_simp
      with_reducible rfl
    simp only [Act.put, rA, rB, rC]
  refine wpPlan_nil (hT.out _ _ ?_); clear hT T
  intro vw1 hg
  simp only [puts, Act.put, rA, rB, rC, rD, rE, ↓reduceIte, Nat.reduceEqDiff]
  clear lx0 lx1
  have HG := Lib.hid (hg)
  clear hg
  replace BX0 := bG BX0 HG
  replace BX1 := bG BX1 HG
  have r0 := Gr.refl vw1
  go_wp2
  refine hK.out _ _ ?_; clear hK K
  show Code.wp _ _ _ _ _
  clear r0
  refine forgetW (fun w2 => Bx w2 (w.heap.size) 38 #[.int .u64 (lo a1.num.natAbs), .string (bg a1.num.natAbs), .bool (decide (a1.num < 0)), .int .u64 (lo (a1.den - 1)), .string (bg (a1.den - 1)), .int .u64 (lo a2.num.natAbs), .string (bg a2.num.natAbs), .bool (decide (a2.num < 0)), .int .u64 (lo (a2.den - 1)), .string (bg (a2.den - 1))] ∧ Bx w2 (w.heap.size + 1) 38 #[.int .u64 (lo b1.num.natAbs), .string (bg b1.num.natAbs), .bool (decide (b1.num < 0)), .int .u64 (lo (b1.den - 1)), .string (bg (b1.den - 1)), .int .u64 (lo b2.num.natAbs), .string (bg b2.num.natAbs), .bool (decide (b2.num < 0)), .int .u64 (lo (b2.den - 1)), .string (bg (b2.den - 1))] ∧ Below w.heap.size w w2) ⟨BX0.out, BX1.out, HB.out.trans (HG.out.mono HB.out.size)⟩ ?_
  clear HB HG BX0 BX1
  rintro Wx1 ⟨bx0, bx1, HB⟩
  replace HB := Lib.hid HB
  -- region 2
  have BX0 := Lib.hid bx0
  have BX1 := Lib.hid bx1
  clear bx0 bx1
  refine wp_seq_k fun K hK => ?_
  replace hK := Lib.hid hK
  refine wp_region_seqplan 2 [(true, 0), (true, 1)] (by rfl) (by simp) (fun T hT => ?_)
  iterate 2
    refine wpPlan_takeL (v := ?_) rfl (by rfl) (fun w' hw => ?_) ?_
    rotate_left
    · go_simp
      with_reducible rfl
    simp only [Act.put, rA, rB, rC]
  refine wpPlan_nil (hT.out _ _ ?_); clear hT T
  intro vw2 hg
  simp only [puts, Act.put, rA, rB, rC, rD, rE, ↓reduceIte, Nat.reduceEqDiff]
  have HG := Lib.hid (hg)
  clear hg
  replace BX0 := bG BX0 HG
  replace BX1 := bG BX1 HG
  have r0 := Gr.refl vw2
  go_wp2
  refine hK.out _ _ ?_; clear hK K
  show Code.wp _ _ _ _ _
  clear r0
  refine forgetW (fun w2 => Bx w2 (w.heap.size) 38 #[.int .u64 (lo a1.num.natAbs), .string (bg a1.num.natAbs), .bool (decide (a1.num < 0)), .int .u64 (lo (a1.den - 1)), .string (bg (a1.den - 1)), .int .u64 (lo a2.num.natAbs), .string (bg a2.num.natAbs), .bool (decide (a2.num < 0)), .int .u64 (lo (a2.den - 1)), .string (bg (a2.den - 1))] ∧ Bx w2 (w.heap.size + 1) 38 #[.int .u64 (lo b1.num.natAbs), .string (bg b1.num.natAbs), .bool (decide (b1.num < 0)), .int .u64 (lo (b1.den - 1)), .string (bg (b1.den - 1)), .int .u64 (lo b2.num.natAbs), .string (bg b2.num.natAbs), .bool (decide (b2.num < 0)), .int .u64 (lo (b2.den - 1)), .string (bg (b2.den - 1))] ∧ Below w.heap.size w w2) ⟨BX0.out, BX1.out, HB.out.trans (HG.out.mono HB.out.size)⟩ ?_
  clear HB HG BX0 BX1
  rintro Wx2 ⟨bx0, bx1, HB⟩
  replace HB := Lib.hid HB
  refine wp_cond_true (by rfl) ?_
  -- region 3
  have BX0 := Lib.hid bx0
  have BX1 := Lib.hid bx1
  clear bx0 bx1
  refine wp_seq_k fun K hK => ?_
  replace hK := Lib.hid hK
  refine wp_region_seqplan 3 [(true, 0), (true, 1), (true, 2)] (by rfl) (by simp) (fun T hT => ?_)
  iterate 3
    refine wpPlan_takeL (v := ?_) rfl (by rfl) (fun w' hw => ?_) ?_
    rotate_left
    · go_simp
      with_reducible rfl
    simp only [Act.put, rA, rB, rC]
  refine wpPlan_nil (hT.out _ _ ?_); clear hT T
  intro vw3 hg
  simp only [puts, Act.put, rA, rB, rC, rD, rE, ↓reduceIte, Nat.reduceEqDiff]
  have HG := Lib.hid (hg)
  clear hg
  replace BX0 := bG BX0 HG
  replace BX1 := bG BX1 HG
  have r0 := Gr.refl vw3
  go_wp2
  refine hK.out _ _ ?_; clear hK K
  show Code.wp _ _ _ _ _
  clear r0
  refine forgetW (fun w2 => Bx w2 (w.heap.size) 38 #[.int .u64 (lo a1.num.natAbs), .string (bg a1.num.natAbs), .bool (decide (a1.num < 0)), .int .u64 (lo (a1.den - 1)), .string (bg (a1.den - 1)), .int .u64 (lo a2.num.natAbs), .string (bg a2.num.natAbs), .bool (decide (a2.num < 0)), .int .u64 (lo (a2.den - 1)), .string (bg (a2.den - 1))] ∧ Bx w2 (w.heap.size + 1) 38 #[.int .u64 (lo b1.num.natAbs), .string (bg b1.num.natAbs), .bool (decide (b1.num < 0)), .int .u64 (lo (b1.den - 1)), .string (bg (b1.den - 1)), .int .u64 (lo b2.num.natAbs), .string (bg b2.num.natAbs), .bool (decide (b2.num < 0)), .int .u64 (lo (b2.den - 1)), .string (bg (b2.den - 1))] ∧ Below w.heap.size w w2) ⟨BX0.out, BX1.out, HB.out.trans (HG.out.mono HB.out.size)⟩ ?_
  clear HB HG BX0 BX1
  rintro Wx3 ⟨bx0, bx1, HB⟩
  replace HB := Lib.hid HB
  refine wp_ret ?_
  try simp only [Exit.then, Exit.inBlock]
  have r0 := Gr.refl Wx3
  exact bodyPost_ret (v := .bool (r)) (by simp [results, Tryz.results21, go_sem]) rfl ⟨rfl, HB.out⟩

set_option maxHeartbeats 1000000 in
theorem pless_2 (a1 a2 b1 b2 : Rat) (r : Bool) (t u : Int) (w : World) (ht : Hid (sgQ (a1 - b1) = t)) (hu : Hid (sgQ (a2 - b2) = u)) (h0 : (t == 0) = true) (h1 : (t != 0) = false) (hl : decide (u < 0) = r) (hs_a1 : sz a1 ≤ 10000000000) (hs_a2 : sz a2 ≤ 10000000000) (hs_b1 : sz b1 ≤ 10000000000) (hs_b2 : sz b2 ≤ 10000000000) :
    Calls Tryz.prog 21 #[(Value.agg #[.int .u64 (lo a1.num.natAbs), .string (bg a1.num.natAbs), .bool (decide (a1.num < 0)), .int .u64 (lo (a1.den - 1)), .string (bg (a1.den - 1)), .int .u64 (lo a2.num.natAbs), .string (bg a2.num.natAbs), .bool (decide (a2.num < 0)), .int .u64 (lo (a2.den - 1)), .string (bg (a2.den - 1))]), (Value.agg #[.int .u64 (lo b1.num.natAbs), .string (bg b1.num.natAbs), .bool (decide (b1.num < 0)), .int .u64 (lo (b1.den - 1)), .string (bg (b1.den - 1)), .int .u64 (lo b2.num.natAbs), .string (bg b2.num.natAbs), .bool (decide (b2.num < 0)), .int .u64 (lo (b2.den - 1)), .string (bg (b2.den - 1))])] w fun e w' => e = .returned (.bool (r)) ∧ Below w.heap.size w w' := by
  go_enter Tryz.func21, Tryz.ntmps21
  -- region 0
  refine wp_seq_k fun K hK => ?_
  replace hK := Lib.hid hK
  refine wp_region_lit ?_
  go_wp2
  refine hK.out _ _ ?_; clear hK K
  show Code.wp _ _ _ _ _
  refine forgetW (fun w2 => Bx w2 (w.heap.size) 38 #[.int .u64 (lo a1.num.natAbs), .string (bg a1.num.natAbs), .bool (decide (a1.num < 0)), .int .u64 (lo (a1.den - 1)), .string (bg (a1.den - 1)), .int .u64 (lo a2.num.natAbs), .string (bg a2.num.natAbs), .bool (decide (a2.num < 0)), .int .u64 (lo (a2.den - 1)), .string (bg (a2.den - 1))] ∧ Bx w2 (w.heap.size + 1) 38 #[.int .u64 (lo b1.num.natAbs), .string (bg b1.num.natAbs), .bool (decide (b1.num < 0)), .int .u64 (lo (b1.den - 1)), .string (bg (b1.den - 1)), .int .u64 (lo b2.num.natAbs), .string (bg b2.num.natAbs), .bool (decide (b2.num < 0)), .int .u64 (lo (b2.den - 1)), .string (bg (b2.den - 1))] ∧ Below w.heap.size w w2) ⟨(Bx.at rfl).alloc _, Bx.at (by simp), ((Below.refl _ _).alloc (Nat.le_refl _) _).alloc (by simp) _⟩ ?_
  rintro Wx ⟨bx0, bx1, HB⟩
  replace HB := Lib.hid HB
  refine wp_seq ?_
  -- region 1
  have lx0 := bx0.cells
  have lx1 := bx1.cells
  have BX0 := Lib.hid bx0
  have BX1 := Lib.hid bx1
  clear bx0 bx1
  refine wp_seq_k fun K hK => ?_
  replace hK := Lib.hid hK
  refine wp_region_seqplan 6 [(true, 0), (true, 1), (true, 2), (true, 3), (true, 4), (true, 5)] (by rfl) (by simp) (fun T hT => ?_)
  iterate 4
    refine wpPlan_takeL (v := ?_) rfl (by rfl) (fun w' hw => ?_) ?_
    rotate_left
    · go_simp
      with_reducible rfl
    simp only [Act.put, rA, rB, rC]
  refine wpPlan_callL rfl (by rfl) Tryz.call41 (fun w' hw => fcmp_any (a1) (b1) (t) _ (ht.out) (by omega) (by omega)) (by rfl) ?_
  simp only [Act.put, rA, rB, rC]
  iterate 1
    refine wpPlan_takeL (v := ?_) rfl (by rfl) (fun w' hw => ?_) ?_
    rotate_left
    · go_simp
      with_reducible rfl
    simp only [Act.put, rA, rB, rC]
  refine wpPlan_nil (hT.out _ _ ?_); clear hT T
  intro vw1 hg
  simp only [puts, Act.put, rA, rB, rC, rD, rE, ↓reduceIte, Nat.reduceEqDiff]
  clear lx0 lx1
  have HG := Lib.hid (hg)
  clear hg
  replace BX0 := bG BX0 HG
  replace BX1 := bG BX1 HG
  have r0 := Gr.refl vw1
  go_wp2
  refine hK.out _ _ ?_; clear hK K
  show Code.wp _ _ _ _ _
  clear r0
  refine forgetW (fun w2 => Bx w2 (w.heap.size) 38 #[.int .u64 (lo a1.num.natAbs), .string (bg a1.num.natAbs), .bool (decide (a1.num < 0)), .int .u64 (lo (a1.den - 1)), .string (bg (a1.den - 1)), .int .u64 (lo a2.num.natAbs), .string (bg a2.num.natAbs), .bool (decide (a2.num < 0)), .int .u64 (lo (a2.den - 1)), .string (bg (a2.den - 1))] ∧ Bx w2 (w.heap.size + 1) 38 #[.int .u64 (lo b1.num.natAbs), .string (bg b1.num.natAbs), .bool (decide (b1.num < 0)), .int .u64 (lo (b1.den - 1)), .string (bg (b1.den - 1)), .int .u64 (lo b2.num.natAbs), .string (bg b2.num.natAbs), .bool (decide (b2.num < 0)), .int .u64 (lo (b2.den - 1)), .string (bg (b2.den - 1))] ∧ Below w.heap.size w w2) ⟨BX0.out, BX1.out, HB.out.trans (HG.out.mono HB.out.size)⟩ ?_
  clear HB HG BX0 BX1
  rintro Wx1 ⟨bx0, bx1, HB⟩
  replace HB := Lib.hid HB
  -- region 2
  have BX0 := Lib.hid bx0
  have BX1 := Lib.hid bx1
  clear bx0 bx1
  refine wp_seq_k fun K hK => ?_
  replace hK := Lib.hid hK
  refine wp_region_seqplan 2 [(true, 0), (true, 1)] (by rfl) (by simp) (fun T hT => ?_)
  iterate 2
    refine wpPlan_takeL (v := ?_) rfl (by rfl) (fun w' hw => ?_) ?_
    rotate_left
    · go_simp
      with_reducible rfl
    simp only [Act.put, rA, rB, rC]
  refine wpPlan_nil (hT.out _ _ ?_); clear hT T
  intro vw2 hg
  simp only [puts, Act.put, rA, rB, rC, rD, rE, ↓reduceIte, Nat.reduceEqDiff]
  have HG := Lib.hid (hg)
  clear hg
  replace BX0 := bG BX0 HG
  replace BX1 := bG BX1 HG
  have r0 := Gr.refl vw2
  go_wp2
  refine hK.out _ _ ?_; clear hK K
  show Code.wp _ _ _ _ _
  clear r0
  refine forgetW (fun w2 => Bx w2 (w.heap.size) 38 #[.int .u64 (lo a1.num.natAbs), .string (bg a1.num.natAbs), .bool (decide (a1.num < 0)), .int .u64 (lo (a1.den - 1)), .string (bg (a1.den - 1)), .int .u64 (lo a2.num.natAbs), .string (bg a2.num.natAbs), .bool (decide (a2.num < 0)), .int .u64 (lo (a2.den - 1)), .string (bg (a2.den - 1))] ∧ Bx w2 (w.heap.size + 1) 38 #[.int .u64 (lo b1.num.natAbs), .string (bg b1.num.natAbs), .bool (decide (b1.num < 0)), .int .u64 (lo (b1.den - 1)), .string (bg (b1.den - 1)), .int .u64 (lo b2.num.natAbs), .string (bg b2.num.natAbs), .bool (decide (b2.num < 0)), .int .u64 (lo (b2.den - 1)), .string (bg (b2.den - 1))] ∧ Below w.heap.size w w2) ⟨BX0.out, BX1.out, HB.out.trans (HG.out.mono HB.out.size)⟩ ?_
  clear HB HG BX0 BX1
  rintro Wx2 ⟨bx0, bx1, HB⟩
  replace HB := Lib.hid HB
  refine wp_cond_false (by rfl) ?_
  refine wp_skip ?_
  show Code.wp _ _ _ _ _
  -- region 4
  have lx0 := bx0.cells
  have lx1 := bx1.cells
  have BX0 := Lib.hid bx0
  have BX1 := Lib.hid bx1
  clear bx0 bx1
  refine wp_seq_k fun K hK => ?_
  replace hK := Lib.hid hK
  refine wp_region_seqplan 7 [(true, 0), (true, 1), (true, 2), (true, 3), (true, 4), (true, 5), (true, 6)] (by rfl) (by simp) (fun T hT => ?_)
  iterate 4
    refine wpPlan_takeL (v := ?_) rfl (by rfl) (fun w' hw => ?_) ?_
    rotate_left
    · go_simp
      with_reducible rfl
    simp only [Act.put, rA, rB, rC]
  refine wpPlan_callL rfl (by rfl) Tryz.call41 (fun w' hw => fcmp_any (a2) (b2) (u) _ (hu.out) (by omega) (by omega)) (by rfl) ?_
  simp only [Act.put, rA, rB, rC]
  iterate 2
    refine wpPlan_takeL (v := ?_) rfl (by rfl) (fun w' hw => ?_) ?_
    rotate_left
    · go_simp
      with_reducible rfl
    simp only [Act.put, rA, rB, rC]
  refine wpPlan_nil (hT.out _ _ ?_); clear hT T
  intro vw3 hg
  simp only [puts, Act.put, rA, rB, rC, rD, rE, ↓reduceIte, Nat.reduceEqDiff]
  clear lx0 lx1
  have HG := Lib.hid (hg)
  clear hg
  replace BX0 := bG BX0 HG
  replace BX1 := bG BX1 HG
  have r0 := Gr.refl vw3
  go_wp2
  refine hK.out _ _ ?_; clear hK K
  show Code.wp _ _ _ _ _
  clear r0
  refine forgetW (fun w2 => Below w.heap.size w w2) (HB.out.trans (HG.out.mono HB.out.size)) ?_
  clear HB HG BX0 BX1
  rintro Wx4 HB
  replace HB := Lib.hid HB
  refine wp_ret ?_
  try simp only [Exit.then, Exit.inBlock]
  have r0 := Gr.refl Wx4
  exact bodyPost_ret (v := .bool (r)) (by simp [results, Tryz.results21, go_sem]) rfl ⟨rfl, HB.out⟩

/-- the order of points -/
def plt (a1 a2 b1 b2 : Rat) : Bool := if a1 = b1 then decide (a2 < b2) else decide (a1 < b1)
theorem sgQ_lt (x y : Rat) : decide (sgQ (x - y) < 0) = decide (x < y) := by
  apply decide_eq_decide.2
  unfold sgQ
  by_cases h : x - y = 0
  · have : x = y := by grind
    subst this
    simp [Rat.lt_irrefl, Rat.sub_self]
  · rw [if_neg h]
    by_cases h2 : x - y < 0
    · rw [if_pos h2]
      have : x < y := by grind
      simp [this]
    · rw [if_neg h2]
      have : ¬ x < y := by grind
      simp [this]
theorem sgQ_eq_zero (x y : Rat) : sgQ (x - y) = 0 ↔ x = y := by
  unfold sgQ
  constructor
  · intro h
    split at h
    · grind
    · split at h <;> simp at h
  · intro h; subst h; rw [Rat.sub_self]; rfl
theorem pless_any (a1 a2 b1 b2 : Rat) (r : Bool) (w : World) (hr : plt a1 a2 b1 b2 = r) (hs_a1 : sz a1 ≤ 10000000000) (hs_a2 : sz a2 ≤ 10000000000) (hs_b1 : sz b1 ≤ 10000000000) (hs_b2 : sz b2 ≤ 10000000000) :
    Calls Tryz.prog 21 #[(Value.agg #[.int .u64 (lo a1.num.natAbs), .string (bg a1.num.natAbs), .bool (decide (a1.num < 0)), .int .u64 (lo (a1.den - 1)), .string (bg (a1.den - 1)), .int .u64 (lo a2.num.natAbs), .string (bg a2.num.natAbs), .bool (decide (a2.num < 0)), .int .u64 (lo (a2.den - 1)), .string (bg (a2.den - 1))]), (Value.agg #[.int .u64 (lo b1.num.natAbs), .string (bg b1.num.natAbs), .bool (decide (b1.num < 0)), .int .u64 (lo (b1.den - 1)), .string (bg (b1.den - 1)), .int .u64 (lo b2.num.natAbs), .string (bg b2.num.natAbs), .bool (decide (b2.num < 0)), .int .u64 (lo (b2.den - 1)), .string (bg (b2.den - 1))])] w fun e w' => e = .returned (.bool r) ∧ Below w.heap.size w w' := by
  unfold plt at hr
  by_cases h : a1 = b1
  · rw [if_pos h] at hr
    have h0 : sgQ (a1 - b1) = 0 := (sgQ_eq_zero _ _).2 h
    exact pless_2 a1 a2 b1 b2 r (sgQ (a1 - b1)) (sgQ (a2 - b2)) w (Lib.hid rfl) (Lib.hid rfl) (by rw [h0]; rfl) (by rw [h0]; rfl) (by rw [sgQ_lt]; exact hr) hs_a1 hs_a2 hs_b1 hs_b2
  · rw [if_neg h] at hr
    have h0 : sgQ (a1 - b1) ≠ 0 := fun e => h ((sgQ_eq_zero _ _).1 e)
    exact pless_1 a1 a2 b1 b2 r (sgQ (a1 - b1)) w (Lib.hid rfl) (by simpa using h0) (by simpa using h0) (by rw [sgQ_lt]; exact hr) hs_a1 hs_a2 hs_b1 hs_b2

/-- the orientation of three points -/
def turn (a1 a2 b1 b2 c1 c2 : Rat) : Int := sgQ ((b1 - a1) * (c2 - a2) - (b2 - a2) * (c1 - a1))
set_option maxHeartbeats 1000000 in
theorem pturn_any (a1 a2 b1 b2 c1 c2 : Rat) (t : Int) (w : World) (ht : turn a1 a2 b1 b2 c1 c2 = t) (hs_a1 : sz a1 ≤ 1000000000) (hs_a2 : sz a2 ≤ 1000000000) (hs_b1 : sz b1 ≤ 1000000000) (hs_b2 : sz b2 ≤ 1000000000) (hs_c1 : sz c1 ≤ 1000000000) (hs_c2 : sz c2 ≤ 1000000000) :
    Calls Tryz.prog 6 #[(Value.agg #[.int .u64 (lo a1.num.natAbs), .string (bg a1.num.natAbs), .bool (decide (a1.num < 0)), .int .u64 (lo (a1.den - 1)), .string (bg (a1.den - 1)), .int .u64 (lo a2.num.natAbs), .string (bg a2.num.natAbs), .bool (decide (a2.num < 0)), .int .u64 (lo (a2.den - 1)), .string (bg (a2.den - 1))]), (Value.agg #[.int .u64 (lo b1.num.natAbs), .string (bg b1.num.natAbs), .bool (decide (b1.num < 0)), .int .u64 (lo (b1.den - 1)), .string (bg (b1.den - 1)), .int .u64 (lo b2.num.natAbs), .string (bg b2.num.natAbs), .bool (decide (b2.num < 0)), .int .u64 (lo (b2.den - 1)), .string (bg (b2.den - 1))]), (Value.agg #[.int .u64 (lo c1.num.natAbs), .string (bg c1.num.natAbs), .bool (decide (c1.num < 0)), .int .u64 (lo (c1.den - 1)), .string (bg (c1.den - 1)), .int .u64 (lo c2.num.natAbs), .string (bg c2.num.natAbs), .bool (decide (c2.num < 0)), .int .u64 (lo (c2.den - 1)), .string (bg (c2.den - 1))])] w fun e w' => e = .returned (.int .i64 (t)) ∧ Below w.heap.size w w' := by
  replace ht := Lib.hid ht
  go_enter Tryz.func6, Tryz.ntmps6
  -- region 0
  refine wp_seq_k fun K hK => ?_
  replace hK := Lib.hid hK
  refine wp_region_lit ?_
  go_wp2
  refine hK.out _ _ ?_; clear hK K
  show Code.wp _ _ _ _ _
  refine forgetW (fun w2 => Bx w2 (w.heap.size) 38 #[.int .u64 (lo a1.num.natAbs), .string (bg a1.num.natAbs), .bool (decide (a1.num < 0)), .int .u64 (lo (a1.den - 1)), .string (bg (a1.den - 1)), .int .u64 (lo a2.num.natAbs), .string (bg a2.num.natAbs), .bool (decide (a2.num < 0)), .int .u64 (lo (a2.den - 1)), .string (bg (a2.den - 1))] ∧ Bx w2 (w.heap.size + 1) 38 #[.int .u64 (lo b1.num.natAbs), .string (bg b1.num.natAbs), .bool (decide (b1.num < 0)), .int .u64 (lo (b1.den - 1)), .string (bg (b1.den - 1)), .int .u64 (lo b2.num.natAbs), .string (bg b2.num.natAbs), .bool (decide (b2.num < 0)), .int .u64 (lo (b2.den - 1)), .string (bg (b2.den - 1))] ∧ Bx w2 (w.heap.size + 1 + 1) 38 #[.int .u64 (lo c1.num.natAbs), .string (bg c1.num.natAbs), .bool (decide (c1.num < 0)), .int .u64 (lo (c1.den - 1)), .string (bg (c1.den - 1)), .int .u64 (lo c2.num.natAbs), .string (bg c2.num.natAbs), .bool (decide (c2.num < 0)), .int .u64 (lo (c2.den - 1)), .string (bg (c2.den - 1))] ∧ Below w.heap.size w w2) ⟨((Bx.at rfl).alloc _).alloc _, (Bx.at (by simp)).alloc _, Bx.at (by simp), (((Below.refl _ _).alloc (Nat.le_refl _) _).alloc (by simp) _).alloc (by simp; omega) _⟩ ?_
  rintro Wx ⟨bx0, bx1, bx2, HB⟩
  replace HB := Lib.hid HB
  -- region 1
  obtain ⟨u1, HZ1⟩ : ∃ z, Hid ((b1) - (a1) = z) := ⟨_, Lib.hid rfl⟩
  have su1 : sz u1 ≤ 2000000001 := by rw [← HZ1.out]; have := sz_sub (b1) (a1); omega
  obtain ⟨u2, HZ2⟩ : ∃ z, Hid ((b2) - (a2) = z) := ⟨_, Lib.hid rfl⟩
  have su2 : sz u2 ≤ 2000000001 := by rw [← HZ2.out]; have := sz_sub (b2) (a2); omega
  obtain ⟨u3, HZ3⟩ : ∃ z, Hid ((c1) - (a1) = z) := ⟨_, Lib.hid rfl⟩
  have su3 : sz u3 ≤ 2000000001 := by rw [← HZ3.out]; have := sz_sub (c1) (a1); omega
  obtain ⟨u4, HZ4⟩ : ∃ z, Hid ((c2) - (a2) = z) := ⟨_, Lib.hid rfl⟩
  have su4 : sz u4 ≤ 2000000001 := by rw [← HZ4.out]; have := sz_sub (c2) (a2); omega
  obtain ⟨u5, HZ5⟩ : ∃ z, Hid ((u1) * (u4) - (u2) * (u3) = z) := ⟨_, Lib.hid rfl⟩
  have su5 : sz u5 ≤ 8000000005 := by rw [← HZ5.out]; have := sz_cross (u1) (u2) (u3) (u4); omega
  have lx0 := bx0.cells
  have lx1 := bx1.cells
  have lx2 := bx2.cells
  have BX0 := Lib.hid bx0
  have BX1 := Lib.hid bx1
  have BX2 := Lib.hid bx2
  clear bx0 bx1 bx2
  refine wp_seq_k fun K hK => ?_
  replace hK := Lib.hid hK
  refine wp_region_plan 8 [] [] (fun _ => 0) (fun _ => .cells #[] 0) [(true, 0), (true, 1), (true, 3), (true, 4), (true, 2), (true, 5), (true, 6), (true, 7)] (by kernel_rfl) (by kernel_rfl) (fun i hi => by cases hi) (fun i hi => by cases hi) (fun _ _ _ _ _ h => h) (fun T hT => ?_)
  iterate 4
    refine wpPlan_takeL (v := ?_) rfl (by rfl) (fun w' hw => ?_) ?_
    rotate_left
    · go_simp
      with_reducible rfl
    simp only [Act.put, rA, rB, rC]
  refine wpPlan_callL rfl (by rfl) Tryz.call17 (fun w' hw => psub_any (b1) (b2) (a1) (a2) (u1) (u2) _ HZ1.out HZ2.out (by omega) (by omega) (by omega) (by omega)) (by rfl) ?_
  simp only [Act.put, rA, rB, rC]
  refine wpPlan_callL rfl (by rfl) Tryz.call17 (fun w' hw => psub_any (c1) (c2) (a1) (a2) (u3) (u4) _ HZ3.out HZ4.out (by omega) (by omega) (by omega) (by omega)) (by rfl) ?_
  simp only [Act.put, rA, rB, rC]
  refine wpPlan_callL rfl (by rfl) Tryz.call16 (fun w' hw => pcross_any (u1) (u2) (u3) (u4) (u5) _ HZ5.out (by omega) (by omega) (by omega) (by omega)) (by rfl) ?_
  simp only [Act.put, rA, rB, rC]
  refine wpPlan_callL rfl (by rfl) Tryz.call15 (fun w' hw => fsign_any (u5) (t) _ (by rw [← HZ5.out, ← HZ1.out, ← HZ2.out, ← HZ3.out, ← HZ4.out]; exact ht.out)) (by rfl) ?_
  simp only [Act.put, rA, rB, rC]
  refine wpPlan_nil (hT.out _ _ ?_); clear hT T
  intro G vw1 hg hf
  simp only [puts, Act.put, rA, rB, rC, rD, rE, ↓reduceIte, Nat.reduceEqDiff]
  clear lx0 lx1 lx2
  have HG := Lib.hid (hg)
  clear hg
  replace BX0 := bG BX0 HG
  replace BX1 := bG BX1 HG
  replace BX2 := bG BX2 HG
  have r0 := Gr.refl vw1
  go_wp2
  refine hK.out _ _ ?_; clear hK K
  show Code.wp _ _ _ _ _
  clear r0
  refine forgetW (fun w2 => Below w.heap.size w w2) (HB.out.trans (HG.out.mono HB.out.size)) ?_
  clear HB HG BX0 BX1 BX2
  rintro Wx1 HB
  replace HB := Lib.hid HB
  refine wp_ret ?_
  try simp only [Exit.then, Exit.inBlock]
  have r0 := Gr.refl Wx1
  exact bodyPost_ret (v := .int .i64 (t)) (by simp [results, Tryz.results6, go_sem]) rfl ⟨rfl, HB.out⟩

set_option maxHeartbeats 1000000 in
theorem ppint_any (n m : Int) (z1 z2 : Rat) (w : World) (hz1 : (n : Rat) = z1) (hz2 : (m : Rat) = z2) (h1 : -9223372036854775808 ≤ n) (h2 : n ≤ 9223372036854775807) (h3 : -9223372036854775808 ≤ m) (h4 : m ≤ 9223372036854775807) :
    Calls Tryz.prog 31 #[.int .i64 (n), .int .i64 (m)] w fun e w' => e = .returned (.agg #[.int .u64 (lo z1.num.natAbs), .string (bg z1.num.natAbs), .bool (decide (z1.num < 0)), .int .u64 (lo (z1.den - 1)), .string (bg (z1.den - 1)), .int .u64 (lo z2.num.natAbs), .string (bg z2.num.natAbs), .bool (decide (z2.num < 0)), .int .u64 (lo (z2.den - 1)), .string (bg (z2.den - 1))]) ∧ Below w.heap.size w w' := by
  replace hz1 := Lib.hid hz1
  replace hz2 := Lib.hid hz2
  go_enter Tryz.func31, Tryz.ntmps31
  -- region 0
  refine wp_seq_k fun K hK => ?_
  replace hK := Lib.hid hK
  refine wp_region_lit ?_
  go_wp2
  refine hK.out _ _ ?_; clear hK K
  show Code.wp _ _ _ _ _
  refine forgetW (fun w2 => Bx w2 (w.heap.size) 38 #[.int .u64 0, .string ⟨#[]⟩, .bool false, .int .u64 0, .string ⟨#[]⟩, .int .u64 0, .string ⟨#[]⟩, .bool false, .int .u64 0, .string ⟨#[]⟩] ∧ Below w.heap.size w w2) ⟨Bx.at rfl, (Below.refl _ _).alloc (Nat.le_refl _) _⟩ ?_
  rintro Wx ⟨bx0, HB⟩
  replace HB := Lib.hid HB
  -- region 1
  have HZ1 : Hid (((n : Int) : Rat) = z1) := Lib.hid (hz1.out)
  have HZ2 : Hid (((m : Int) : Rat) = z2) := Lib.hid (hz2.out)
  have BX0 := Lib.hid bx0
  clear bx0
  refine wp_seq_k fun K hK => ?_
  replace hK := Lib.hid hK
  refine wp_region_seqplan 5 [(true, 0), (true, 1), (true, 2), (true, 3), (true, 4)] (by rfl) (by simp) (fun T hT => ?_)
  iterate 1
    refine wpPlan_takeL (v := ?_) rfl (by rfl) (fun w' hw => ?_) ?_
    rotate_left
    · go_simp
      with_reducible rfl
    simp only [Act.put, rA, rB, rC]
  refine wpPlan_callL rfl (by rfl) Tryz.call55 (fun w' hw => fint_any (n) (z1) _ HZ1.out (by omega) (by omega)) (by rfl) ?_
  simp only [Act.put, rA, rB, rC]
  iterate 1
    refine wpPlan_takeL (v := ?_) rfl (by rfl) (fun w' hw => ?_) ?_
    rotate_left
    · go_simp
      with_reducible rfl
    simp only [Act.put, rA, rB, rC]
  refine wpPlan_callL rfl (by rfl) Tryz.call55 (fun w' hw => fint_any (m) (z2) _ HZ2.out (by omega) (by omega)) (by rfl) ?_
  simp only [Act.put, rA, rB, rC]
  iterate 1
    refine wpPlan_takeL (v := ?_) rfl (by rfl) (fun w' hw => ?_) ?_
    rotate_left
    · go_simp
      with_reducible rfl
    simp only [Act.put, rA, rB, rC]
  refine wpPlan_nil (hT.out _ _ ?_); clear hT T
  intro vw1 hg
  simp only [puts, Act.put, rA, rB, rC, rD, rE, ↓reduceIte, Nat.reduceEqDiff]
  have HG := Lib.hid (hg)
  clear hg
  replace BX0 := bG BX0 HG
  have lx0 := BX0.out.cells; have fx0 := BX0.out.free
  have r0 := Gr.refl vw1
  go_wp2
  refine hK.out _ _ ?_; clear hK K
  show Code.wp _ _ _ _ _
  clear lx0 fx0
  clear r0
  refine forgetW (fun w2 => Bx w2 (w.heap.size) 38 #[.int .u64 (lo z1.num.natAbs), .string (bg z1.num.natAbs), .bool (decide (z1.num < 0)), .int .u64 (lo (z1.den - 1)), .string (bg (z1.den - 1)), .int .u64 (lo z2.num.natAbs), .string (bg z2.num.natAbs), .bool (decide (z2.num < 0)), .int .u64 (lo (z2.den - 1)), .string (bg (z2.den - 1))] ∧ Below w.heap.size w w2) ⟨(((((((((((BX0.out).set 0 _).set 1 _).set 2 _).set 3 _).set 4 _).set 5 _).set 6 _).set 7 _).set 8 _).set 9 _).eq (by simp only [rA, rB, rC]), sc10 (HB.out.trans (HG.out.mono HB.out.size)) (by show w.heap.size ≤ w.heap.size; omega)⟩ ?_
  clear HB HG BX0
  rintro Wx1 ⟨bx0, HB⟩
  replace HB := Lib.hid HB
  refine wp_ret ?_
  try simp only [Exit.then, Exit.inBlock]
  have lx0 := bx0.cells
  have r0 := Gr.refl Wx1
  exact bodyPost_ret (v := .agg #[.int .u64 (lo z1.num.natAbs), .string (bg z1.num.natAbs), .bool (decide (z1.num < 0)), .int .u64 (lo (z1.den - 1)), .string (bg (z1.den - 1)), .int .u64 (lo z2.num.natAbs), .string (bg z2.num.natAbs), .bool (decide (z2.num < 0)), .int .u64 (lo (z2.den - 1)), .string (bg (z2.den - 1))]) (by simp [results, Tryz.results31, go_sem, lx0 _ r0]) rfl ⟨rfl, HB.out⟩

end Go.Proofs.YtenpbnmmadbkdaaGreat


/- fracs: add, each, Sum. -/
namespace Go.Proofs.YtenpbnmmadbkdaaGreat
open Go.RowKit
set_option linter.unusedSimpArgs false
set_option linter.unusedVariables false
attribute [local go_sem ↓] Go.wp_at_zero Go.wp_at_succ
set_option maxHeartbeats 1000000 in
theorem tadd_any (q a z : Rat) (g B : Nat) (w : World) (bx9 : Bx w g 86 #[.int .u64 (lo q.num.natAbs), .string (bg q.num.natAbs), .bool (decide (q.num < 0)), .int .u64 (lo (q.den - 1)), .string (bg (q.den - 1))]) (hB : B ≤ w.heap.size) (hBg : B ≤ g) (hz : q + a = z) (hs_q : sz q ≤ 10000000000) (hs_a : sz a ≤ 10000000000) :
    Calls Tryz.prog 44 #[.pointer (some ⟨g, 0, none⟩), (Value.agg #[.int .u64 (lo a.num.natAbs), .string (bg a.num.natAbs), .bool (decide (a.num < 0)), .int .u64 (lo (a.den - 1)), .string (bg (a.den - 1))])] w fun e w' => e = .returned (.tuple #[]) ∧ Below B w w' ∧ Bx w' g 86 #[.int .u64 (lo z.num.natAbs), .string (bg z.num.natAbs), .bool (decide (z.num < 0)), .int .u64 (lo (z.den - 1)), .string (bg (z.den - 1))] := by
  replace hz := Lib.hid hz
  go_enter Tryz.func44, Tryz.ntmps44
  have e9 := bx9.lt
  -- region 0
  refine wp_seq_k fun K hK => ?_
  replace hK := Lib.hid hK
  refine wp_region_lit ?_
  go_wp2
  refine hK.out _ _ ?_; clear hK K
  show Code.wp _ _ _ _ _
  refine forgetW (fun w2 => Bx w2 g 86 #[.int .u64 (lo q.num.natAbs), .string (bg q.num.natAbs), .bool (decide (q.num < 0)), .int .u64 (lo (q.den - 1)), .string (bg (q.den - 1))] ∧ Bx w2 (w.heap.size) 36 #[.int .u64 (lo a.num.natAbs), .string (bg a.num.natAbs), .bool (decide (a.num < 0)), .int .u64 (lo (a.den - 1)), .string (bg (a.den - 1))] ∧ Below B w w2) ⟨(bx9).alloc _, Bx.at rfl, (Below.refl _ _).alloc (by first | omega | (simp; omega)) _⟩ ?_
  clear bx9
  rintro Wx ⟨bx9, bx10, HB⟩
  replace HB := Lib.hid HB
  -- region 1
  have HZ1 : Hid ((q) + (a) = z) := Lib.hid (hz.out)
  have lx9 := bx9.cells
  have lx10 := bx10.cells
  have BX9 := Lib.hid bx9
  have BX10 := Lib.hid bx10
  clear bx9 bx10
  refine wp_last_k fun K hK => ?_
  replace hK := Lib.hid hK
  refine wp_region_plan 9 [] [] (fun _ => 0) (fun _ => .cells #[] 0) [(true, 0), (true, 1), (true, 2), (true, 3), (true, 4), (true, 5), (true, 6), (true, 7), (true, 8)] (by kernel_rfl) (by kernel_rfl) (fun i hi => by cases hi) (fun i hi => by cases hi) (fun _ _ _ _ _ h => h) (fun T hT => ?_)
  iterate 6
    refine wpPlan_takeL (v := ?_) rfl (by rfl) (fun w' hw => ?_) ?_
    rotate_left
    · go_simp
      with_reducible rfl
    simp only [Act.put, rA, rB, rC]
  refine wpPlan_callL rfl (by rfl) Tryz.call51 (fun w' hw => fadd_any (q) (a) (z) _ HZ1.out (by omega) (by omega)) (by rfl) ?_
  simp only [Act.put, rA, rB, rC]
  iterate 2
    refine wpPlan_takeL (v := ?_) rfl (by rfl) (fun w' hw => ?_) ?_
    rotate_left
    · go_simp
      with_reducible rfl
    simp only [Act.put, rA, rB, rC]
  refine wpPlan_nil (hT.out _ _ ?_); clear hT T
  intro G vw1 hg hf
  simp only [puts, Act.put, rA, rB, rC, rD, rE, ↓reduceIte, Nat.reduceEqDiff]
  clear lx9 lx10
  have HG := Lib.hid (hg)
  clear hg
  replace BX9 := bG BX9 HG
  replace BX10 := bG BX10 HG
  have lx9 := BX9.out.cells; have fx9 := BX9.out.free
  have r0 := Gr.refl vw1
  go_wp2
  refine hK.out _ _ ?_; clear hK K
  try simp only [Exit.then, Exit.inBlock]
  clear lx9 fx9
  clear r0
  refine forgetB (fun w2 => Bx w2 g 86 #[.int .u64 (lo z.num.natAbs), .string (bg z.num.natAbs), .bool (decide (z.num < 0)), .int .u64 (lo (z.den - 1)), .string (bg (z.den - 1))] ∧ Below B w w2) ⟨((((((BX9.out).set 0 _).set 1 _).set 2 _).set 3 _).set 4 _).eq (by simp only [rA, rB, rC]), sc5 (HB.out.trans (HG.out.mono (Nat.le_trans hB HB.out.size))) (by show B ≤ g; omega)⟩ ?_
  clear HB HG BX9 BX10
  rintro Wx1 ⟨bx9, HB⟩
  replace HB := Lib.hid HB
  have r0 := Gr.refl Wx1
  exact bodyPost_end (v := .tuple #[]) (by simp [results, Tryz.results44, go_sem]) rfl ⟨rfl, HB.out, bx9⟩


/-- the cells of a fraction -/
def fcells (q : Rat) : List Value := [.int .u64 (lo q.num.natAbs), .string (bg q.num.natAbs), .bool (decide (q.num < 0)), .int .u64 (lo (q.den - 1)), .string (bg (q.den - 1))]
theorem fcells_at (l : List Rat) (i j : Nat) (hi : i < l.length) (hj : j < 5) : (l.flatMap fcells)[5 * i + j]? = (fcells (l[i]))[j]? := by
  induction l generalizing i with
  | nil => simp at hi
  | cons q l ih =>
    rw [List.flatMap_cons]
    cases i with
    | zero =>
      rw [List.getElem?_append_left (by simp [fcells]; omega)]
      simp
    | succ i =>
      rw [List.getElem?_append_right (by simp [fcells]; omega)]
      have e : 5 * (i + 1) + j - (fcells q).length = 5 * i + j := by simp [fcells]; omega
      rw [e, ih i (by simpa using hi)]
      simp
/-- the sum of the first k -/
def psum (l : List Rat) (k : Nat) : Rat := (l.take k).foldl (· + ·) 0
theorem psum_succ (l : List Rat) (k : Nat) (h : k < l.length) : psum l k + l[k] = psum l (k + 1) := by
  unfold psum
  rw [List.take_succ_eq_append_getElem h, List.foldl_append]
  rfl
theorem sz_psum (l : List Rat) (M : Nat) (h : ∀ q ∈ l, sz q ≤ M) (k : Nat) (hk : k ≤ l.length) : sz (psum l k) ≤ 1 + k * (M + 1) := by
  induction k with
  | zero =>
    have e : psum l 0 = 0 := by simp [psum]
    rw [e]
    exact Nat.le_trans (sz_of (wl_small (by decide)) (wl_small (by decide))) (Nat.le_add_right 1 _)
  | succ k ih =>
    rw [← psum_succ l k (by omega)]
    have h1 := sz_add (psum l k) l[k]
    have h2 := ih (by omega)
    have h3 := h l[k] (List.getElem_mem _)
    have h4 : (k + 1) * (M + 1) = k * (M + 1) + (M + 1) := by rw [Nat.succ_mul]
    omega
set_option maxHeartbeats 1000000 in
theorem each_any (l : List Rat) (g b c B : Nat) (w : World) (hb : Bx w b 36 (l.flatMap fcells).toArray) (hbB : b < B) (bx : Bx w g 86 #[.int .u64 0, .string ⟨#[]⟩, .bool false, .int .u64 0, .string ⟨#[]⟩]) (hB : B ≤ w.heap.size) (hBg : B ≤ g)
    (hc : c ≤ 1000000) (hl : l.length = c) (hs : ∀ q ∈ l, sz q ≤ 1000) :
    Calls Tryz.prog 43 #[.func (.func 44) #[.pointer (some ⟨g, 0, none⟩)] #[], .slice (some ⟨b, 0, none⟩) c c] w fun e w' => e = .returned (.tuple #[]) ∧ Below B w w' ∧ Bx w' g 86 #[.int .u64 ((lo (Int.natAbs ((psum l c).num)) : Nat) : Int), .string (bg (Int.natAbs ((psum l c).num))), .bool (decide (((psum l c).num) < 0)), .int .u64 (lo ((psum l c).den - 1)), .string (bg ((psum l c).den - 1))] := by
  have HS := Lib.hid hs
  have HL := Lib.hid hl
  clear hs hl
  go_enter Tryz.func43, Tryz.ntmps43
  go_wp2
  go_loopw [8] (fun i wr => ∃ k : Nat, k ≤ c ∧ i = .int .i64 k ∧ Below B w wr ∧ Bx wr g 86 #[.int .u64 ((lo (Int.natAbs ((psum l k).num)) : Nat) : Int), .string (bg (Int.natAbs ((psum l k).num))), .bool (decide (((psum l k).num) < 0)), .int .u64 (lo ((psum l k).den - 1)), .string (bg ((psum l k).den - 1))]) (fun i _ => c - (intOf i).toNat)
  case atStart => exact ⟨0, Nat.zero_le _, rfl, Below.refl _ _, bx⟩
  case round =>
    obtain ⟨k, hk, rfl, hbel, hbx⟩ := hrel
    by_cases hlt : k < c
    · have hkl : k < l.length := by rw [HL.out]; exact hlt
      have hcell : ∀ j, j < 5 → wr.cell? ⟨b, k * 5 + j, none⟩ = (fcells l[k])[j]? := fun j hj => by
        rw [Nat.mul_comm k 5]
        have h1 := hb.below hbel hbB
        have h2 := h1.cells wr (Gr.refl wr) (5 * k + j)
        rw [h2, List.getElem?_toArray]
        exact fcells_at l k j hkl hj
      obtain ⟨q, HQ⟩ : ∃ q, Hid (l[k] = q) := ⟨_, Lib.hid rfl⟩
      have HSQ : sz q ≤ 1000 := by rw [← HQ.out]; exact HS.out _ (List.getElem_mem _)
      rw [HQ.out] at hcell
      have c0 := hcell 0 (by decide)
      have c1 := hcell 1 (by decide)
      have c2 := hcell 2 (by decide)
      have c3 := hcell 3 (by decide)
      have c4 := hcell 4 (by decide)
      clear hcell
      simp [fcells] at c0 c1 c2 c3 c4
      have HB := Lib.hid hbel
      have HX := Lib.hid hbx
      have hsz := Nat.le_trans hB hbel.size
      have hsp : sz (psum l k) ≤ 10000000000 := by
        have h1 := sz_psum l 1000 HS.out k (by omega)
        have h2 : k * 1001 ≤ 1000000 * 1001 := Nat.mul_le_mul_right _ (by omega)
        omega
      have HP : Hid (psum l k + q = psum l (k + 1)) := by show _ = _; rw [← HQ.out]; exact psum_succ l k hkl
      clear hbel hbx
      go_wp2_with fail
      refine (tadd_any (psum l k) q (psum l (k + 1)) g B _ ((HX.out.alloc _)) (by simp; omega) hBg HP.out hsp (by omega)).mono ?_
      rintro e w2 ⟨rfl, hb2, hx2⟩
      have HB2 := Lib.hid ((HB.out.alloc hsz _).trans hb2)
      have HX2 := Lib.hid hx2
      clear hb2 hx2
      go_wp2_with fail
      go_roundw
      case rel => exact ⟨k + 1, by omega, by go_num, HB2.out, HX2.out⟩
      case measure => simp [intOf]; omega
    · obtain rfl : k = c := by omega
      have HB := Lib.hid hbel
      have HX := Lib.hid hbx
      clear hbel hbx
      go_wp2
      exact bodyPost_end (v := .tuple #[]) (by simp [results, Tryz.results43, go_sem]) rfl ⟨rfl, HB.out, HX.out⟩


set_option maxHeartbeats 1000000 in
theorem fsum_any (l : List Rat) (b c : Nat) (z : Rat) (w : World) (hb : Bx w b 36 (l.flatMap fcells).toArray) (hl : l.length = c) (hc : c ≤ 1000000) (hs : ∀ q ∈ l, sz q ≤ 1000) (hz : psum l c = z) :
    Calls Tryz.prog 25 #[.slice (some ⟨b, 0, none⟩) c c] w fun e w' => e = .returned (Value.agg #[.int .u64 (lo z.num.natAbs), .string (bg z.num.natAbs), .bool (decide (z.num < 0)), .int .u64 (lo (z.den - 1)), .string (bg (z.den - 1))]) ∧ Below w.heap.size w w' := by
  obtain ⟨W0, HW⟩ : ∃ W0, Hid (((w.alloc (.cells #[.int .u64 0, .string ⟨#[]⟩, .bool false, .int .u64 0, .string ⟨#[]⟩] 36)).alloc (.cells #[.int .u64 0, .string ⟨#[]⟩, .bool false, .int .u64 0, .string ⟨#[]⟩] 86)) = W0) := ⟨_, Lib.hid rfl⟩
  have hsz : w.heap.size + 2 = W0.heap.size := by rw [← HW.out]; simp
  have hlt := hb.lt
  have H1 := Lib.hid (show Bx W0 w.heap.size 36 #[.int .u64 0, .string ⟨#[]⟩, .bool false, .int .u64 0, .string ⟨#[]⟩] by rw [← HW.out]; exact (Bx.at rfl).alloc _)
  have H2 := Lib.hid (show Bx W0 (w.heap.size + 1) 86 #[.int .u64 0, .string ⟨#[]⟩, .bool false, .int .u64 0, .string ⟨#[]⟩] by rw [← HW.out]; exact Bx.at (by simp))
  have H3 := Lib.hid (show Bx W0 b 36 (l.flatMap fcells).toArray by rw [← HW.out]; exact (hb.alloc _).alloc _)
  have H4 := Lib.hid (show Below w.heap.size w W0 by rw [← HW.out]; exact ((Below.refl _ _).alloc (Nat.le_refl _) _).alloc (by simp) _)
  have HE := Lib.hid (each_any l (w.heap.size + 1) b c (w.heap.size + 1) W0 H3.out (by omega) H2.out (by omega) (Nat.le_refl _) hc hl hs)
  have HZ := Lib.hid hz
  clear hb hl hs hz hsz
  go_enter Tryz.func25, Tryz.ntmps25
  go_wp2_with fail
  rw [HW.out]
  refine HE.out.mono ?_
  rintro e w2 ⟨rfl, hb2, hx2⟩
  rw [HZ.out] at hx2
  have l1 := hx2.cells
  have h1 := H1.out.below hb2 (Nat.lt_succ_self _)
  have l2 := h1.cells
  have f2 := h1.free
  have r0 := Gr.refl w2
  have HB := Lib.hid (H4.out.trans (hb2.mono (Nat.le_succ _)))
  clear hb2 hx2 h1 H1 H2 H3 H4 HE HW
  go_wp2_with fail
  exact bodyPost_ret (v := .agg #[.int .u64 (lo z.num.natAbs), .string (bg z.num.natAbs), .bool (decide (z.num < 0)), .int .u64 (lo (z.den - 1)), .string (bg (z.den - 1))]) (by simp [results, Tryz.results25, go_sem, l2 _ r0]) rfl ⟨rfl, ((((HB.out.setCell (Nat.le_refl _) _).setCell (Nat.le_refl _) _).setCell (Nat.le_refl _) _).setCell (Nat.le_refl _) _).setCell (Nat.le_refl _) _⟩

end Go.Proofs.YtenpbnmmadbkdaaGreat
