
/- IntsSmall: a way through the law. -/
import Derived.Test.YtflhpdlecpehkaaDoorSmallZ0
import Derived.Test.YtflhpdlecpehkaaDoorWorksZ
namespace Go.Proofs.YtflhpdlecpehkaaDoor
open Go.RowKit
set_option linter.unusedSimpArgs false
set_option linter.unusedVariables false
attribute [local go_sem ↓] Go.wp_at_zero Go.wp_at_succ
attribute [local go_sem ↓] eq_nat eq_nat_zero eq_int
set_option maxRecDepth 100000 in
set_option maxHeartbeats 16000000 in
theorem smz_in  (m n u pr s1 s2 x y c0 : Int) (o1 o2 qe ql : Bool) (q r : Int) (y2 : Int) (w : World)  (HM1 : Hid (-9223372036854775808 ≤ m)) (HM2 : Hid (m ≤ 9223372036854775807)) (HN1 : Hid (-9223372036854775808 ≤ n)) (HN2 : Hid (n ≤ 9223372036854775807)) (HU : Hid (m + n = u)) (HP : Hid (m * n = pr)) (HS1 : Hid ((s1 = u ∧ o1 = true ∧ -9223372036854775808 ≤ u ∧ u ≤ 9223372036854775807) ∨ (s1 = 0 ∧ o1 = false ∧ (u < -9223372036854775808 ∨ 9223372036854775807 < u)))) (HS2 : Hid ((s2 = pr ∧ o2 = true ∧ -9223372036854775808 ≤ pr ∧ pr ≤ 9223372036854775807) ∨ (s2 = 0 ∧ o2 = false ∧ (pr < -9223372036854775808 ∨ 9223372036854775807 < pr)))) (HXW : Hid (IntKind.i64.wrap (m + n) = x)) (HX : Hid ((x = u ∧ -9223372036854775808 ≤ u ∧ u ≤ 9223372036854775807) ∨ (x = u - 18446744073709551616 ∧ 9223372036854775807 < u) ∨ (x = u + 18446744073709551616 ∧ u < -9223372036854775808))) (HYW : Hid (IntKind.i64.wrap (m * n) = y)) (HY : Hid (y = pr ∨ pr < -9223372036854775808 ∨ 9223372036854775807 < pr)) (HSM : Hid (m ≤ -2147483648 ∨ 2147483648 ≤ m ∨ n ≤ -2147483648 ∨ 2147483648 ≤ n ∨ (-9223372036854775808 ≤ pr ∧ pr ≤ 9223372036854775807))) (HQE : Hid (decide (m = n) = qe)) (HQL : Hid (decide (m < n) = ql)) (HC0 : Hid (sgI (m - n) = c0)) (HNN : Hid (n ≠ 0)) (HQ : Hid (m / n = q)) (HR : Hid (m % n = r)) (HR0 : Hid (0 ≤ r)) (HRI : Hid (In64 r)) (HQI : Hid (In64 q)) (HW2 : Hid (IntKind.i64.wrap (q * n) = y2)) (HW3 : Hid (IntKind.i64.wrap (y2 + r) = m)) (HT : Hid (Tab w)) :
    Calls Tryd.prog 7 #[.int .i64 (m), .int .i64 (n)] w fun e w' => e = .returned (.bool true) ∧ Below w.heap.size w w' := by
  have lm := HM1.out
  have um := HM2.out
  have ln := HN1.out
  have un := HN2.out
  go_enter Tryd.func7, Tryd.ntmps7
  -- region 0
  refine wp_seq_k fun K hK => ?_
  replace hK := Lib.hid hK
  refine wp_region_lit ?_
  go_wp2
  refine hK.out _ _ ?_; clear hK K
  show Code.wp _ _ _ _ _
  refine forgetW (fun w2 => Below w.heap.size w w2) (Below.refl _ _) ?_
  rintro Wx HB
  replace HB := Lib.hid HB
  -- region 1
  have su1 : wl (Int.natAbs (m)) ≤ 2 := wl_i64 (by first | omega | exact Nat.le_trans (wl_small (by decide)) (by decide)) (by first | omega | exact Nat.le_trans (wl_small (by decide)) (by decide))
  have su2 : wl (Int.natAbs (n)) ≤ 2 := wl_i64 (by first | omega | exact Nat.le_trans (wl_small (by decide)) (by decide)) (by first | omega | exact Nat.le_trans (wl_small (by decide)) (by decide))
  refine wp_seq_k fun K hK => ?_
  replace hK := Lib.hid hK
  refine wp_region_seqplan 4 [(true, 0), (true, 1), (true, 2), (true, 3)] (by rfl) (by simp) (fun T hT => ?_)
  iterate 1
    refine wpPlan_takeL (v := ?_) rfl (by rfl) (fun w' hw => ?_) ?_
    rotate_left
    · go_simp
      with_reducible rfl
    simp only [Act.put, List.setIfInBounds_toArray, List.set_cons_zero, List.set_cons_succ]
  refine wpPlan_callL rfl (by rfl) Tryd.call23 (fun w' hw => iof_any (m) _ (by first | omega | exact Nat.le_trans (wl_small (by decide)) (by decide)) (by first | omega | exact Nat.le_trans (wl_small (by decide)) (by decide))) (by rfl) ?_
  simp only [Act.put, List.setIfInBounds_toArray, List.set_cons_zero, List.set_cons_succ]
  iterate 1
    refine wpPlan_takeL (v := ?_) rfl (by rfl) (fun w' hw => ?_) ?_
    rotate_left
    · go_simp
      with_reducible rfl
    simp only [Act.put, List.setIfInBounds_toArray, List.set_cons_zero, List.set_cons_succ]
  refine wpPlan_callL rfl (by rfl) Tryd.call23 (fun w' hw => iof_any (n) _ (by first | omega | exact Nat.le_trans (wl_small (by decide)) (by decide)) (by first | omega | exact Nat.le_trans (wl_small (by decide)) (by decide))) (by rfl) ?_
  simp only [Act.put, List.setIfInBounds_toArray, List.set_cons_zero, List.set_cons_succ]
  refine wpPlan_nil (hT.out _ _ ?_); clear hT T
  intro vw1 hg
  simp only [puts, Act.put, List.setIfInBounds_toArray, List.set_cons_zero, List.set_cons_succ, List.drop_succ_cons, List.drop_zero, ↓reduceIte, Nat.reduceEqDiff]
  have HG := Lib.hid (hg)
  clear hg
  have r0 := Gr.refl vw1
  go_wp2
  refine hK.out _ _ ?_; clear hK K
  show Code.wp _ _ _ _ _
  clear r0
  have hsz : w.heap.size ≤ vw1.heap.size := Nat.le_trans HB.out.size HG.out.size
  refine forgetW (fun w2 => Bx w2 (vw1.heap.size) 29 #[.int .u64 ((lo (Int.natAbs (m)) : Nat) : Int), .string (bg (Int.natAbs (m))), .bool (decide ((m) < 0))] ∧ Bx w2 (vw1.heap.size + 1) 29 #[.int .u64 ((lo (Int.natAbs (n)) : Nat) : Int), .string (bg (Int.natAbs (n))), .bool (decide ((n) < 0))] ∧ Below w.heap.size w w2) ⟨((Bx.at (by simp) : Bx _ (vw1.heap.size) _ _)).alloc _, (Bx.at (by simp) : Bx _ (vw1.heap.size + 1) _ _), ((HB.out.trans (HG.out.mono HB.out.size)).alloc (by first | omega | (simp; omega)) _).alloc (by first | omega | (simp; omega)) _⟩ ?_
  clear HB HG
  rintro Wx1 ⟨bx0, bx1, HB⟩
  replace HB := Lib.hid HB
  have qx0_1 : vw1.heap.size < vw1.heap.size + 1 := by omega
  have yx1 : w.heap.size ≤ vw1.heap.size + 1 := by omega
  generalize hx1 : vw1.heap.size + 1 = gx1 at *
  clear hx1
  have yx0 : w.heap.size ≤ vw1.heap.size := by omega
  generalize hx0 : vw1.heap.size = gx0 at *
  clear hx0
  clear hsz
  -- region 2
  have lx0 := bx0.cells
  have BX0 := Lib.hid bx0
  have BX1 := Lib.hid bx1
  clear bx0 bx1
  refine wp_seq_k fun K hK => ?_
  replace hK := Lib.hid hK
  refine wp_region_seqplan 7 [(true, 0), (true, 1), (true, 2), (true, 3), (true, 4), (true, 5), (true, 6)] (by rfl) (by simp) (fun T hT => ?_)
  iterate 1
    refine wpPlan_takeL (v := ?_) rfl (by rfl) (fun w' hw => ?_) ?_
    rotate_left
    · go_simp
      with_reducible rfl
    simp only [Act.put, List.setIfInBounds_toArray, List.set_cons_zero, List.set_cons_succ]
  refine wpPlan_callL rfl (by rfl) Tryd.call29 (fun w' hw => i64_in (m) _ (by exact ⟨HM1.out, HM2.out⟩)) (by rfl) ?_
  simp only [Act.put, List.setIfInBounds_toArray, List.set_cons_zero, List.set_cons_succ]
  iterate 5
    refine wpPlan_takeL (v := ?_) rfl (by rfl) (fun w' hw => ?_) ?_
    rotate_left
    · go_simp
      with_reducible rfl
    simp only [Act.put, List.setIfInBounds_toArray, List.set_cons_zero, List.set_cons_succ]
  refine wpPlan_nil (hT.out _ _ ?_); clear hT T
  intro vw2 hg
  simp only [puts, Act.put, List.setIfInBounds_toArray, List.set_cons_zero, List.set_cons_succ, List.drop_succ_cons, List.drop_zero, ↓reduceIte, Nat.reduceEqDiff]
  clear lx0
  have HG := Lib.hid (hg)
  clear hg
  have bx0 := BX0.out.gr HG.out; clear BX0
  have bx1 := BX1.out.gr HG.out; clear BX1
  have r0 := Gr.refl vw2
  have BX0 := Lib.hid bx0; clear bx0
  have BX1 := Lib.hid bx1; clear bx1
  go_wp2
  refine hK.out _ _ ?_; clear hK K
  show Code.wp _ _ _ _ _
  clear r0
  refine forgetW (fun w2 => Bx w2 gx0 29 #[.int .u64 ((lo (Int.natAbs (m)) : Nat) : Int), .string (bg (Int.natAbs (m))), .bool (decide ((m) < 0))] ∧ Bx w2 gx1 29 #[.int .u64 ((lo (Int.natAbs (n)) : Nat) : Int), .string (bg (Int.natAbs (n))), .bool (decide ((n) < 0))] ∧ Below w.heap.size w w2) ⟨BX0.out, BX1.out, HB.out.trans (HG.out.mono HB.out.size)⟩ ?_
  clear HB HG BX0 BX1
  rintro Wx2 ⟨bx0, bx1, HB⟩
  replace HB := Lib.hid HB
  refine wp_seq ?_
  -- region 3
  have hq1 : decide (m = n) = qe := HQE.out
  have hq2 : ((m : Int) == n) = qe := by have e9 := HQE.out; rw [← e9]; rfl
  have hq3 : decide (c0 < 0) = ql := by rw [← HC0.out]; simp only [sgI_neg]; have e9 := HQL.out; rw [← e9]; congr 1; simp; omega
  have hq4 : decide (m < n) = ql := HQL.out
  have lx0 := bx0.cells
  have lx1 := bx1.cells
  have BX0 := Lib.hid bx0
  have BX1 := Lib.hid bx1
  clear bx0 bx1
  refine wp_seq_k fun K hK => ?_
  replace hK := Lib.hid hK
  refine wp_region_seqplan 26 [(true, 0), (true, 1), (true, 2), (true, 3), (true, 4), (true, 5), (true, 6), (true, 7), (true, 8), (true, 9), (true, 10), (true, 11), (true, 12), (true, 13), (true, 14), (true, 15), (true, 16), (true, 17), (true, 18), (true, 19), (true, 20), (true, 21), (true, 22), (true, 23), (true, 24), (true, 25)] (by rfl) (by simp) (fun T hT => ?_)
  iterate 19
    refine wpPlan_takeL (v := ?_) rfl (by rfl) (fun w' hw => ?_) ?_
    rotate_left
    · go_simp
      with_reducible rfl
    simp only [Act.put, List.setIfInBounds_toArray, List.set_cons_zero, List.set_cons_succ]
  refine wpPlan_callL rfl (by rfl) Tryd.call24 (fun w' hw => zicmp (m) (n) (c0) _ HC0.out (by first | omega | exact Nat.le_trans (wl_small (by decide)) (by decide)) (by first | omega | exact Nat.le_trans (wl_small (by decide)) (by decide))) (by rfl) ?_
  simp only [Act.put, List.setIfInBounds_toArray, List.set_cons_zero, List.set_cons_succ]
  iterate 6
    refine wpPlan_takeL (v := ?_) rfl (by rfl) (fun w' hw => ?_) ?_
    rotate_left
    · go_simp
      with_reducible rfl
    simp only [Act.put, List.setIfInBounds_toArray, List.set_cons_zero, List.set_cons_succ]
  refine wpPlan_nil (hT.out _ _ ?_); clear hT T
  intro vw3 hg
  simp only [puts, Act.put, List.setIfInBounds_toArray, List.set_cons_zero, List.set_cons_succ, List.drop_succ_cons, List.drop_zero, ↓reduceIte, Nat.reduceEqDiff]
  clear lx0 lx1
  have HG := Lib.hid (hg)
  clear hg
  have bx0 := BX0.out.gr HG.out; clear BX0
  have bx1 := BX1.out.gr HG.out; clear BX1
  have r0 := Gr.refl vw3
  have BX0 := Lib.hid bx0; clear bx0
  have BX1 := Lib.hid bx1; clear bx1
  go_wp2
  refine hK.out _ _ ?_; clear hK K
  show Code.wp _ _ _ _ _
  clear r0
  refine forgetW (fun w2 => Bx w2 gx0 29 #[.int .u64 ((lo (Int.natAbs (m)) : Nat) : Int), .string (bg (Int.natAbs (m))), .bool (decide ((m) < 0))] ∧ Bx w2 gx1 29 #[.int .u64 ((lo (Int.natAbs (n)) : Nat) : Int), .string (bg (Int.natAbs (n))), .bool (decide ((n) < 0))] ∧ Below w.heap.size w w2) ⟨BX0.out, BX1.out, HB.out.trans (HG.out.mono HB.out.size)⟩ ?_
  clear HB HG BX0 BX1
  rintro Wx3 ⟨bx0, bx1, HB⟩
  replace HB := Lib.hid HB
  clear hq1 hq2 hq3 hq4
  refine wp_cond_false (by rfl) ?_
  refine wp_skip ?_
  show Code.wp _ _ _ _ _
  -- region 5
  have HZ3 : Hid ((m) + (n) = u) := Lib.hid (HU.out)
  have su3 : wl (Int.natAbs (u)) ≤ 3 := by have e := HZ3.out; first | omega | (rw [← e]; have := wl_iadd (m) (n); omega)
  have lx0 := bx0.cells
  have lx1 := bx1.cells
  have BX0 := Lib.hid bx0
  have BX1 := Lib.hid bx1
  clear bx0 bx1
  refine wp_seq_k fun K hK => ?_
  replace hK := Lib.hid hK
  refine wp_region_seqplan 9 [(true, 0), (true, 1), (true, 2), (true, 3), (true, 4), (true, 5), (true, 6), (true, 7), (true, 8)] (by rfl) (by simp) (fun T hT => ?_)
  iterate 2
    refine wpPlan_takeL (v := ?_) rfl (by rfl) (fun w' hw => ?_) ?_
    rotate_left
    · go_simp
      with_reducible rfl
    simp only [Act.put, List.setIfInBounds_toArray, List.set_cons_zero, List.set_cons_succ]
  refine wpPlan_callL rfl (by rfl) Tryd.call19 (fun w' hw => ziadd (m) (n) (u) _ HZ3.out (by first | omega | exact Nat.le_trans (wl_small (by decide)) (by decide)) (by first | omega | exact Nat.le_trans (wl_small (by decide)) (by decide))) (by rfl) ?_
  simp only [Act.put, List.setIfInBounds_toArray, List.set_cons_zero, List.set_cons_succ]
  refine wpPlan_callL rfl (by rfl) Tryd.call29 (fun w' hw => i64_sym (u) s1 o1 _ HS1.out) (by rfl) ?_
  simp only [Act.put, List.setIfInBounds_toArray, List.set_cons_zero, List.set_cons_succ]
  iterate 5
    refine wpPlan_takeL (v := ?_) rfl (by rfl) (fun w' hw => ?_) ?_
    rotate_left
    · go_simp
      with_reducible rfl
    simp only [Act.put, List.setIfInBounds_toArray, List.set_cons_zero, List.set_cons_succ]
  refine wpPlan_nil (hT.out _ _ ?_); clear hT T
  intro vw4 hg
  simp only [puts, Act.put, List.setIfInBounds_toArray, List.set_cons_zero, List.set_cons_succ, List.drop_succ_cons, List.drop_zero, ↓reduceIte, Nat.reduceEqDiff]
  clear lx0 lx1
  have HG := Lib.hid (hg)
  clear hg
  have bx0 := BX0.out.gr HG.out; clear BX0
  have bx1 := BX1.out.gr HG.out; clear BX1
  have r0 := Gr.refl vw4
  have BX0 := Lib.hid bx0; clear bx0
  have BX1 := Lib.hid bx1; clear bx1
  go_wp2
  refine hK.out _ _ ?_; clear hK K
  show Code.wp _ _ _ _ _
  clear r0
  refine forgetW (fun w2 => Bx w2 gx0 29 #[.int .u64 ((lo (Int.natAbs (m)) : Nat) : Int), .string (bg (Int.natAbs (m))), .bool (decide ((m) < 0))] ∧ Bx w2 gx1 29 #[.int .u64 ((lo (Int.natAbs (n)) : Nat) : Int), .string (bg (Int.natAbs (n))), .bool (decide ((n) < 0))] ∧ Below w.heap.size w w2) ⟨BX0.out, BX1.out, HB.out.trans (HG.out.mono HB.out.size)⟩ ?_
  clear HB HG BX0 BX1
  rintro Wx5 ⟨bx0, bx1, HB⟩
  replace HB := Lib.hid HB
  -- region 6
  have HZ4 : Hid ((m) * (n) = pr) := Lib.hid (HP.out)
  have su4 : wl (Int.natAbs (pr)) ≤ 4 := by have e := HZ4.out; first | omega | (rw [← e]; have := wl_imul (m) (n); omega)
  have lx0 := bx0.cells
  have lx1 := bx1.cells
  have BX0 := Lib.hid bx0
  have BX1 := Lib.hid bx1
  clear bx0 bx1
  refine wp_seq_k fun K hK => ?_
  replace hK := Lib.hid hK
  refine wp_region_seqplan 9 [(true, 0), (true, 1), (true, 2), (true, 3), (true, 4), (true, 5), (true, 6), (true, 7), (true, 8)] (by rfl) (by simp) (fun T hT => ?_)
  iterate 2
    refine wpPlan_takeL (v := ?_) rfl (by rfl) (fun w' hw => ?_) ?_
    rotate_left
    · go_simp
      with_reducible rfl
    simp only [Act.put, List.setIfInBounds_toArray, List.set_cons_zero, List.set_cons_succ]
  refine wpPlan_callL rfl (by rfl) Tryd.call20 (fun w' hw => zimul (m) (n) (pr) _ HZ4.out (by first | omega | exact Nat.le_trans (wl_small (by decide)) (by decide)) (by first | omega | exact Nat.le_trans (wl_small (by decide)) (by decide))) (by rfl) ?_
  simp only [Act.put, List.setIfInBounds_toArray, List.set_cons_zero, List.set_cons_succ]
  refine wpPlan_callL rfl (by rfl) Tryd.call29 (fun w' hw => i64_sym (pr) s2 o2 _ HS2.out) (by rfl) ?_
  simp only [Act.put, List.setIfInBounds_toArray, List.set_cons_zero, List.set_cons_succ]
  iterate 5
    refine wpPlan_takeL (v := ?_) rfl (by rfl) (fun w' hw => ?_) ?_
    rotate_left
    · go_simp
      with_reducible rfl
    simp only [Act.put, List.setIfInBounds_toArray, List.set_cons_zero, List.set_cons_succ]
  refine wpPlan_nil (hT.out _ _ ?_); clear hT T
  intro vw5 hg
  simp only [puts, Act.put, List.setIfInBounds_toArray, List.set_cons_zero, List.set_cons_succ, List.drop_succ_cons, List.drop_zero, ↓reduceIte, Nat.reduceEqDiff]
  clear lx0 lx1
  have HG := Lib.hid (hg)
  clear hg
  have bx0 := BX0.out.gr HG.out; clear BX0
  have bx1 := BX1.out.gr HG.out; clear BX1
  have r0 := Gr.refl vw5
  have BX0 := Lib.hid bx0; clear bx0
  have BX1 := Lib.hid bx1; clear bx1
  go_wp2
  refine hK.out _ _ ?_; clear hK K
  show Code.wp _ _ _ _ _
  clear r0
  refine forgetW (fun w2 => Bx w2 gx0 29 #[.int .u64 ((lo (Int.natAbs (m)) : Nat) : Int), .string (bg (Int.natAbs (m))), .bool (decide ((m) < 0))] ∧ Bx w2 gx1 29 #[.int .u64 ((lo (Int.natAbs (n)) : Nat) : Int), .string (bg (Int.natAbs (n))), .bool (decide ((n) < 0))] ∧ Below w.heap.size w w2) ⟨BX0.out, BX1.out, HB.out.trans (HG.out.mono HB.out.size)⟩ ?_
  clear HB HG BX0 BX1
  rintro Wx6 ⟨bx0, bx1, HB⟩
  replace HB := Lib.hid HB
  refine wp_seq ?_
  -- region 7
  refine wp_seq_k fun K hK => ?_
  replace hK := Lib.hid hK
  suffices HJ : Hid (∀ (b9 : Bool) (g2 g3 g4 g7 g8 g9 g10 g20 g21 g22 g23 g24 g25 g26 g27 g28 g29 g30 g31 g32 g33 g34 g35 g36 g37 g38 g39 g40 g41 g42 g43 g44 g45 g46 g47 g48 g49 g50 g51 g52 g53 g54 g55 g56 g57 g58 g59 g60 g61 g62 g63 g64 g65 g66 g67 g68 g69 g70 g71 g72 g73 g74 g75 g76 g77 g78 g79 g80 g81 g82 g83 g84 g85 g86 g87 g88 g89 g90 g91 g92 g93 g94 g95 g96 g97 g98 g99 g100 g101 g102 g103 g104 g105 g106 g107 g108 g109 g110 g111 g112 g113 : Value), b9 = false → K { tmps := #[.int .i64 (m), .int .i64 (n), g2, g3, g4, .pointer (some ⟨gx0, 0, none⟩), .pointer (some ⟨gx1, 0, none⟩), g7, g8, g9, g10, .int .i64 (s2), .bool (o2), undef, undef, undef, undef, undef, undef, undef, g20, g21, g22, g23, g24, g25, g26, g27, g28, g29, g30, g31, g32, g33, g34, g35, g36, g37, g38, g39, g40, g41, g42, g43, g44, g45, g46, g47, g48, g49, g50, g51, g52, g53, g54, g55, g56, g57, g58, g59, g60, g61, g62, g63, g64, g65, g66, g67, g68, g69, g70, g71, g72, g73, g74, g75, g76, g77, g78, g79, g80, g81, g82, g83, g84, g85, g86, g87, g88, g89, g90, g91, g92, g93, g94, g95, g96, g97, g98, g99, g100, g101, g102, g103, g104, g105, g106, g107, g108, g109, g110, g111, g112, g113, .bool b9, undef, undef, undef, undef, undef, undef, undef, undef, undef, undef, undef, undef, undef, undef, undef, undef, undef, undef, undef, undef, undef, undef, undef, undef, undef, undef, undef, undef, undef, undef, undef, undef, undef, undef, undef, undef, undef, undef, undef, undef, undef, undef, undef, undef, undef, undef, undef, undef, undef, undef, undef, undef, undef, undef, undef, undef, undef, undef, undef, undef, undef, undef, undef, undef, undef, undef, undef, undef, undef, undef, undef, undef, undef, undef, undef, undef, undef, undef, undef, undef, undef, undef, undef, undef, undef, undef, undef, undef, undef, undef, undef, undef, undef, undef, undef], defers := [] } Wx6) by
    have hwr : IntKind.i64.wrap (m + n) = x := HXW.out
    refine wp_region_lit ?_
    go_wp2
    all_goals exact HJ.out _ _ _ _ _ _ _ _ _ _ _ _ _ _ _ _ _ _ _ _ _ _ _ _ _ _ _ _ _ _ _ _ _ _ _ _ _ _ _ _ _ _ _ _ _ _ _ _ _ _ _ _ _ _ _ _ _ _ _ _ _ _ _ _ _ _ _ _ _ _ _ _ _ _ _ _ _ _ _ _ _ _ _ _ _ _ _ _ _ _ _ _ _ _ _ _ _ _ _ _ _ _ (by have hx := HX.out; have hv := HS1.out; have h1 := HM1.out; have h2 := HM2.out; have h3 := HN1.out; have h4 := HN2.out; have hu := HU.out; cases o1 <;> first | rfl | (exfalso; simp at hv; done) | (exfalso; simp at hv; omega) | (simp at hv ⊢ <;> omega) | (simp at * <;> omega))
  refine Lib.hid ?_
  intro b9 g2 g3 g4 g7 g8 g9 g10 g20 g21 g22 g23 g24 g25 g26 g27 g28 g29 g30 g31 g32 g33 g34 g35 g36 g37 g38 g39 g40 g41 g42 g43 g44 g45 g46 g47 g48 g49 g50 g51 g52 g53 g54 g55 g56 g57 g58 g59 g60 g61 g62 g63 g64 g65 g66 g67 g68 g69 g70 g71 g72 g73 g74 g75 g76 g77 g78 g79 g80 g81 g82 g83 g84 g85 g86 g87 g88 g89 g90 g91 g92 g93 g94 g95 g96 g97 g98 g99 g100 g101 g102 g103 g104 g105 g106 g107 g108 g109 g110 g111 g112 g113 hb9
  subst hb9
  refine hK.out _ _ ?_; clear hK K
  show Code.wp _ _ _ _ _
  refine wp_cond_false (by rfl) ?_
  refine wp_skip ?_
  show Code.wp _ _ _ _ _
  refine wp_seq ?_
  -- region 9
  refine wp_seq_k fun K hK => ?_
  replace hK := Lib.hid hK
  suffices HJ : Hid (∀ (b9 : Bool) (g2 g3 g4 g7 g8 g9 g10 g11 g12 g20 g21 g22 g23 g24 g25 g26 g27 g28 g29 g30 g31 g32 g33 g34 g35 g36 g37 g38 g39 g40 g41 g42 g43 g44 g45 g46 g47 g48 g49 g50 g51 g52 g53 g54 g55 g56 g57 g58 g59 g60 g61 g62 g63 g64 g65 g66 g67 g68 g69 g70 g71 g72 g73 g74 g75 g76 g77 g78 g79 g80 g81 g82 g83 g84 g85 g86 g87 g88 g89 g90 g91 g92 g93 g94 g95 g96 g97 g98 g99 g100 g101 g102 g103 g104 g105 g106 g107 g108 g109 g110 g111 g112 g113 g114 g115 g116 g117 g118 g119 g120 g121 g122 g123 g124 g125 g126 g127 g128 g129 g130 g131 g132 g133 g134 g135 g136 g137 g138 g139 g140 g141 g142 g143 g144 g145 g146 g147 g148 g149 : Value), b9 = false → K { tmps := #[.int .i64 (m), .int .i64 (n), g2, g3, g4, .pointer (some ⟨gx0, 0, none⟩), .pointer (some ⟨gx1, 0, none⟩), g7, g8, g9, g10, g11, g12, undef, undef, undef, undef, undef, undef, undef, g20, g21, g22, g23, g24, g25, g26, g27, g28, g29, g30, g31, g32, g33, g34, g35, g36, g37, g38, g39, g40, g41, g42, g43, g44, g45, g46, g47, g48, g49, g50, g51, g52, g53, g54, g55, g56, g57, g58, g59, g60, g61, g62, g63, g64, g65, g66, g67, g68, g69, g70, g71, g72, g73, g74, g75, g76, g77, g78, g79, g80, g81, g82, g83, g84, g85, g86, g87, g88, g89, g90, g91, g92, g93, g94, g95, g96, g97, g98, g99, g100, g101, g102, g103, g104, g105, g106, g107, g108, g109, g110, g111, g112, g113, g114, g115, g116, g117, g118, g119, g120, g121, g122, g123, g124, g125, g126, g127, g128, g129, g130, g131, g132, g133, g134, g135, g136, g137, g138, g139, g140, g141, g142, g143, g144, g145, g146, g147, g148, g149, .bool b9, undef, undef, undef, undef, undef, undef, undef, undef, undef, undef, undef, undef, undef, undef, undef, undef, undef, undef, undef, undef, undef, undef, undef, undef, undef, undef, undef, undef, undef, undef, undef, undef, undef, undef, undef, undef, undef, undef, undef, undef, undef, undef, undef, undef, undef, undef, undef, undef, undef, undef, undef, undef, undef, undef, undef, undef, undef, undef, undef], defers := [] } Wx6) by
    have hwr : IntKind.i64.wrap (m * n) = y := HYW.out
    refine wp_region_lit ?_
    go_wp2
    all_goals exact HJ.out _ _ _ _ _ _ _ _ _ _ _ _ _ _ _ _ _ _ _ _ _ _ _ _ _ _ _ _ _ _ _ _ _ _ _ _ _ _ _ _ _ _ _ _ _ _ _ _ _ _ _ _ _ _ _ _ _ _ _ _ _ _ _ _ _ _ _ _ _ _ _ _ _ _ _ _ _ _ _ _ _ _ _ _ _ _ _ _ _ _ _ _ _ _ _ _ _ _ _ _ _ _ _ _ _ _ _ _ _ _ _ _ _ _ _ _ _ _ _ _ _ _ _ _ _ _ _ _ _ _ _ _ _ _ _ _ _ _ _ _ (by have hx := HY.out; have hv := HS2.out; have hs := HSM.out; cases o2 <;> first | rfl | (exfalso; simp at hv; done) | (exfalso; simp at hv; omega) | (simp at hv ⊢ <;> omega) | (simp at * <;> omega))
  refine Lib.hid ?_
  intro b9 g2 g3 g4 g7 g8 g9 g10 g11 g12 g20 g21 g22 g23 g24 g25 g26 g27 g28 g29 g30 g31 g32 g33 g34 g35 g36 g37 g38 g39 g40 g41 g42 g43 g44 g45 g46 g47 g48 g49 g50 g51 g52 g53 g54 g55 g56 g57 g58 g59 g60 g61 g62 g63 g64 g65 g66 g67 g68 g69 g70 g71 g72 g73 g74 g75 g76 g77 g78 g79 g80 g81 g82 g83 g84 g85 g86 g87 g88 g89 g90 g91 g92 g93 g94 g95 g96 g97 g98 g99 g100 g101 g102 g103 g104 g105 g106 g107 g108 g109 g110 g111 g112 g113 g114 g115 g116 g117 g118 g119 g120 g121 g122 g123 g124 g125 g126 g127 g128 g129 g130 g131 g132 g133 g134 g135 g136 g137 g138 g139 g140 g141 g142 g143 g144 g145 g146 g147 g148 g149 hb9
  subst hb9
  refine hK.out _ _ ?_; clear hK K
  show Code.wp _ _ _ _ _
  refine wp_cond_false (by rfl) ?_
  refine wp_skip ?_
  show Code.wp _ _ _ _ _
  -- region 11
  have HZ5 : Hid ((m) / (n) = q) := Lib.hid (HQ.out)
  have su5 : wl (Int.natAbs (q)) ≤ 3 := by have e := HZ5.out; first | omega | (rw [← e]; have := wl_idiv (m) (n); omega)
  have HZ6 : Hid ((m) % (n) = r) := Lib.hid (HR.out)
  have su6 : wl (Int.natAbs (r)) ≤ 2 := by have e := HZ6.out; first | omega | (rw [← e]; have := wl_imod (m) (n) (by have hn9 := HNN.out; first | rfl | omega | (simp; done) | grind); omega)
  have lx0 := bx0.cells
  have lx1 := bx1.cells
  have BX0 := Lib.hid bx0
  have BX1 := Lib.hid bx1
  clear bx0 bx1
  refine wp_seq_k fun K hK => ?_
  replace hK := Lib.hid hK
  refine wp_region_seqplan 7 [(true, 0), (true, 1), (true, 2), (true, 3), (true, 4), (true, 5), (true, 6)] (by rfl) (by simp) (fun T hT => ?_)
  iterate 2
    refine wpPlan_takeL (v := ?_) rfl (by rfl) (fun w' hw => ?_) ?_
    rotate_left
    · go_simp
      with_reducible rfl
    simp only [Act.put, List.setIfInBounds_toArray, List.set_cons_zero, List.set_cons_succ]
  refine wpPlan_callL rfl (by rfl) Tryd.call28 (fun w' hw => zidiv (m) (n) (q) (r) _ HZ5.out HZ6.out (by have hn9 := HNN.out; first | rfl | omega | (simp; done) | grind) (by first | omega | exact Nat.le_trans (wl_small (by decide)) (by decide)) (by first | omega | exact Nat.le_trans (wl_small (by decide)) (by decide))) (by rfl) ?_
  simp only [Act.put, List.setIfInBounds_toArray, List.set_cons_zero, List.set_cons_succ]
  iterate 4
    refine wpPlan_takeL (v := ?_) rfl (by rfl) (fun w' hw => ?_) ?_
    rotate_left
    · go_simp
      with_reducible rfl
    simp only [Act.put, List.setIfInBounds_toArray, List.set_cons_zero, List.set_cons_succ]
  refine wpPlan_nil (hT.out _ _ ?_); clear hT T
  intro vw6 hg
  simp only [puts, Act.put, List.setIfInBounds_toArray, List.set_cons_zero, List.set_cons_succ, List.drop_succ_cons, List.drop_zero, ↓reduceIte, Nat.reduceEqDiff]
  clear lx0 lx1
  have HG := Lib.hid (hg)
  clear hg
  have bx0 := BX0.out.gr HG.out; clear BX0
  have bx1 := BX1.out.gr HG.out; clear BX1
  have r0 := Gr.refl vw6
  have BX0 := Lib.hid bx0; clear bx0
  have BX1 := Lib.hid bx1; clear bx1
  go_wp2
  refine hK.out _ _ ?_; clear hK K
  show Code.wp _ _ _ _ _
  clear r0
  have hsz : w.heap.size ≤ vw6.heap.size := Nat.le_trans HB.out.size HG.out.size
  have mx0 : gx0 < vw6.heap.size := BX0.out.lt
  have mx1 : gx1 < vw6.heap.size := BX1.out.lt
  refine forgetW (fun w2 => Bx w2 (vw6.heap.size) 29 #[.int .u64 ((lo (Int.natAbs (q)) : Nat) : Int), .string (bg (Int.natAbs (q))), .bool (decide ((q) < 0))] ∧ Bx w2 (vw6.heap.size + 1) 29 #[.int .u64 ((lo (Int.natAbs (r)) : Nat) : Int), .string (bg (Int.natAbs (r))), .bool (decide ((r) < 0))] ∧ Below w.heap.size w w2) ⟨((Bx.at (by simp) : Bx _ (vw6.heap.size) _ _)).alloc _, (Bx.at (by simp) : Bx _ (vw6.heap.size + 1) _ _), ((HB.out.trans (HG.out.mono HB.out.size)).alloc (by first | omega | (simp; omega)) _).alloc (by first | omega | (simp; omega)) _⟩ ?_
  clear HB HG BX0 BX1
  rintro Wx11 ⟨bx2, bx3, HB⟩
  replace HB := Lib.hid HB
  have qx2_3 : vw6.heap.size < vw6.heap.size + 1 := by omega
  have yx3 : w.heap.size ≤ vw6.heap.size + 1 := by omega
  have qx0_3 : gx0 < vw6.heap.size + 1 := by omega
  have qx1_3 : gx1 < vw6.heap.size + 1 := by omega
  generalize hx3 : vw6.heap.size + 1 = gx3 at *
  clear hx3
  have yx2 : w.heap.size ≤ vw6.heap.size := by omega
  have qx0_2 : gx0 < vw6.heap.size := by omega
  have qx1_2 : gx1 < vw6.heap.size := by omega
  generalize hx2 : vw6.heap.size = gx2 at *
  clear hx2
  clear hsz mx0 mx1
  refine wp_seq ?_
  -- region 12
  have hd1 : ((n) == (0)) = false := by have : ¬ (n = 0) := (by have hn9 := HNN.out; first | rfl | omega | (simp; done) | grind); simpa using this
  have BX2 := Lib.hid bx2
  have BX3 := Lib.hid bx3
  clear bx2 bx3
  refine wp_seq_k fun K hK => ?_
  replace hK := Lib.hid hK
  refine wp_region_seqplan 2 [(true, 0), (true, 1)] (by rfl) (by simp) (fun T hT => ?_)
  iterate 2
    refine wpPlan_takeL (v := ?_) rfl (by rfl) (fun w' hw => ?_) ?_
    rotate_left
    · go_simp
      with_reducible rfl
    simp only [Act.put, List.setIfInBounds_toArray, List.set_cons_zero, List.set_cons_succ]
  refine wpPlan_nil (hT.out _ _ ?_); clear hT T
  intro vw7 hg
  simp only [puts, Act.put, List.setIfInBounds_toArray, List.set_cons_zero, List.set_cons_succ, List.drop_succ_cons, List.drop_zero, ↓reduceIte, Nat.reduceEqDiff]
  have HG := Lib.hid (hg)
  clear hg
  have bx2 := BX2.out.gr HG.out; clear BX2
  have bx3 := BX3.out.gr HG.out; clear BX3
  have r0 := Gr.refl vw7
  have BX2 := Lib.hid bx2; clear bx2
  have BX3 := Lib.hid bx3; clear bx3
  go_wp2
  refine hK.out _ _ ?_; clear hK K
  show Code.wp _ _ _ _ _
  clear r0
  refine forgetW (fun w2 => Bx w2 gx2 29 #[.int .u64 ((lo (Int.natAbs (q)) : Nat) : Int), .string (bg (Int.natAbs (q))), .bool (decide ((q) < 0))] ∧ Bx w2 gx3 29 #[.int .u64 ((lo (Int.natAbs (r)) : Nat) : Int), .string (bg (Int.natAbs (r))), .bool (decide ((r) < 0))] ∧ Below w.heap.size w w2) ⟨BX2.out, BX3.out, HB.out.trans (HG.out.mono HB.out.size)⟩ ?_
  clear HB HG BX2 BX3
  rintro Wx12 ⟨bx2, bx3, HB⟩
  replace HB := Lib.hid HB
  clear hd1
  refine wp_cond_false (by rfl) ?_
  refine wp_skip ?_
  show Code.wp _ _ _ _ _
  -- region 14
  have lx2 := bx2.cells
  have BX2 := Lib.hid bx2
  have BX3 := Lib.hid bx3
  clear bx2 bx3
  refine wp_seq_k fun K hK => ?_
  replace hK := Lib.hid hK
  refine wp_region_seqplan 7 [(true, 0), (true, 1), (true, 2), (true, 3), (true, 4), (true, 5), (true, 6)] (by rfl) (by simp) (fun T hT => ?_)
  iterate 1
    refine wpPlan_takeL (v := ?_) rfl (by rfl) (fun w' hw => ?_) ?_
    rotate_left
    · go_simp
      with_reducible rfl
    simp only [Act.put, List.setIfInBounds_toArray, List.set_cons_zero, List.set_cons_succ]
  refine wpPlan_callL rfl (by rfl) Tryd.call29 (fun w' hw => i64_in (q) _ (by exact HQI.out)) (by rfl) ?_
  simp only [Act.put, List.setIfInBounds_toArray, List.set_cons_zero, List.set_cons_succ]
  iterate 5
    refine wpPlan_takeL (v := ?_) rfl (by rfl) (fun w' hw => ?_) ?_
    rotate_left
    · go_simp
      with_reducible rfl
    simp only [Act.put, List.setIfInBounds_toArray, List.set_cons_zero, List.set_cons_succ]
  refine wpPlan_nil (hT.out _ _ ?_); clear hT T
  intro vw8 hg
  simp only [puts, Act.put, List.setIfInBounds_toArray, List.set_cons_zero, List.set_cons_succ, List.drop_succ_cons, List.drop_zero, ↓reduceIte, Nat.reduceEqDiff]
  clear lx2
  have HG := Lib.hid (hg)
  clear hg
  have bx2 := BX2.out.gr HG.out; clear BX2
  have bx3 := BX3.out.gr HG.out; clear BX3
  have r0 := Gr.refl vw8
  have BX2 := Lib.hid bx2; clear bx2
  have BX3 := Lib.hid bx3; clear bx3
  go_wp2
  refine hK.out _ _ ?_; clear hK K
  show Code.wp _ _ _ _ _
  clear r0
  refine forgetW (fun w2 => Bx w2 gx3 29 #[.int .u64 ((lo (Int.natAbs (r)) : Nat) : Int), .string (bg (Int.natAbs (r))), .bool (decide ((r) < 0))] ∧ Below w.heap.size w w2) ⟨BX3.out, HB.out.trans (HG.out.mono HB.out.size)⟩ ?_
  clear HB HG BX2 BX3
  rintro Wx14 ⟨bx3, HB⟩
  replace HB := Lib.hid HB
  -- region 15
  have lx3 := bx3.cells
  have BX3 := Lib.hid bx3
  clear bx3
  refine wp_seq_k fun K hK => ?_
  replace hK := Lib.hid hK
  refine wp_region_seqplan 7 [(true, 0), (true, 1), (true, 2), (true, 3), (true, 4), (true, 5), (true, 6)] (by rfl) (by simp) (fun T hT => ?_)
  iterate 1
    refine wpPlan_takeL (v := ?_) rfl (by rfl) (fun w' hw => ?_) ?_
    rotate_left
    · go_simp
      with_reducible rfl
    simp only [Act.put, List.setIfInBounds_toArray, List.set_cons_zero, List.set_cons_succ]
  refine wpPlan_callL rfl (by rfl) Tryd.call29 (fun w' hw => i64_in (r) _ (by exact HRI.out)) (by rfl) ?_
  simp only [Act.put, List.setIfInBounds_toArray, List.set_cons_zero, List.set_cons_succ]
  iterate 5
    refine wpPlan_takeL (v := ?_) rfl (by rfl) (fun w' hw => ?_) ?_
    rotate_left
    · go_simp
      with_reducible rfl
    simp only [Act.put, List.setIfInBounds_toArray, List.set_cons_zero, List.set_cons_succ]
  refine wpPlan_nil (hT.out _ _ ?_); clear hT T
  intro vw9 hg
  simp only [puts, Act.put, List.setIfInBounds_toArray, List.set_cons_zero, List.set_cons_succ, List.drop_succ_cons, List.drop_zero, ↓reduceIte, Nat.reduceEqDiff]
  clear lx3
  have HG := Lib.hid (hg)
  clear hg
  have bx3 := BX3.out.gr HG.out; clear BX3
  have r0 := Gr.refl vw9
  have BX3 := Lib.hid bx3; clear bx3
  go_wp2
  refine hK.out _ _ ?_; clear hK K
  show Code.wp _ _ _ _ _
  clear r0
  refine forgetW (fun w2 => Below w.heap.size w w2) (HB.out.trans (HG.out.mono HB.out.size)) ?_
  clear HB HG BX3
  rintro Wx15 HB
  replace HB := Lib.hid HB
  -- region 16
  have hd2 : 0 ≤ r := by exact HR0.out
  have hw2 : IntKind.i64.wrap (q * n) = y2 := HW2.out
  have hw3 : IntKind.i64.wrap (y2 + r) = m := HW3.out
  refine wp_seq_k fun K hK => ?_
  replace hK := Lib.hid hK
  refine wp_region_seqplan 36 [(true, 0), (true, 1), (true, 2), (true, 3), (true, 4), (true, 5), (true, 6), (true, 7), (true, 8), (true, 9), (true, 10), (true, 11), (true, 12), (true, 13), (true, 14), (true, 15), (true, 16), (true, 17), (true, 18), (true, 19), (true, 20), (true, 21), (true, 22), (true, 23), (true, 24), (true, 25), (true, 26), (true, 27), (true, 28), (true, 29), (true, 30), (true, 31), (true, 32), (true, 33), (true, 34), (true, 35)] (by rfl) (by simp) (fun T hT => ?_)
  iterate 11
    refine wpPlan_takeL (v := ?_) rfl (by rfl) (fun w' hw => ?_) ?_
    rotate_left
    · go_simp
      with_reducible rfl
    simp only [Act.put, List.setIfInBounds_toArray, List.set_cons_zero, List.set_cons_succ]
  refine wpPlan_skipL rfl (by rfl) ?_
  simp only [Act.put, List.setIfInBounds_toArray, List.set_cons_zero, List.set_cons_succ]
  refine wpPlan_skipL rfl (by rfl) ?_
  simp only [Act.put, List.setIfInBounds_toArray, List.set_cons_zero, List.set_cons_succ]
  refine wpPlan_skipL rfl (by rfl) ?_
  simp only [Act.put, List.setIfInBounds_toArray, List.set_cons_zero, List.set_cons_succ]
  refine wpPlan_skipL rfl (by rfl) ?_
  simp only [Act.put, List.setIfInBounds_toArray, List.set_cons_zero, List.set_cons_succ]
  refine wpPlan_skipL rfl (by rfl) ?_
  simp only [Act.put, List.setIfInBounds_toArray, List.set_cons_zero, List.set_cons_succ]
  refine wpPlan_skipL rfl (by rfl) ?_
  simp only [Act.put, List.setIfInBounds_toArray, List.set_cons_zero, List.set_cons_succ]
  iterate 16
    refine wpPlan_takeL (v := ?_) rfl (by rfl) (fun w' hw => ?_) ?_
    rotate_left
    · go_simp
      with_reducible rfl
    simp only [Act.put, List.setIfInBounds_toArray, List.set_cons_zero, List.set_cons_succ]
  refine wpPlan_callL rfl (by rfl) Tryd.call8 (fun w' hw => worksz_any _ (Lib.hid (HT.out.gr (Gr.trans HB.out hw)))) (by rfl) ?_
  simp only [Act.put, List.setIfInBounds_toArray, List.set_cons_zero, List.set_cons_succ]
  iterate 2
    refine wpPlan_takeL (v := ?_) rfl (by rfl) (fun w' hw => ?_) ?_
    rotate_left
    · go_simp
      with_reducible rfl
    simp only [Act.put, List.setIfInBounds_toArray, List.set_cons_zero, List.set_cons_succ]
  refine wpPlan_nil (hT.out _ _ ?_); clear hT T
  intro vw10 hg
  simp only [puts, Act.put, List.setIfInBounds_toArray, List.set_cons_zero, List.set_cons_succ, List.drop_succ_cons, List.drop_zero, ↓reduceIte, Nat.reduceEqDiff]
  have HG := Lib.hid (hg)
  clear hg
  have r0 := Gr.refl vw10
  go_wp2
  refine hK.out _ _ ?_; clear hK K
  show Code.wp _ _ _ _ _
  clear r0
  refine forgetW (fun w2 => Below w.heap.size w w2) (HB.out.trans (HG.out.mono HB.out.size)) ?_
  clear HB HG
  rintro Wx16 HB
  replace HB := Lib.hid HB
  clear hd2 hw2 hw3
  refine wp_ret ?_
  try simp only [Exit.then, Exit.inBlock]
  have r0 := Gr.refl Wx16
  exact bodyPost_ret (v := .bool true) (by simp [results, Tryd.results7, go_sem]) rfl ⟨rfl, HB.out⟩

end Go.Proofs.YtflhpdlecpehkaaDoor
