/- fracs.lowest. -/
import Derived.Test.YtenpbnmmadbkdaaIntZ
namespace Go.Proofs.Ytenpbnmmadbkdaa
open Go.RowKit
set_option linter.unusedSimpArgs false
set_option linter.unusedVariables false
attribute [local go_sem ↓] Go.wp_at_zero Go.wp_at_succ
set_option maxHeartbeats 1000000 in
theorem lowest_any (n : Int) (d : Nat) (q : Rat) (hq : Hid (mkRat n d = q)) (hd : 0 < d) (h1 : wl n.natAbs ≤ 274877906944) (h2 : wl d ≤ 274877906944) (w : World) :
    Calls Try.prog 33 #[(Value.agg #[.int .u64 ((lo (Int.natAbs (n)) : Nat) : Int), .string (bg (Int.natAbs (n))), .bool (decide ((n) < 0))]), (Value.agg #[.int .u64 ((lo (d) : Nat) : Int), .string (bg (d))])] w fun e w' => e = .returned (.agg #[.int .u64 ((lo (Int.natAbs ((q).num)) : Nat) : Int), .string (bg (Int.natAbs ((q).num))), .bool (decide (((q).num) < 0)), .int .u64 ((lo ((q).den - 1) : Nat) : Int), .string (bg ((q).den - 1))]) ∧ Below w.heap.size w w' := by
  have hqd : wl q.den ≤ 274877906944 := by rw [← hq.out, ← low_den n d hd]; have := wl_div d (Nat.gcd n.natAbs d); omega
  have hqp : 0 < q.den := q.den_pos
  go_enter Try.func33, Try.ntmps33
  -- region 0
  refine wp_seq_k fun K hK => ?_
  replace hK := Lib.hid hK
  refine wp_region_lit ?_
  go_wp2
  refine hK.out _ _ ?_; clear hK K
  show Code.wp _ _ _ _ _
  refine forgetW (fun w2 => Bx w2 (w.heap.size) 34 #[.int .u64 ((lo (Int.natAbs (n)) : Nat) : Int), .string (bg (Int.natAbs (n))), .bool (decide ((n) < 0))] ∧ Bx w2 (w.heap.size + 1) 30 #[.int .u64 ((lo (d) : Nat) : Int), .string (bg (d))] ∧ Bx w2 (w.heap.size + 1 + 1) 36 #[.int .u64 0, .string ⟨#[]⟩, .bool false, .int .u64 0, .string ⟨#[]⟩] ∧ Below w.heap.size w w2) ⟨((Bx.at rfl).alloc _).alloc _, (Bx.at (by simp)).alloc _, Bx.at (by simp), (((Below.refl _ _).alloc (Nat.le_refl _) _).alloc (by simp) _).alloc (by simp; omega) _⟩ ?_
  rintro Wx ⟨bx0, bx1, bx2, HB⟩
  replace HB := Lib.hid HB
  -- region 1
  obtain ⟨u1, HZ1⟩ : ∃ z, Hid (Nat.gcd (Int.natAbs (n)) (d) = z) := ⟨_, Lib.hid rfl⟩
  have su1 : wl u1 ≤ 274877906944 := by rw [← HZ1.out]; have := wl_gcd (Int.natAbs (n)) (d); omega
  have lx0 := bx0.cells
  have lx1 := bx1.cells
  have BX0 := Lib.hid bx0
  have BX1 := Lib.hid bx1
  have BX2 := Lib.hid bx2
  clear bx0 bx1 bx2
  refine wp_seq_k fun K hK => ?_
  replace hK := Lib.hid hK
  refine wp_region_plan 5 [4] [] (fun _ => 5) (fun _ => .cells #[.int .u64 0, .string ⟨#[]⟩] 30) [(true, 0), (true, 2), (true, 1), (true, 3)] (by kernel_rfl) (by kernel_rfl) (by intro i hi; simp only [List.mem_cons, List.not_mem_nil, or_false] at hi; rcases hi with rfl <;> exact ⟨_, rfl, rfl, rfl, by simp, fun ρ w => by kernel_rfl⟩) (fun i hi => by cases hi) (fun _ _ _ _ _ h => h) (fun T hT => ?_)
  iterate 2
    refine wpPlan_takeL (v := ?_) rfl (by rfl) (fun w' hw => ?_) ?_
    rotate_left
    · go_simp
      with_reducible rfl
    simp only [Act.put, List.setIfInBounds_toArray, List.set_cons_zero, List.set_cons_succ]
  refine wpPlan_callL rfl (by rfl) Try.call54 (fun w' hw => abs_any (n) _) (by rfl) ?_
  simp only [Act.put, List.setIfInBounds_toArray, List.set_cons_zero, List.set_cons_succ]
  refine wpPlan_callL rfl (by rfl) Try.call53 (fun w' hw => zgcd (Int.natAbs (n)) (d) (u1) _ HZ1.out (by first | omega | exact Nat.le_trans (wl_small (by decide)) (by decide)) (by first | omega | exact Nat.le_trans (wl_small (by decide)) (by decide))) (by rfl) ?_
  simp only [Act.put, List.setIfInBounds_toArray, List.set_cons_zero, List.set_cons_succ]
  refine wpPlan_nil (hT.out _ _ ?_); clear hT T
  intro G vw1 hg hf
  simp only [puts, Act.put, List.setIfInBounds_toArray, List.set_cons_zero, List.set_cons_succ, List.drop_succ_cons, List.drop_zero, ↓reduceIte, Nat.reduceEqDiff]
  clear lx0 lx1
  have HG := Lib.hid (hg)
  clear hg
  have bx3 := Bx.of_fresh hf (i := 4) (by decide) rfl
  have yx3 := (hf.1 4 (by decide)).1
  clear hf
  generalize G 4 = gx3 at *
  have qx0_3 : w.heap.size < gx3 := Nat.lt_of_lt_of_le BX0.out.lt yx3
  have qx1_3 : w.heap.size + 1 < gx3 := Nat.lt_of_lt_of_le BX1.out.lt yx3
  have qx2_3 : w.heap.size + 1 + 1 < gx3 := Nat.lt_of_lt_of_le BX2.out.lt yx3
  replace yx3 : w.heap.size ≤ gx3 := Nat.le_trans HB.out.size yx3
  have bx0 := BX0.out.gr HG.out; clear BX0
  have bx1 := BX1.out.gr HG.out; clear BX1
  have bx2 := BX2.out.gr HG.out; clear BX2
  have lx3 := bx3.cells; have fx3 := bx3.free
  have r0 := Gr.refl vw1
  have BX0 := Lib.hid bx0; clear bx0
  have BX1 := Lib.hid bx1; clear bx1
  have BX2 := Lib.hid bx2; clear bx2
  have BX3 := Lib.hid bx3; clear bx3
  go_wp2
  refine hK.out _ _ ?_; clear hK K
  show Code.wp _ _ _ _ _
  clear lx3 fx3
  clear r0
  refine forgetW (fun w2 => Bx w2 (w.heap.size) 34 #[.int .u64 ((lo (Int.natAbs (n)) : Nat) : Int), .string (bg (Int.natAbs (n))), .bool (decide ((n) < 0))] ∧ Bx w2 (w.heap.size + 1) 30 #[.int .u64 ((lo (d) : Nat) : Int), .string (bg (d))] ∧ Bx w2 (w.heap.size + 1 + 1) 36 #[.int .u64 0, .string ⟨#[]⟩, .bool false, .int .u64 0, .string ⟨#[]⟩] ∧ Bx w2 gx3 30 #[.int .u64 ((lo (u1) : Nat) : Int), .string (bg (u1))] ∧ Below w.heap.size w w2) ⟨((BX0.out).setOther (by show w.heap.size ≠ gx3; omega) _).setOther (by show w.heap.size ≠ gx3; omega) _, ((BX1.out).setOther (by show w.heap.size + 1 ≠ gx3; omega) _).setOther (by show w.heap.size + 1 ≠ gx3; omega) _, ((BX2.out).setOther (by show w.heap.size + 1 + 1 ≠ gx3; omega) _).setOther (by show w.heap.size + 1 + 1 ≠ gx3; omega) _, (((BX3.out).set 0 _).set 1 _).eq (by simp only [List.setIfInBounds_toArray, List.set_cons_zero, List.set_cons_succ]), ((HB.out.trans (HG.out.mono HB.out.size)).setCell (by show w.heap.size ≤ gx3; omega) _).setCell (by show w.heap.size ≤ gx3; omega) _⟩ ?_
  clear HB HG BX0 BX1 BX2 BX3
  rintro Wx1 ⟨bx0, bx1, bx2, bx3, HB⟩
  replace HB := Lib.hid HB
  -- region 2
  obtain ⟨u2, HZ2⟩ : ∃ z, Hid ((Int.natAbs (n)) / (u1) = z) := ⟨_, Lib.hid rfl⟩
  have su2 : wl u2 ≤ 274877906944 := by rw [← HZ2.out]; have := wl_div (Int.natAbs (n)) (u1); omega
  obtain ⟨u3, HZ3⟩ : ∃ z, Hid ((Int.natAbs (n)) % (u1) = z) := ⟨_, Lib.hid rfl⟩
  have su3 : wl u3 ≤ 274877906944 := by rw [← HZ3.out]; have := wl_mod (Int.natAbs (n)) (u1); omega
  have lx0 := bx0.cells
  have lx3 := bx3.cells
  have BX0 := Lib.hid bx0
  have BX1 := Lib.hid bx1
  have BX2 := Lib.hid bx2
  have BX3 := Lib.hid bx3
  clear bx0 bx1 bx2 bx3
  refine wp_seq_k fun K hK => ?_
  replace hK := Lib.hid hK
  refine wp_region_plan 10 [8, 9] [6, 7] (fun i => if i = 8 then 6 else 7) (fun i => if i = 8 then .cells #[.int .u64 0, .string ⟨#[]⟩] 30 else .cells #[.int .u64 0, .string ⟨#[]⟩] 30) [(true, 0), (true, 2), (true, 1), (true, 3), (true, 4), (true, 5), (true, 6), (true, 7)] (by kernel_rfl) (by kernel_rfl) (by intro i hi; simp only [List.mem_cons, List.not_mem_nil, or_false] at hi; rcases hi with rfl | rfl <;> exact ⟨_, rfl, rfl, rfl, by simp, fun ρ w => by kernel_rfl⟩) (by intro i hi; simp only [List.mem_cons, List.not_mem_nil, or_false] at hi; rcases hi with rfl | rfl <;> exact ⟨_, rfl, pure_extract⟩) (fun _ _ _ _ _ h => h) (fun T hT => ?_)
  iterate 2
    refine wpPlan_takeL (v := ?_) rfl (by rfl) (fun w' hw => ?_) ?_
    rotate_left
    · go_simp
      with_reducible rfl
    simp only [Act.put, List.setIfInBounds_toArray, List.set_cons_zero, List.set_cons_succ]
  refine wpPlan_callL rfl (by rfl) Try.call54 (fun w' hw => abs_any (n) _) (by rfl) ?_
  simp only [Act.put, List.setIfInBounds_toArray, List.set_cons_zero, List.set_cons_succ]
  refine wpPlan_callL rfl (by rfl) Try.call55 (fun w' hw => zdiv (Int.natAbs (n)) (u1) (u2) (u3) _ HZ2.out HZ3.out (by rw [← HZ1.out]; exact Nat.gcd_pos_of_pos_right _ hd) (by first | omega | exact Nat.le_trans (wl_small (by decide)) (by decide)) (by first | omega | exact Nat.le_trans (wl_small (by decide)) (by decide))) (by rfl) ?_
  simp only [Act.put, List.setIfInBounds_toArray, List.set_cons_zero, List.set_cons_succ]
  iterate 4
    refine wpPlan_takeL (v := ?_) rfl (by rfl) (fun w' hw => ?_) ?_
    rotate_left
    · go_simp
      with_reducible rfl
    simp only [Act.put, List.setIfInBounds_toArray, List.set_cons_zero, List.set_cons_succ]
  refine wpPlan_nil (hT.out _ _ ?_); clear hT T
  intro G vw2 hg hf
  simp only [puts, Act.put, List.setIfInBounds_toArray, List.set_cons_zero, List.set_cons_succ, List.drop_succ_cons, List.drop_zero, ↓reduceIte, Nat.reduceEqDiff]
  clear lx0 lx3
  have HG := Lib.hid (hg)
  clear hg
  have bx4 := Bx.of_fresh hf (i := 8) (by decide) rfl
  have yx4 := (hf.1 8 (by decide)).1
  have bx5 := Bx.of_fresh hf (i := 9) (by decide) rfl
  have yx5 := (hf.1 9 (by decide)).1
  have dx4_5 : G 8 ≠ G 9 := fun e => absurd (hf.2 8 (by decide) 9 (by decide) e) (by decide)
  clear hf
  generalize G 8 = gx4 at *
  generalize G 9 = gx5 at *
  have qx0_4 : w.heap.size < gx4 := Nat.lt_of_lt_of_le BX0.out.lt yx4
  have qx0_5 : w.heap.size < gx5 := Nat.lt_of_lt_of_le BX0.out.lt yx5
  have qx1_4 : w.heap.size + 1 < gx4 := Nat.lt_of_lt_of_le BX1.out.lt yx4
  have qx1_5 : w.heap.size + 1 < gx5 := Nat.lt_of_lt_of_le BX1.out.lt yx5
  have qx2_4 : w.heap.size + 1 + 1 < gx4 := Nat.lt_of_lt_of_le BX2.out.lt yx4
  have qx2_5 : w.heap.size + 1 + 1 < gx5 := Nat.lt_of_lt_of_le BX2.out.lt yx5
  have qx3_4 : gx3 < gx4 := Nat.lt_of_lt_of_le BX3.out.lt yx4
  have qx3_5 : gx3 < gx5 := Nat.lt_of_lt_of_le BX3.out.lt yx5
  replace yx4 : w.heap.size ≤ gx4 := Nat.le_trans HB.out.size yx4
  replace yx5 : w.heap.size ≤ gx5 := Nat.le_trans HB.out.size yx5
  have bx0 := BX0.out.gr HG.out; clear BX0
  have bx1 := BX1.out.gr HG.out; clear BX1
  have bx2 := BX2.out.gr HG.out; clear BX2
  have bx3 := BX3.out.gr HG.out; clear BX3
  have lx4 := bx4.cells; have fx4 := bx4.free
  have lx5 := bx5.cells; have fx5 := bx5.free
  have r0 := Gr.refl vw2
  have BX0 := Lib.hid bx0; clear bx0
  have BX1 := Lib.hid bx1; clear bx1
  have BX2 := Lib.hid bx2; clear bx2
  have BX3 := Lib.hid bx3; clear bx3
  have BX4 := Lib.hid bx4; clear bx4
  have BX5 := Lib.hid bx5; clear bx5
  go_wp2
  refine hK.out _ _ ?_; clear hK K
  show Code.wp _ _ _ _ _
  clear lx4 fx4
  clear lx5 fx5
  clear r0
  refine forgetW (fun w2 => Bx w2 (w.heap.size) 34 #[.int .u64 ((lo (Int.natAbs (n)) : Nat) : Int), .string (bg (Int.natAbs (n))), .bool (decide ((n) < 0))] ∧ Bx w2 (w.heap.size + 1) 30 #[.int .u64 ((lo (d) : Nat) : Int), .string (bg (d))] ∧ Bx w2 (w.heap.size + 1 + 1) 36 #[.int .u64 0, .string ⟨#[]⟩, .bool false, .int .u64 0, .string ⟨#[]⟩] ∧ Bx w2 gx3 30 #[.int .u64 ((lo (u1) : Nat) : Int), .string (bg (u1))] ∧ Bx w2 gx4 30 #[.int .u64 ((lo (u2) : Nat) : Int), .string (bg (u2))] ∧ Below w.heap.size w w2) ⟨((((BX0.out).setOther (by show w.heap.size ≠ gx4; omega) _).setOther (by show w.heap.size ≠ gx4; omega) _).setOther (by show w.heap.size ≠ gx5; omega) _).setOther (by show w.heap.size ≠ gx5; omega) _, ((((BX1.out).setOther (by show w.heap.size + 1 ≠ gx4; omega) _).setOther (by show w.heap.size + 1 ≠ gx4; omega) _).setOther (by show w.heap.size + 1 ≠ gx5; omega) _).setOther (by show w.heap.size + 1 ≠ gx5; omega) _, ((((BX2.out).setOther (by show w.heap.size + 1 + 1 ≠ gx4; omega) _).setOther (by show w.heap.size + 1 + 1 ≠ gx4; omega) _).setOther (by show w.heap.size + 1 + 1 ≠ gx5; omega) _).setOther (by show w.heap.size + 1 + 1 ≠ gx5; omega) _, ((((BX3.out).setOther (by show gx3 ≠ gx4; omega) _).setOther (by show gx3 ≠ gx4; omega) _).setOther (by show gx3 ≠ gx5; omega) _).setOther (by show gx3 ≠ gx5; omega) _, (((((BX4.out).set 0 _).set 1 _).setOther (by show gx4 ≠ gx5; omega) _).setOther (by show gx4 ≠ gx5; omega) _).eq (by simp only [List.setIfInBounds_toArray, List.set_cons_zero, List.set_cons_succ]), ((((HB.out.trans (HG.out.mono HB.out.size)).setCell (by show w.heap.size ≤ gx4; omega) _).setCell (by show w.heap.size ≤ gx4; omega) _).setCell (by show w.heap.size ≤ gx5; omega) _).setCell (by show w.heap.size ≤ gx5; omega) _⟩ ?_
  clear HB HG BX0 BX1 BX2 BX3 BX4 BX5
  rintro Wx2 ⟨bx0, bx1, bx2, bx3, bx4, HB⟩
  replace HB := Lib.hid HB
  -- region 3
  have HZ4 : Hid ((d) / (u1) = q.den) := Lib.hid (by rw [← HZ1.out, ← hq.out]; exact low_den n d hd)
  obtain ⟨u5, HZ5⟩ : ∃ z, Hid ((d) % (u1) = z) := ⟨_, Lib.hid rfl⟩
  have su5 : wl u5 ≤ 274877906944 := by rw [← HZ5.out]; have := wl_mod (d) (u1); omega
  have lx1 := bx1.cells
  have lx3 := bx3.cells
  have BX0 := Lib.hid bx0
  have BX1 := Lib.hid bx1
  have BX2 := Lib.hid bx2
  have BX3 := Lib.hid bx3
  have BX4 := Lib.hid bx4
  clear bx0 bx1 bx2 bx3 bx4
  refine wp_seq_k fun K hK => ?_
  replace hK := Lib.hid hK
  refine wp_region_seqplan 7 [(true, 0), (true, 1), (true, 2), (true, 3), (true, 4), (true, 5), (true, 6)] (by rfl) (by simp) (fun T hT => ?_)
  iterate 2
    refine wpPlan_takeL (v := ?_) rfl (by rfl) (fun w' hw => ?_) ?_
    rotate_left
    · go_simp
      with_reducible rfl
    simp only [Act.put, List.setIfInBounds_toArray, List.set_cons_zero, List.set_cons_succ]
  refine wpPlan_callL rfl (by rfl) Try.call55 (fun w' hw => zdiv (d) (u1) (q.den) (u5) _ HZ4.out HZ5.out (by rw [← HZ1.out]; exact Nat.gcd_pos_of_pos_right _ hd) (by first | omega | exact Nat.le_trans (wl_small (by decide)) (by decide)) (by first | omega | exact Nat.le_trans (wl_small (by decide)) (by decide))) (by rfl) ?_
  simp only [Act.put, List.setIfInBounds_toArray, List.set_cons_zero, List.set_cons_succ]
  iterate 4
    refine wpPlan_takeL (v := ?_) rfl (by rfl) (fun w' hw => ?_) ?_
    rotate_left
    · go_simp
      with_reducible rfl
    simp only [Act.put, List.setIfInBounds_toArray, List.set_cons_zero, List.set_cons_succ]
  refine wpPlan_nil (hT.out _ _ ?_); clear hT T
  intro vw3 hg
  simp only [puts, Act.put, List.setIfInBounds_toArray, List.set_cons_zero, List.set_cons_succ, List.drop_succ_cons, List.drop_zero, ↓reduceIte, Nat.reduceEqDiff]
  clear lx1 lx3
  have HG := Lib.hid (hg)
  clear hg
  have bx0 := BX0.out.gr HG.out; clear BX0
  have bx1 := BX1.out.gr HG.out; clear BX1
  have bx2 := BX2.out.gr HG.out; clear BX2
  have bx3 := BX3.out.gr HG.out; clear BX3
  have bx4 := BX4.out.gr HG.out; clear BX4
  have r0 := Gr.refl vw3
  have BX0 := Lib.hid bx0; clear bx0
  have BX1 := Lib.hid bx1; clear bx1
  have BX2 := Lib.hid bx2; clear bx2
  have BX3 := Lib.hid bx3; clear bx3
  have BX4 := Lib.hid bx4; clear bx4
  go_wp2
  refine hK.out _ _ ?_; clear hK K
  show Code.wp _ _ _ _ _
  clear r0
  have hsz : w.heap.size ≤ vw3.heap.size := Nat.le_trans HB.out.size HG.out.size
  have mx0 : w.heap.size < vw3.heap.size := BX0.out.lt
  have mx1 : w.heap.size + 1 < vw3.heap.size := BX1.out.lt
  have mx2 : w.heap.size + 1 + 1 < vw3.heap.size := BX2.out.lt
  have mx3 : gx3 < vw3.heap.size := BX3.out.lt
  have mx4 : gx4 < vw3.heap.size := BX4.out.lt
  refine forgetW (fun w2 => Bx w2 (w.heap.size) 34 #[.int .u64 ((lo (Int.natAbs (n)) : Nat) : Int), .string (bg (Int.natAbs (n))), .bool (decide ((n) < 0))] ∧ Bx w2 (w.heap.size + 1 + 1) 36 #[.int .u64 0, .string ⟨#[]⟩, .bool false, .int .u64 0, .string ⟨#[]⟩] ∧ Bx w2 gx4 30 #[.int .u64 ((lo (u2) : Nat) : Int), .string (bg (u2))] ∧ Bx w2 (vw3.heap.size) 30 #[.int .u64 ((lo (q.den) : Nat) : Int), .string (bg (q.den))] ∧ Below w.heap.size w w2) ⟨((BX0.out).alloc _).alloc _, ((BX2.out).alloc _).alloc _, ((BX4.out).alloc _).alloc _, ((Bx.at (by simp) : Bx _ (vw3.heap.size) _ _)).alloc _, ((HB.out.trans (HG.out.mono HB.out.size)).alloc (by first | omega | (simp; omega)) _).alloc (by first | omega | (simp; omega)) _⟩ ?_
  clear HB HG BX0 BX1 BX2 BX3 BX4
  rintro Wx3 ⟨bx0, bx2, bx4, bx6, HB⟩
  replace HB := Lib.hid HB
  have yx6 : w.heap.size ≤ vw3.heap.size := by omega
  have qx0_6 : w.heap.size < vw3.heap.size := by omega
  have qx1_6 : w.heap.size + 1 < vw3.heap.size := by omega
  have qx2_6 : w.heap.size + 1 + 1 < vw3.heap.size := by omega
  have qx3_6 : gx3 < vw3.heap.size := by omega
  have qx4_6 : gx4 < vw3.heap.size := by omega
  generalize hx6 : vw3.heap.size = gx6 at *
  clear hx6
  clear hsz mx0 mx1 mx2 mx3 mx4
  -- region 4
  have HZ6 : Hid ((q.den) - (1) = (q).den - 1) := Lib.hid (rfl)
  have lx6 := bx6.cells
  have BX0 := Lib.hid bx0
  have BX2 := Lib.hid bx2
  have BX4 := Lib.hid bx4
  have BX6 := Lib.hid bx6
  clear bx0 bx2 bx4 bx6
  refine wp_seq_k fun K hK => ?_
  replace hK := Lib.hid hK
  refine wp_region_plan 6 [] [5] (fun _ => 0) (fun _ => .cells #[] 0) [(true, 0), (true, 1), (true, 2), (true, 3), (true, 4), (true, 5)] (by kernel_rfl) (by kernel_rfl) (fun i hi => by cases hi) (by intro i hi; simp only [List.mem_cons, List.not_mem_nil, or_false] at hi; rcases hi with rfl <;> exact ⟨_, rfl, pure_extract⟩) (fun _ _ _ _ _ h => h) (fun T hT => ?_)
  iterate 1
    refine wpPlan_takeL (v := ?_) rfl (by rfl) (fun w' hw => ?_) ?_
    rotate_left
    · go_simp
      with_reducible rfl
    simp only [Act.put, List.setIfInBounds_toArray, List.set_cons_zero, List.set_cons_succ]
  refine wpPlan_callL rfl (by rfl) Try.call57 (fun w' hw => zof 1 _ (by decide)) (by rfl) ?_
  simp only [Act.put, List.setIfInBounds_toArray, List.set_cons_zero, List.set_cons_succ]
  refine wpPlan_callL rfl (by rfl) Try.call56 (fun w' hw => zsub (q.den) (1) ((q).den - 1) _ HZ6.out (by first | omega | exact Nat.le_trans (wl_small (by decide)) (by decide)) (by first | omega | exact Nat.le_trans (wl_small (by decide)) (by decide)) (by first | omega | exact Nat.le_trans (wl_small (by decide)) (by decide))) (by rfl) ?_
  simp only [Act.put, List.setIfInBounds_toArray, List.set_cons_zero, List.set_cons_succ]
  iterate 3
    refine wpPlan_takeL (v := ?_) rfl (by rfl) (fun w' hw => ?_) ?_
    rotate_left
    · go_simp
      with_reducible rfl
    simp only [Act.put, List.setIfInBounds_toArray, List.set_cons_zero, List.set_cons_succ]
  refine wpPlan_nil (hT.out _ _ ?_); clear hT T
  intro G vw4 hg hf
  simp only [puts, Act.put, List.setIfInBounds_toArray, List.set_cons_zero, List.set_cons_succ, List.drop_succ_cons, List.drop_zero, ↓reduceIte, Nat.reduceEqDiff]
  clear lx6
  have HG := Lib.hid (hg)
  clear hg
  have bx0 := BX0.out.gr HG.out; clear BX0
  have bx2 := BX2.out.gr HG.out; clear BX2
  have bx4 := BX4.out.gr HG.out; clear BX4
  have bx6 := BX6.out.gr HG.out; clear BX6
  have lx6 := bx6.cells; have fx6 := bx6.free
  have r0 := Gr.refl vw4
  have BX0 := Lib.hid bx0; clear bx0
  have BX2 := Lib.hid bx2; clear bx2
  have BX4 := Lib.hid bx4; clear bx4
  have BX6 := Lib.hid bx6; clear bx6
  go_wp2
  refine hK.out _ _ ?_; clear hK K
  show Code.wp _ _ _ _ _
  clear lx6 fx6
  clear r0
  refine forgetW (fun w2 => Bx w2 (w.heap.size) 34 #[.int .u64 ((lo (Int.natAbs (n)) : Nat) : Int), .string (bg (Int.natAbs (n))), .bool (decide ((n) < 0))] ∧ Bx w2 (w.heap.size + 1 + 1) 36 #[.int .u64 0, .string ⟨#[]⟩, .bool false, .int .u64 0, .string ⟨#[]⟩] ∧ Bx w2 gx4 30 #[.int .u64 ((lo (u2) : Nat) : Int), .string (bg (u2))] ∧ Bx w2 gx6 30 #[.int .u64 ((lo ((q).den - 1) : Nat) : Int), .string (bg ((q).den - 1))] ∧ Below w.heap.size w w2) ⟨((BX0.out).setOther (by show w.heap.size ≠ gx6; omega) _).setOther (by show w.heap.size ≠ gx6; omega) _, ((BX2.out).setOther (by show w.heap.size + 1 + 1 ≠ gx6; omega) _).setOther (by show w.heap.size + 1 + 1 ≠ gx6; omega) _, ((BX4.out).setOther (by show gx4 ≠ gx6; omega) _).setOther (by show gx4 ≠ gx6; omega) _, (((BX6.out).set 0 _).set 1 _).eq (by simp only [List.setIfInBounds_toArray, List.set_cons_zero, List.set_cons_succ]), ((HB.out.trans (HG.out.mono HB.out.size)).setCell (by show w.heap.size ≤ gx6; omega) _).setCell (by show w.heap.size ≤ gx6; omega) _⟩ ?_
  clear HB HG BX0 BX2 BX4 BX6
  rintro Wx4 ⟨bx0, bx2, bx4, bx6, HB⟩
  replace HB := Lib.hid HB
  -- region 5
  have HZ7 : Hid ((if decide (sgI (n) < 0) then -((u2 : Nat) : Int) else ((u2 : Nat) : Int)) = (q).num) := Lib.hid (by rw [← HZ2.out, ← HZ1.out, ← hq.out, ← low_num n d hd]; simp only [sgI_neg, decide_eq_true_eq])
  have lx0 := bx0.cells
  have lx4 := bx4.cells
  have lx6 := bx6.cells
  have BX0 := Lib.hid bx0
  have BX2 := Lib.hid bx2
  have BX4 := Lib.hid bx4
  have BX6 := Lib.hid bx6
  clear bx0 bx2 bx4 bx6
  refine wp_seq_k fun K hK => ?_
  replace hK := Lib.hid hK
  refine wp_region_plan 7 [] [] (fun _ => 0) (fun _ => .cells #[] 0) [(true, 0), (true, 3), (true, 5), (true, 1), (true, 2), (true, 4), (true, 6)] (by kernel_rfl) (by kernel_rfl) (fun i hi => by cases hi) (fun i hi => by cases hi) (fun _ _ _ _ _ h => h) (fun T hT => ?_)
  iterate 3
    refine wpPlan_takeL (v := ?_) rfl (by rfl) (fun w' hw => ?_) ?_
    rotate_left
    · go_simp
      with_reducible rfl
    simp only [Act.put, List.setIfInBounds_toArray, List.set_cons_zero, List.set_cons_succ]
  refine wpPlan_callL rfl (by rfl) Try.call38 (fun w' hw => sign_int (n) _) (by rfl) ?_
  simp only [Act.put, List.setIfInBounds_toArray, List.set_cons_zero, List.set_cons_succ]
  iterate 1
    refine wpPlan_takeL (v := ?_) rfl (by rfl) (fun w' hw => ?_) ?_
    rotate_left
    · go_simp
      with_reducible rfl
    simp only [Act.put, List.setIfInBounds_toArray, List.set_cons_zero, List.set_cons_succ]
  refine wpPlan_callL rfl (by rfl) Try.call58 (fun w' hw => from_any (decide (sgI (n) < 0)) (u2) ((q).num) _ HZ7.out) (by rfl) ?_
  simp only [Act.put, List.setIfInBounds_toArray, List.set_cons_zero, List.set_cons_succ]
  iterate 1
    refine wpPlan_takeL (v := ?_) rfl (by rfl) (fun w' hw => ?_) ?_
    rotate_left
    · go_simp
      with_reducible rfl
    simp only [Act.put, List.setIfInBounds_toArray, List.set_cons_zero, List.set_cons_succ]
  refine wpPlan_nil (hT.out _ _ ?_); clear hT T
  intro G vw5 hg hf
  simp only [puts, Act.put, List.setIfInBounds_toArray, List.set_cons_zero, List.set_cons_succ, List.drop_succ_cons, List.drop_zero, ↓reduceIte, Nat.reduceEqDiff]
  clear lx0 lx4 lx6
  have HG := Lib.hid (hg)
  clear hg
  have bx0 := BX0.out.gr HG.out; clear BX0
  have bx2 := BX2.out.gr HG.out; clear BX2
  have bx4 := BX4.out.gr HG.out; clear BX4
  have bx6 := BX6.out.gr HG.out; clear BX6
  have lx2 := bx2.cells; have fx2 := bx2.free
  have r0 := Gr.refl vw5
  have BX0 := Lib.hid bx0; clear bx0
  have BX2 := Lib.hid bx2; clear bx2
  have BX4 := Lib.hid bx4; clear bx4
  have BX6 := Lib.hid bx6; clear bx6
  go_wp2
  refine hK.out _ _ ?_; clear hK K
  show Code.wp _ _ _ _ _
  clear lx2 fx2
  clear r0
  refine forgetW (fun w2 => Bx w2 (w.heap.size + 1 + 1) 36 #[.int .u64 ((lo (Int.natAbs ((q).num)) : Nat) : Int), .string (bg (Int.natAbs ((q).num))), .bool (decide (((q).num) < 0)), .int .u64 ((lo ((q).den - 1) : Nat) : Int), .string (bg ((q).den - 1))] ∧ Below w.heap.size w w2) ⟨((((((BX2.out).set 0 _).set 1 _).set 2 _).set 3 _).set 4 _).eq (by simp only [List.setIfInBounds_toArray, List.set_cons_zero, List.set_cons_succ]), (((((HB.out.trans (HG.out.mono HB.out.size)).setCell (by show w.heap.size ≤ w.heap.size + 1 + 1; omega) _).setCell (by show w.heap.size ≤ w.heap.size + 1 + 1; omega) _).setCell (by show w.heap.size ≤ w.heap.size + 1 + 1; omega) _).setCell (by show w.heap.size ≤ w.heap.size + 1 + 1; omega) _).setCell (by show w.heap.size ≤ w.heap.size + 1 + 1; omega) _⟩ ?_
  clear HB HG BX0 BX2 BX4 BX6
  rintro Wx5 ⟨bx2, HB⟩
  replace HB := Lib.hid HB
  refine wp_ret ?_
  try simp only [Exit.then, Exit.inBlock]
  have lx2 := bx2.cells
  have r0 := Gr.refl Wx5
  exact bodyPost_ret (v := .agg #[.int .u64 ((lo (Int.natAbs ((q).num)) : Nat) : Int), .string (bg (Int.natAbs ((q).num))), .bool (decide (((q).num) < 0)), .int .u64 ((lo ((q).den - 1) : Nat) : Int), .string (bg ((q).den - 1))]) (by simp [results, Try.results33, go_sem, lx2 _ r0]) rfl ⟨rfl, HB.out⟩

end Go.Proofs.Ytenpbnmmadbkdaa
