
/- ints.Div: quotient and rest as Lean's / and %. -/
import Derived.Test.YtflhpdlecpehkaaDoorSh
import Derived.Test.YtflhpdlecpehkaaDoorIntE
import Derived.Test.YtflhpdlecpehkaaDoorPJ
namespace Go.Proofs.YtflhpdlecpehkaaDoor
open Go.RowKit
set_option linter.unusedSimpArgs false
set_option linter.unusedVariables false
attribute [local go_sem ↓] Go.wp_at_zero Go.wp_at_succ
attribute [local go_sem ↓] eq_nat eq_nat_zero eq_int
set_option maxRecDepth 20000 in
set_option maxHeartbeats 4000000 in
theorem div_pp (a b q r : Int) (w : World) (HQ : Hid (a / b = q)) (HR : Hid (a % b = r)) (HBS : Hid (0 < b)) (H0 : Hid (0 ≤ a)) (HRS : Hid (0 ≤ r)) (ha9 : wl a.natAbs ≤ 100000000000) (hb9 : wl b.natAbs ≤ 100000000000) :
    Calls Tryd.prog 28 #[(Value.agg #[.int .u64 (lo (Int.natAbs (a))), .string (bg (Int.natAbs (a))), .bool (decide ((a) < 0))]), (Value.agg #[.int .u64 (lo (Int.natAbs (b))), .string (bg (Int.natAbs (b))), .bool (decide ((b) < 0))])] w fun e w' => e = .returned (.tuple #[(.agg #[.int .u64 (lo (Int.natAbs (q))), .string (bg (Int.natAbs (q))), .bool (decide ((q) < 0))]), (.agg #[.int .u64 (lo (Int.natAbs (r))), .string (bg (Int.natAbs (r))), .bool (decide ((r) < 0))]), .bool true]) ∧ Below w.heap.size w w' := by
  go_enter Tryd.func28, Tryd.ntmps28
  refine sK fun K hK => ?_
  refine wp_region_lit ?_
  go_wp2
  refine hK.out _ _ ?_; clear hK K
  show Code.wp _ _ _ _ _
  refine forgetW (fun w2 => Bx w2 (w.heap.size) 29 #[.int .u64 (lo (Int.natAbs (a))), .string (bg (Int.natAbs (a))), .bool (decide ((a) < 0))] ∧ Bx w2 (w.heap.size + 1) 29 #[.int .u64 (lo (Int.natAbs (b))), .string (bg (Int.natAbs (b))), .bool (decide ((b) < 0))] ∧ Bx w2 (w.heap.size + 1 + 1) 29 #[.int .u64 0, .string ⟨#[]⟩, .bool false] ∧ Bx w2 (w.heap.size + 1 + 1 + 1) 29 #[.int .u64 0, .string ⟨#[]⟩, .bool false] ∧ Below w.heap.size w w2) ⟨(((Bx.at rfl).alloc _).alloc _).alloc _, ((Bx.at (by simp)).alloc _).alloc _, (Bx.at (by simp)).alloc _, Bx.at (by simp), ((((Below.refl _ _).alloc (Nat.le_refl _) _).alloc (by simp) _).alloc (by simp; omega) _).alloc (by simp; omega) _⟩ ?_
  rintro Wx ⟨bx0, bx1, bx2, bx3, HB⟩
  replace HB := Lib.hid HB
  obtain ⟨u1, HZ1⟩ : ∃ z, Hid ((Int.natAbs (a)) / (Int.natAbs (b)) = z) := ⟨_, Lib.hid rfl⟩
  have su1 : wl (u1) ≤ 100000000000 := by rw [← HZ1.out]; have := wl_div (Int.natAbs (a)) (Int.natAbs (b)); omega
  obtain ⟨u2, HZ2⟩ : ∃ z, Hid ((Int.natAbs (a)) % (Int.natAbs (b)) = z) := ⟨_, Lib.hid rfl⟩
  have su2 : wl (u2) ≤ 100000000000 := by rw [← HZ2.out]; have := wl_mod (Int.natAbs (a)) (Int.natAbs (b)); omega
  have lx0 := bx0.cells
  have lx1 := bx1.cells
  have BX0 := Lib.hid bx0
  have BX1 := Lib.hid bx1
  have BX2 := Lib.hid bx2
  have BX3 := Lib.hid bx3
  clear bx0 bx1 bx2 bx3
  refine sK fun K hK => ?_
  refine wp_region_seqplan 11 [(true, 0), (true, 1), (true, 2), (true, 3), (true, 4), (true, 5), (true, 6), (true, 7), (true, 8), (true, 9), (true, 10)] (by rfl) (by simp) (fun T hT => ?_)
  iterate 6 (refine wpPlan_takeL (v := ?_) rfl (by rfl) (fun w' hw => ?_) ?_; rotate_left; go_simp; with_reducible rfl; simp only [Act.put, rA, rB, rC])
  refine wpPlan_callL rfl (by rfl) Tryd.call50 (fun w' hw => nzdiv (Int.natAbs (a)) (Int.natAbs (b)) (u1) (u2) _ HZ1.out HZ2.out (by have h0 := H0.out; have hb := HBS.out; have hr := HRS.out; first | omega | (try simp only [← HZ2.out, ← HZ1.out]) <;> first | rfl | omega | (simp; done) | grind) (by first | omega | exact wlc (by decide)) (by first | omega | exact wlc (by decide))) (by rfl) ?_
  simp only [Act.put, rA, rB, rC]
  iterate 4 (refine wpPlan_takeL (v := ?_) rfl (by rfl) (fun w' hw => ?_) ?_; rotate_left; go_simp; with_reducible rfl; simp only [Act.put, rA, rB, rC])
  refine wpPlan_nil (hT.out _ _ ?_); clear hT T
  intro vw1 hg
  simp only [puts, Act.put, rA, rB, rC, rD, rE, ↓reduceIte, Nat.reduceEqDiff]
  clear lx0 lx1
  have HG := Lib.hid (hg)
  clear hg
  replace BX0 := bG BX0 HG
  replace BX1 := bG BX1 HG
  replace BX2 := bG BX2 HG
  replace BX3 := bG BX3 HG
  have r0 := Gr.refl vw1
  go_wp2
  refine hK.out _ _ ?_; clear hK K
  show Code.wp _ _ _ _ _
  clear r0
  have hsz : w.heap.size ≤ vw1.heap.size := Nat.le_trans HB.out.size HG.out.size
  have mx0 : w.heap.size < vw1.heap.size := BX0.out.lt
  have mx1 : w.heap.size + 1 < vw1.heap.size := BX1.out.lt
  have mx2 : w.heap.size + 1 + 1 < vw1.heap.size := BX2.out.lt
  have mx3 : w.heap.size + 1 + 1 + 1 < vw1.heap.size := BX3.out.lt
  refine forgetW (fun w2 => Bx w2 (w.heap.size) 29 #[.int .u64 (lo (Int.natAbs (a))), .string (bg (Int.natAbs (a))), .bool (decide ((a) < 0))] ∧ Bx w2 (w.heap.size + 1) 29 #[.int .u64 (lo (Int.natAbs (b))), .string (bg (Int.natAbs (b))), .bool (decide ((b) < 0))] ∧ Bx w2 (w.heap.size + 1 + 1) 29 #[.int .u64 0, .string ⟨#[]⟩, .bool false] ∧ Bx w2 (w.heap.size + 1 + 1 + 1) 29 #[.int .u64 0, .string ⟨#[]⟩, .bool false] ∧ NX w2 (vw1.heap.size) (u1) ∧ NX w2 (vw1.heap.size + 1) (u2) ∧ Below w.heap.size w w2) ⟨((BX0.out).alloc _).alloc _, ((BX1.out).alloc _).alloc _, ((BX2.out).alloc _).alloc _, ((BX3.out).alloc _).alloc _, ((Bx.at (by simp) : Bx _ (vw1.heap.size) _ _)).alloc _, (Bx.at (by simp) : Bx _ (vw1.heap.size + 1) _ _), ((HB.out.trans (HG.out.mono HB.out.size)).alloc (by first | omega | (simp; omega)) _).alloc (by first | omega | (simp; omega)) _⟩ ?_
  clear HB HG BX0 BX1 BX2 BX3
  rintro Wx1 ⟨bx0, bx1, bx2, bx3, bx4, bx5, HB⟩
  replace HB := Lib.hid HB
  have qx4_5 : vw1.heap.size < vw1.heap.size + 1 := by omega
  have yx5 : w.heap.size ≤ vw1.heap.size + 1 := by omega
  have qx0_5 : w.heap.size < vw1.heap.size + 1 := by omega
  have qx1_5 : w.heap.size + 1 < vw1.heap.size + 1 := by omega
  have qx2_5 : w.heap.size + 1 + 1 < vw1.heap.size + 1 := by omega
  have qx3_5 : w.heap.size + 1 + 1 + 1 < vw1.heap.size + 1 := by omega
  generalize hx5 : vw1.heap.size + 1 = gx5 at *
  clear hx5
  have yx4 : w.heap.size ≤ vw1.heap.size := by omega
  have qx0_4 : w.heap.size < vw1.heap.size := by omega
  have qx1_4 : w.heap.size + 1 < vw1.heap.size := by omega
  have qx2_4 : w.heap.size + 1 + 1 < vw1.heap.size := by omega
  have qx3_4 : w.heap.size + 1 + 1 + 1 < vw1.heap.size := by omega
  generalize hx4 : vw1.heap.size = gx4 at *
  clear hx4
  clear hsz mx0 mx1 mx2 mx3
  refine wp_seq ?_
  have BX0 := Lib.hid bx0
  have BX1 := Lib.hid bx1
  have BX2 := Lib.hid bx2
  have BX3 := Lib.hid bx3
  have BX4 := Lib.hid bx4
  have BX5 := Lib.hid bx5
  clear bx0 bx1 bx2 bx3 bx4 bx5
  refine sK fun K hK => ?_
  refine wp_region_seqplan 2 [(true, 0), (true, 1)] (by rfl) (by simp) (fun T hT => ?_)
  iterate 2 (refine wpPlan_takeL (v := ?_) rfl (by rfl) (fun w' hw => ?_) ?_; rotate_left; go_simp; with_reducible rfl; simp only [Act.put, rA, rB, rC])
  refine wpPlan_nil (hT.out _ _ ?_); clear hT T
  intro vw2 hg
  simp only [puts, Act.put, rA, rB, rC, rD, rE, ↓reduceIte, Nat.reduceEqDiff]
  have HG := Lib.hid (hg)
  clear hg
  replace BX0 := bG BX0 HG
  replace BX1 := bG BX1 HG
  replace BX2 := bG BX2 HG
  replace BX3 := bG BX3 HG
  replace BX4 := bG BX4 HG
  replace BX5 := bG BX5 HG
  have r0 := Gr.refl vw2
  go_wp2
  refine hK.out _ _ ?_; clear hK K
  show Code.wp _ _ _ _ _
  clear r0
  refine forgetW (fun w2 => Bx w2 (w.heap.size) 29 #[.int .u64 (lo (Int.natAbs (a))), .string (bg (Int.natAbs (a))), .bool (decide ((a) < 0))] ∧ Bx w2 (w.heap.size + 1) 29 #[.int .u64 (lo (Int.natAbs (b))), .string (bg (Int.natAbs (b))), .bool (decide ((b) < 0))] ∧ Bx w2 (w.heap.size + 1 + 1) 29 #[.int .u64 0, .string ⟨#[]⟩, .bool false] ∧ Bx w2 (w.heap.size + 1 + 1 + 1) 29 #[.int .u64 0, .string ⟨#[]⟩, .bool false] ∧ NX w2 gx4 (u1) ∧ NX w2 gx5 (u2) ∧ Below w.heap.size w w2) ⟨BX0.out, BX1.out, BX2.out, BX3.out, BX4.out, BX5.out, HB.out.trans (HG.out.mono HB.out.size)⟩ ?_
  clear HB HG BX0 BX1 BX2 BX3 BX4 BX5
  rintro Wx2 ⟨bx0, bx1, bx2, bx3, bx4, bx5, HB⟩
  replace HB := Lib.hid HB
  refine wp_cond_false (by rfl) ?_
  refine wp_skip ?_
  show Code.wp _ _ _ _ _
  have hd1 : decide ((a) < 0) = false := decide_eq_false (by have h0 := H0.out; have hb := HBS.out; have hr := HRS.out; first | omega | (try simp only [← HZ2.out, ← HZ1.out]) <;> first | rfl | omega | (simp; done) | grind)
  have hd2 : decide ((b) < 0) = false := decide_eq_false (by have h0 := H0.out; have hb := HBS.out; have hr := HRS.out; first | omega | (try simp only [← HZ2.out, ← HZ1.out]) <;> first | rfl | omega | (simp; done) | grind)
  have hd3 : decide ((a) < 0) = false := decide_eq_false (by have h0 := H0.out; have hb := HBS.out; have hr := HRS.out; first | omega | (try simp only [← HZ2.out, ← HZ1.out]) <;> first | rfl | omega | (simp; done) | grind)
  have HZ3 : Hid ((if false then -((u1 : Nat) : Int) else ((u1 : Nat) : Int)) = q) := Lib.hid (by have h0 := H0.out; have hb := HBS.out; have hr := HRS.out; rw [← HQ.out, ← HZ1.out]; exact dq false false (decide_eq_false (by omega)) (decide_eq_false (by omega)) (by omega) (.inl (by omega)))
  have su3 : wl (Int.natAbs (q)) ≤ 100000000000 := by have e := HZ3.out; first | omega | (rw [← e]; split <;> simp <;> omega)
  have HZ4 : Hid ((if false then -((u2 : Nat) : Int) else ((u2 : Nat) : Int)) = r) := Lib.hid (by have h0 := H0.out; have hb := HBS.out; have hr := HRS.out; rw [← HR.out, ← HZ2.out]; exact dr false (decide_eq_false (by omega)) (by omega) (.inl (by omega)))
  have su4 : wl (Int.natAbs (r)) ≤ 100000000000 := by have e := HZ4.out; first | omega | (rw [← e]; split <;> simp <;> omega)
  have lx0 := bx0.cells
  have lx1 := bx1.cells
  have lx4 := bx4.cells
  have lx5 := bx5.cells
  have BX0 := Lib.hid bx0
  have BX1 := Lib.hid bx1
  have BX2 := Lib.hid bx2
  have BX3 := Lib.hid bx3
  have BX4 := Lib.hid bx4
  have BX5 := Lib.hid bx5
  clear bx0 bx1 bx2 bx3 bx4 bx5
  refine sK fun K hK => ?_
  refine wp_region_plan 11 [] [] (fun _ => 0) (fun _ => .cells #[] 0) [(true, 0), (true, 1), (true, 2), (true, 3), (true, 4), (true, 5), (true, 7), (true, 8), (true, 9), (true, 6), (true, 10)] (by kernel_rfl) (by kernel_rfl) (fun i hi => by cases hi) (fun i hi => by cases hi) (fun _ _ _ _ _ h => h) (fun T hT => ?_)
  iterate 9 (refine wpPlan_takeL (v := ?_) rfl (by rfl) (fun w' hw => ?_) ?_; rotate_left; go_simp; with_reducible rfl; simp only [Act.put, rA, rB, rC])
  refine wpPlan_callL rfl (by rfl) Tryd.call25 (fun w' hw => from_any false (u1) (q) _ HZ3.out) (by rfl) ?_
  simp only [Act.put, rA, rB, rC]
  refine wpPlan_callL rfl (by rfl) Tryd.call25 (fun w' hw => from_any false (u2) (r) _ HZ4.out) (by rfl) ?_
  simp only [Act.put, rA, rB, rC]
  refine wpPlan_nil (hT.out _ _ ?_); clear hT T
  intro G vw3 hg hf
  simp only [puts, Act.put, rA, rB, rC, rD, rE, ↓reduceIte, Nat.reduceEqDiff]
  clear lx0 lx1 lx4 lx5
  have HG := Lib.hid (hg)
  clear hg
  replace BX0 := bG BX0 HG
  replace BX1 := bG BX1 HG
  replace BX2 := bG BX2 HG
  replace BX3 := bG BX3 HG
  replace BX4 := bG BX4 HG
  replace BX5 := bG BX5 HG
  have lx2 := BX2.out.cells; have fx2 := BX2.out.free
  have lx3 := BX3.out.cells; have fx3 := BX3.out.free
  have r0 := Gr.refl vw3
  go_wp2
  refine hK.out _ _ ?_; clear hK K
  show Code.wp _ _ _ _ _
  clear lx2 fx2
  clear lx3 fx3
  clear r0
  refine forgetW (fun w2 => Bx w2 (w.heap.size + 1) 29 #[.int .u64 (lo (Int.natAbs (b))), .string (bg (Int.natAbs (b))), .bool (decide ((b) < 0))] ∧ Bx w2 (w.heap.size + 1 + 1) 29 #[.int .u64 (lo (Int.natAbs (q))), .string (bg (Int.natAbs (q))), .bool (decide ((q) < 0))] ∧ Bx w2 (w.heap.size + 1 + 1 + 1) 29 #[.int .u64 (lo (Int.natAbs (r))), .string (bg (Int.natAbs (r))), .bool (decide ((r) < 0))] ∧ Below w.heap.size w w2) ⟨so3 (so3 (BX1.out) (by show w.heap.size + 1 ≠ w.heap.size + 1 + 1; omega)) (by show w.heap.size + 1 ≠ w.heap.size + 1 + 1 + 1; omega), (so3 ((((BX2.out).set 0 _).set 1 _).set 2 _) (by show w.heap.size + 1 + 1 ≠ w.heap.size + 1 + 1 + 1; omega)).eq (by simp only [rA, rB, rC]), ((((so3 (BX3.out) (by show w.heap.size + 1 + 1 + 1 ≠ w.heap.size + 1 + 1; omega)).set 0 _).set 1 _).set 2 _).eq (by simp only [rA, rB, rC]), sc3 (sc3 (HB.out.trans (HG.out.mono HB.out.size)) (by show w.heap.size ≤ w.heap.size + 1 + 1; omega)) (by show w.heap.size ≤ w.heap.size + 1 + 1 + 1; omega)⟩ ?_
  clear HB HG BX0 BX1 BX2 BX3 BX4 BX5
  rintro Wx4 ⟨bx1, bx2, bx3, HB⟩
  replace HB := Lib.hid HB
  clear hd1 hd2 hd3
  refine wp_seq ?_
  have hd4 : decide ((r) < 0) = false := decide_eq_false (by have h0 := H0.out; have hb := HBS.out; have hr := HRS.out; first | omega | (try simp only [← HZ2.out, ← HZ1.out]) <;> first | rfl | omega | (simp; done) | grind)
  have lx3 := bx3.cells
  have BX1 := Lib.hid bx1
  have BX2 := Lib.hid bx2
  have BX3 := Lib.hid bx3
  clear bx1 bx2 bx3
  refine sK fun K hK => ?_
  refine wp_region_seqplan 2 [(true, 0), (true, 1)] (by rfl) (by simp) (fun T hT => ?_)
  iterate 2 (refine wpPlan_takeL (v := ?_) rfl (by rfl) (fun w' hw => ?_) ?_; rotate_left; go_simp; with_reducible rfl; simp only [Act.put, rA, rB, rC])
  refine wpPlan_nil (hT.out _ _ ?_); clear hT T
  intro vw4 hg
  simp only [puts, Act.put, rA, rB, rC, rD, rE, ↓reduceIte, Nat.reduceEqDiff]
  clear lx3
  have HG := Lib.hid (hg)
  clear hg
  replace BX1 := bG BX1 HG
  replace BX2 := bG BX2 HG
  replace BX3 := bG BX3 HG
  have r0 := Gr.refl vw4
  go_wp2
  refine hK.out _ _ ?_; clear hK K
  show Code.wp _ _ _ _ _
  clear r0
  refine forgetW (fun w2 => Bx w2 (w.heap.size + 1) 29 #[.int .u64 (lo (Int.natAbs (b))), .string (bg (Int.natAbs (b))), .bool (decide ((b) < 0))] ∧ Bx w2 (w.heap.size + 1 + 1) 29 #[.int .u64 (lo (Int.natAbs (q))), .string (bg (Int.natAbs (q))), .bool (decide ((q) < 0))] ∧ Bx w2 (w.heap.size + 1 + 1 + 1) 29 #[.int .u64 (lo (Int.natAbs (r))), .string (bg (Int.natAbs (r))), .bool (decide ((r) < 0))] ∧ Below w.heap.size w w2) ⟨BX1.out, BX2.out, BX3.out, HB.out.trans (HG.out.mono HB.out.size)⟩ ?_
  clear HB HG BX1 BX2 BX3
  rintro Wx5 ⟨bx1, bx2, bx3, HB⟩
  replace HB := Lib.hid HB
  clear hd4
  refine wp_cond_false (by rfl) ?_
  refine wp_skip ?_
  show Code.wp _ _ _ _ _
  have lx2 := bx2.cells; have fx2 := bx2.free
  have lx3 := bx3.cells; have fx3 := bx3.free
  have r0 := Gr.refl Wx5
  have BX1 := Lib.hid bx1; clear bx1
  have BX2 := Lib.hid bx2; clear bx2
  have BX3 := Lib.hid bx3; clear bx3
  refine sK fun K hK => ?_
  go_region
  go_wp2
  refine hK.out _ _ ?_; clear hK K
  show Code.wp _ _ _ _ _
  clear r0 lx2 fx2 lx3 fx3
  refine forgetW (fun w2 => Bx w2 (w.heap.size + 1 + 1) 29 #[.int .u64 (lo (Int.natAbs (q))), .string (bg (Int.natAbs (q))), .bool (decide ((q) < 0))] ∧ Bx w2 (w.heap.size + 1 + 1 + 1) 29 #[.int .u64 (lo (Int.natAbs (r))), .string (bg (Int.natAbs (r))), .bool (decide ((r) < 0))] ∧ Below w.heap.size w w2) ⟨((so3 ((((BX2.out).set 0 _).set 1 _).set 2 _) (by show w.heap.size + 1 + 1 ≠ w.heap.size + 1 + 1 + 1; omega)).eq (by simp only [rA, rB, rC])).gr ((Below.refl _ _).drew), (((((so3 (BX3.out) (by show w.heap.size + 1 + 1 + 1 ≠ w.heap.size + 1 + 1; omega)).set 0 _).set 1 _).set 2 _).eq (by simp only [rA, rB, rC])).gr ((Below.refl _ _).drew), (sc3 (sc3 (HB.out) (by show w.heap.size ≤ w.heap.size + 1 + 1; omega)) (by show w.heap.size ≤ w.heap.size + 1 + 1 + 1; omega)).drew⟩ ?_
  clear HB BX1 BX2 BX3
  rintro Wx8 ⟨bx2, bx3, HB⟩
  replace HB := Lib.hid HB
  refine wp_ret ?_
  try simp only [Exit.then, Exit.inBlock]
  have lx2 := bx2.cells
  have lx3 := bx3.cells
  have r0 := Gr.refl Wx8
  exact bodyPost_ret (v := .tuple #[(.agg #[.int .u64 (lo (Int.natAbs (q))), .string (bg (Int.natAbs (q))), .bool (decide ((q) < 0))]), (.agg #[.int .u64 (lo (Int.natAbs (r))), .string (bg (Int.natAbs (r))), .bool (decide ((r) < 0))]), .bool true]) (by simp [results, Tryd.results28, go_sem, lx2 _ r0, lx3 _ r0]) rfl ⟨rfl, HB.out⟩

set_option maxRecDepth 20000 in
set_option maxHeartbeats 4000000 in
theorem div_pn (a b q r : Int) (w : World) (HQ : Hid (a / b = q)) (HR : Hid (a % b = r)) (HBS : Hid (b < 0)) (H0 : Hid (0 ≤ a)) (HRS : Hid (0 ≤ r)) (ha9 : wl a.natAbs ≤ 100000000000) (hb9 : wl b.natAbs ≤ 100000000000) :
    Calls Tryd.prog 28 #[(Value.agg #[.int .u64 (lo (Int.natAbs (a))), .string (bg (Int.natAbs (a))), .bool (decide ((a) < 0))]), (Value.agg #[.int .u64 (lo (Int.natAbs (b))), .string (bg (Int.natAbs (b))), .bool (decide ((b) < 0))])] w fun e w' => e = .returned (.tuple #[(.agg #[.int .u64 (lo (Int.natAbs (q))), .string (bg (Int.natAbs (q))), .bool (decide ((q) < 0))]), (.agg #[.int .u64 (lo (Int.natAbs (r))), .string (bg (Int.natAbs (r))), .bool (decide ((r) < 0))]), .bool true]) ∧ Below w.heap.size w w' := by
  go_enter Tryd.func28, Tryd.ntmps28
  refine sK fun K hK => ?_
  refine wp_region_lit ?_
  go_wp2
  refine hK.out _ _ ?_; clear hK K
  show Code.wp _ _ _ _ _
  refine forgetW (fun w2 => Bx w2 (w.heap.size) 29 #[.int .u64 (lo (Int.natAbs (a))), .string (bg (Int.natAbs (a))), .bool (decide ((a) < 0))] ∧ Bx w2 (w.heap.size + 1) 29 #[.int .u64 (lo (Int.natAbs (b))), .string (bg (Int.natAbs (b))), .bool (decide ((b) < 0))] ∧ Bx w2 (w.heap.size + 1 + 1) 29 #[.int .u64 0, .string ⟨#[]⟩, .bool false] ∧ Bx w2 (w.heap.size + 1 + 1 + 1) 29 #[.int .u64 0, .string ⟨#[]⟩, .bool false] ∧ Below w.heap.size w w2) ⟨(((Bx.at rfl).alloc _).alloc _).alloc _, ((Bx.at (by simp)).alloc _).alloc _, (Bx.at (by simp)).alloc _, Bx.at (by simp), ((((Below.refl _ _).alloc (Nat.le_refl _) _).alloc (by simp) _).alloc (by simp; omega) _).alloc (by simp; omega) _⟩ ?_
  rintro Wx ⟨bx0, bx1, bx2, bx3, HB⟩
  replace HB := Lib.hid HB
  obtain ⟨u1, HZ1⟩ : ∃ z, Hid ((Int.natAbs (a)) / (Int.natAbs (b)) = z) := ⟨_, Lib.hid rfl⟩
  have su1 : wl (u1) ≤ 100000000000 := by rw [← HZ1.out]; have := wl_div (Int.natAbs (a)) (Int.natAbs (b)); omega
  obtain ⟨u2, HZ2⟩ : ∃ z, Hid ((Int.natAbs (a)) % (Int.natAbs (b)) = z) := ⟨_, Lib.hid rfl⟩
  have su2 : wl (u2) ≤ 100000000000 := by rw [← HZ2.out]; have := wl_mod (Int.natAbs (a)) (Int.natAbs (b)); omega
  have lx0 := bx0.cells
  have lx1 := bx1.cells
  have BX0 := Lib.hid bx0
  have BX1 := Lib.hid bx1
  have BX2 := Lib.hid bx2
  have BX3 := Lib.hid bx3
  clear bx0 bx1 bx2 bx3
  refine sK fun K hK => ?_
  refine wp_region_seqplan 11 [(true, 0), (true, 1), (true, 2), (true, 3), (true, 4), (true, 5), (true, 6), (true, 7), (true, 8), (true, 9), (true, 10)] (by rfl) (by simp) (fun T hT => ?_)
  iterate 6 (refine wpPlan_takeL (v := ?_) rfl (by rfl) (fun w' hw => ?_) ?_; rotate_left; go_simp; with_reducible rfl; simp only [Act.put, rA, rB, rC])
  refine wpPlan_callL rfl (by rfl) Tryd.call50 (fun w' hw => nzdiv (Int.natAbs (a)) (Int.natAbs (b)) (u1) (u2) _ HZ1.out HZ2.out (by have h0 := H0.out; have hb := HBS.out; have hr := HRS.out; first | omega | (try simp only [← HZ2.out, ← HZ1.out]) <;> first | rfl | omega | (simp; done) | grind) (by first | omega | exact wlc (by decide)) (by first | omega | exact wlc (by decide))) (by rfl) ?_
  simp only [Act.put, rA, rB, rC]
  iterate 4 (refine wpPlan_takeL (v := ?_) rfl (by rfl) (fun w' hw => ?_) ?_; rotate_left; go_simp; with_reducible rfl; simp only [Act.put, rA, rB, rC])
  refine wpPlan_nil (hT.out _ _ ?_); clear hT T
  intro vw1 hg
  simp only [puts, Act.put, rA, rB, rC, rD, rE, ↓reduceIte, Nat.reduceEqDiff]
  clear lx0 lx1
  have HG := Lib.hid (hg)
  clear hg
  replace BX0 := bG BX0 HG
  replace BX1 := bG BX1 HG
  replace BX2 := bG BX2 HG
  replace BX3 := bG BX3 HG
  have r0 := Gr.refl vw1
  go_wp2
  refine hK.out _ _ ?_; clear hK K
  show Code.wp _ _ _ _ _
  clear r0
  have hsz : w.heap.size ≤ vw1.heap.size := Nat.le_trans HB.out.size HG.out.size
  have mx0 : w.heap.size < vw1.heap.size := BX0.out.lt
  have mx1 : w.heap.size + 1 < vw1.heap.size := BX1.out.lt
  have mx2 : w.heap.size + 1 + 1 < vw1.heap.size := BX2.out.lt
  have mx3 : w.heap.size + 1 + 1 + 1 < vw1.heap.size := BX3.out.lt
  refine forgetW (fun w2 => Bx w2 (w.heap.size) 29 #[.int .u64 (lo (Int.natAbs (a))), .string (bg (Int.natAbs (a))), .bool (decide ((a) < 0))] ∧ Bx w2 (w.heap.size + 1) 29 #[.int .u64 (lo (Int.natAbs (b))), .string (bg (Int.natAbs (b))), .bool (decide ((b) < 0))] ∧ Bx w2 (w.heap.size + 1 + 1) 29 #[.int .u64 0, .string ⟨#[]⟩, .bool false] ∧ Bx w2 (w.heap.size + 1 + 1 + 1) 29 #[.int .u64 0, .string ⟨#[]⟩, .bool false] ∧ NX w2 (vw1.heap.size) (u1) ∧ NX w2 (vw1.heap.size + 1) (u2) ∧ Below w.heap.size w w2) ⟨((BX0.out).alloc _).alloc _, ((BX1.out).alloc _).alloc _, ((BX2.out).alloc _).alloc _, ((BX3.out).alloc _).alloc _, ((Bx.at (by simp) : Bx _ (vw1.heap.size) _ _)).alloc _, (Bx.at (by simp) : Bx _ (vw1.heap.size + 1) _ _), ((HB.out.trans (HG.out.mono HB.out.size)).alloc (by first | omega | (simp; omega)) _).alloc (by first | omega | (simp; omega)) _⟩ ?_
  clear HB HG BX0 BX1 BX2 BX3
  rintro Wx1 ⟨bx0, bx1, bx2, bx3, bx4, bx5, HB⟩
  replace HB := Lib.hid HB
  have qx4_5 : vw1.heap.size < vw1.heap.size + 1 := by omega
  have yx5 : w.heap.size ≤ vw1.heap.size + 1 := by omega
  have qx0_5 : w.heap.size < vw1.heap.size + 1 := by omega
  have qx1_5 : w.heap.size + 1 < vw1.heap.size + 1 := by omega
  have qx2_5 : w.heap.size + 1 + 1 < vw1.heap.size + 1 := by omega
  have qx3_5 : w.heap.size + 1 + 1 + 1 < vw1.heap.size + 1 := by omega
  generalize hx5 : vw1.heap.size + 1 = gx5 at *
  clear hx5
  have yx4 : w.heap.size ≤ vw1.heap.size := by omega
  have qx0_4 : w.heap.size < vw1.heap.size := by omega
  have qx1_4 : w.heap.size + 1 < vw1.heap.size := by omega
  have qx2_4 : w.heap.size + 1 + 1 < vw1.heap.size := by omega
  have qx3_4 : w.heap.size + 1 + 1 + 1 < vw1.heap.size := by omega
  generalize hx4 : vw1.heap.size = gx4 at *
  clear hx4
  clear hsz mx0 mx1 mx2 mx3
  refine wp_seq ?_
  have BX0 := Lib.hid bx0
  have BX1 := Lib.hid bx1
  have BX2 := Lib.hid bx2
  have BX3 := Lib.hid bx3
  have BX4 := Lib.hid bx4
  have BX5 := Lib.hid bx5
  clear bx0 bx1 bx2 bx3 bx4 bx5
  refine sK fun K hK => ?_
  refine wp_region_seqplan 2 [(true, 0), (true, 1)] (by rfl) (by simp) (fun T hT => ?_)
  iterate 2 (refine wpPlan_takeL (v := ?_) rfl (by rfl) (fun w' hw => ?_) ?_; rotate_left; go_simp; with_reducible rfl; simp only [Act.put, rA, rB, rC])
  refine wpPlan_nil (hT.out _ _ ?_); clear hT T
  intro vw2 hg
  simp only [puts, Act.put, rA, rB, rC, rD, rE, ↓reduceIte, Nat.reduceEqDiff]
  have HG := Lib.hid (hg)
  clear hg
  replace BX0 := bG BX0 HG
  replace BX1 := bG BX1 HG
  replace BX2 := bG BX2 HG
  replace BX3 := bG BX3 HG
  replace BX4 := bG BX4 HG
  replace BX5 := bG BX5 HG
  have r0 := Gr.refl vw2
  go_wp2
  refine hK.out _ _ ?_; clear hK K
  show Code.wp _ _ _ _ _
  clear r0
  refine forgetW (fun w2 => Bx w2 (w.heap.size) 29 #[.int .u64 (lo (Int.natAbs (a))), .string (bg (Int.natAbs (a))), .bool (decide ((a) < 0))] ∧ Bx w2 (w.heap.size + 1) 29 #[.int .u64 (lo (Int.natAbs (b))), .string (bg (Int.natAbs (b))), .bool (decide ((b) < 0))] ∧ Bx w2 (w.heap.size + 1 + 1) 29 #[.int .u64 0, .string ⟨#[]⟩, .bool false] ∧ Bx w2 (w.heap.size + 1 + 1 + 1) 29 #[.int .u64 0, .string ⟨#[]⟩, .bool false] ∧ NX w2 gx4 (u1) ∧ NX w2 gx5 (u2) ∧ Below w.heap.size w w2) ⟨BX0.out, BX1.out, BX2.out, BX3.out, BX4.out, BX5.out, HB.out.trans (HG.out.mono HB.out.size)⟩ ?_
  clear HB HG BX0 BX1 BX2 BX3 BX4 BX5
  rintro Wx2 ⟨bx0, bx1, bx2, bx3, bx4, bx5, HB⟩
  replace HB := Lib.hid HB
  refine wp_cond_false (by rfl) ?_
  refine wp_skip ?_
  show Code.wp _ _ _ _ _
  have hd1 : decide ((a) < 0) = false := decide_eq_false (by have h0 := H0.out; have hb := HBS.out; have hr := HRS.out; first | omega | (try simp only [← HZ2.out, ← HZ1.out]) <;> first | rfl | omega | (simp; done) | grind)
  have hd2 : decide ((b) < 0) = true := decide_eq_true (by have h0 := H0.out; have hb := HBS.out; have hr := HRS.out; first | omega | (try simp only [← HZ2.out, ← HZ1.out]) <;> first | rfl | omega | (simp; done) | grind)
  have hd3 : decide ((a) < 0) = false := decide_eq_false (by have h0 := H0.out; have hb := HBS.out; have hr := HRS.out; first | omega | (try simp only [← HZ2.out, ← HZ1.out]) <;> first | rfl | omega | (simp; done) | grind)
  have HZ3 : Hid ((if true then -((u1 : Nat) : Int) else ((u1 : Nat) : Int)) = q) := Lib.hid (by have h0 := H0.out; have hb := HBS.out; have hr := HRS.out; rw [← HQ.out, ← HZ1.out]; exact dq false true (decide_eq_false (by omega)) (decide_eq_true (by omega)) (by omega) (.inl (by omega)))
  have su3 : wl (Int.natAbs (q)) ≤ 100000000000 := by have e := HZ3.out; first | omega | (rw [← e]; split <;> simp <;> omega)
  have HZ4 : Hid ((if false then -((u2 : Nat) : Int) else ((u2 : Nat) : Int)) = r) := Lib.hid (by have h0 := H0.out; have hb := HBS.out; have hr := HRS.out; rw [← HR.out, ← HZ2.out]; exact dr false (decide_eq_false (by omega)) (by omega) (.inl (by omega)))
  have su4 : wl (Int.natAbs (r)) ≤ 100000000000 := by have e := HZ4.out; first | omega | (rw [← e]; split <;> simp <;> omega)
  have lx0 := bx0.cells
  have lx1 := bx1.cells
  have lx4 := bx4.cells
  have lx5 := bx5.cells
  have BX0 := Lib.hid bx0
  have BX1 := Lib.hid bx1
  have BX2 := Lib.hid bx2
  have BX3 := Lib.hid bx3
  have BX4 := Lib.hid bx4
  have BX5 := Lib.hid bx5
  clear bx0 bx1 bx2 bx3 bx4 bx5
  refine sK fun K hK => ?_
  refine wp_region_plan 11 [] [] (fun _ => 0) (fun _ => .cells #[] 0) [(true, 0), (true, 1), (true, 2), (true, 3), (true, 4), (true, 5), (true, 7), (true, 8), (true, 9), (true, 6), (true, 10)] (by kernel_rfl) (by kernel_rfl) (fun i hi => by cases hi) (fun i hi => by cases hi) (fun _ _ _ _ _ h => h) (fun T hT => ?_)
  iterate 9 (refine wpPlan_takeL (v := ?_) rfl (by rfl) (fun w' hw => ?_) ?_; rotate_left; go_simp; with_reducible rfl; simp only [Act.put, rA, rB, rC])
  refine wpPlan_callL rfl (by rfl) Tryd.call25 (fun w' hw => from_any true (u1) (q) _ HZ3.out) (by rfl) ?_
  simp only [Act.put, rA, rB, rC]
  refine wpPlan_callL rfl (by rfl) Tryd.call25 (fun w' hw => from_any false (u2) (r) _ HZ4.out) (by rfl) ?_
  simp only [Act.put, rA, rB, rC]
  refine wpPlan_nil (hT.out _ _ ?_); clear hT T
  intro G vw3 hg hf
  simp only [puts, Act.put, rA, rB, rC, rD, rE, ↓reduceIte, Nat.reduceEqDiff]
  clear lx0 lx1 lx4 lx5
  have HG := Lib.hid (hg)
  clear hg
  replace BX0 := bG BX0 HG
  replace BX1 := bG BX1 HG
  replace BX2 := bG BX2 HG
  replace BX3 := bG BX3 HG
  replace BX4 := bG BX4 HG
  replace BX5 := bG BX5 HG
  have lx2 := BX2.out.cells; have fx2 := BX2.out.free
  have lx3 := BX3.out.cells; have fx3 := BX3.out.free
  have r0 := Gr.refl vw3
  go_wp2
  refine hK.out _ _ ?_; clear hK K
  show Code.wp _ _ _ _ _
  clear lx2 fx2
  clear lx3 fx3
  clear r0
  refine forgetW (fun w2 => Bx w2 (w.heap.size + 1) 29 #[.int .u64 (lo (Int.natAbs (b))), .string (bg (Int.natAbs (b))), .bool (decide ((b) < 0))] ∧ Bx w2 (w.heap.size + 1 + 1) 29 #[.int .u64 (lo (Int.natAbs (q))), .string (bg (Int.natAbs (q))), .bool (decide ((q) < 0))] ∧ Bx w2 (w.heap.size + 1 + 1 + 1) 29 #[.int .u64 (lo (Int.natAbs (r))), .string (bg (Int.natAbs (r))), .bool (decide ((r) < 0))] ∧ Below w.heap.size w w2) ⟨so3 (so3 (BX1.out) (by show w.heap.size + 1 ≠ w.heap.size + 1 + 1; omega)) (by show w.heap.size + 1 ≠ w.heap.size + 1 + 1 + 1; omega), (so3 ((((BX2.out).set 0 _).set 1 _).set 2 _) (by show w.heap.size + 1 + 1 ≠ w.heap.size + 1 + 1 + 1; omega)).eq (by simp only [rA, rB, rC]), ((((so3 (BX3.out) (by show w.heap.size + 1 + 1 + 1 ≠ w.heap.size + 1 + 1; omega)).set 0 _).set 1 _).set 2 _).eq (by simp only [rA, rB, rC]), sc3 (sc3 (HB.out.trans (HG.out.mono HB.out.size)) (by show w.heap.size ≤ w.heap.size + 1 + 1; omega)) (by show w.heap.size ≤ w.heap.size + 1 + 1 + 1; omega)⟩ ?_
  clear HB HG BX0 BX1 BX2 BX3 BX4 BX5
  rintro Wx4 ⟨bx1, bx2, bx3, HB⟩
  replace HB := Lib.hid HB
  clear hd1 hd2 hd3
  refine wp_seq ?_
  have hd4 : decide ((r) < 0) = false := decide_eq_false (by have h0 := H0.out; have hb := HBS.out; have hr := HRS.out; first | omega | (try simp only [← HZ2.out, ← HZ1.out]) <;> first | rfl | omega | (simp; done) | grind)
  have lx3 := bx3.cells
  have BX1 := Lib.hid bx1
  have BX2 := Lib.hid bx2
  have BX3 := Lib.hid bx3
  clear bx1 bx2 bx3
  refine sK fun K hK => ?_
  refine wp_region_seqplan 2 [(true, 0), (true, 1)] (by rfl) (by simp) (fun T hT => ?_)
  iterate 2 (refine wpPlan_takeL (v := ?_) rfl (by rfl) (fun w' hw => ?_) ?_; rotate_left; go_simp; with_reducible rfl; simp only [Act.put, rA, rB, rC])
  refine wpPlan_nil (hT.out _ _ ?_); clear hT T
  intro vw4 hg
  simp only [puts, Act.put, rA, rB, rC, rD, rE, ↓reduceIte, Nat.reduceEqDiff]
  clear lx3
  have HG := Lib.hid (hg)
  clear hg
  replace BX1 := bG BX1 HG
  replace BX2 := bG BX2 HG
  replace BX3 := bG BX3 HG
  have r0 := Gr.refl vw4
  go_wp2
  refine hK.out _ _ ?_; clear hK K
  show Code.wp _ _ _ _ _
  clear r0
  refine forgetW (fun w2 => Bx w2 (w.heap.size + 1) 29 #[.int .u64 (lo (Int.natAbs (b))), .string (bg (Int.natAbs (b))), .bool (decide ((b) < 0))] ∧ Bx w2 (w.heap.size + 1 + 1) 29 #[.int .u64 (lo (Int.natAbs (q))), .string (bg (Int.natAbs (q))), .bool (decide ((q) < 0))] ∧ Bx w2 (w.heap.size + 1 + 1 + 1) 29 #[.int .u64 (lo (Int.natAbs (r))), .string (bg (Int.natAbs (r))), .bool (decide ((r) < 0))] ∧ Below w.heap.size w w2) ⟨BX1.out, BX2.out, BX3.out, HB.out.trans (HG.out.mono HB.out.size)⟩ ?_
  clear HB HG BX1 BX2 BX3
  rintro Wx5 ⟨bx1, bx2, bx3, HB⟩
  replace HB := Lib.hid HB
  clear hd4
  refine wp_cond_false (by rfl) ?_
  refine wp_skip ?_
  show Code.wp _ _ _ _ _
  have lx2 := bx2.cells; have fx2 := bx2.free
  have lx3 := bx3.cells; have fx3 := bx3.free
  have r0 := Gr.refl Wx5
  have BX1 := Lib.hid bx1; clear bx1
  have BX2 := Lib.hid bx2; clear bx2
  have BX3 := Lib.hid bx3; clear bx3
  refine sK fun K hK => ?_
  go_region
  go_wp2
  refine hK.out _ _ ?_; clear hK K
  show Code.wp _ _ _ _ _
  clear r0 lx2 fx2 lx3 fx3
  refine forgetW (fun w2 => Bx w2 (w.heap.size + 1 + 1) 29 #[.int .u64 (lo (Int.natAbs (q))), .string (bg (Int.natAbs (q))), .bool (decide ((q) < 0))] ∧ Bx w2 (w.heap.size + 1 + 1 + 1) 29 #[.int .u64 (lo (Int.natAbs (r))), .string (bg (Int.natAbs (r))), .bool (decide ((r) < 0))] ∧ Below w.heap.size w w2) ⟨((so3 ((((BX2.out).set 0 _).set 1 _).set 2 _) (by show w.heap.size + 1 + 1 ≠ w.heap.size + 1 + 1 + 1; omega)).eq (by simp only [rA, rB, rC])).gr ((Below.refl _ _).drew), (((((so3 (BX3.out) (by show w.heap.size + 1 + 1 + 1 ≠ w.heap.size + 1 + 1; omega)).set 0 _).set 1 _).set 2 _).eq (by simp only [rA, rB, rC])).gr ((Below.refl _ _).drew), (sc3 (sc3 (HB.out) (by show w.heap.size ≤ w.heap.size + 1 + 1; omega)) (by show w.heap.size ≤ w.heap.size + 1 + 1 + 1; omega)).drew⟩ ?_
  clear HB BX1 BX2 BX3
  rintro Wx8 ⟨bx2, bx3, HB⟩
  replace HB := Lib.hid HB
  refine wp_ret ?_
  try simp only [Exit.then, Exit.inBlock]
  have lx2 := bx2.cells
  have lx3 := bx3.cells
  have r0 := Gr.refl Wx8
  exact bodyPost_ret (v := .tuple #[(.agg #[.int .u64 (lo (Int.natAbs (q))), .string (bg (Int.natAbs (q))), .bool (decide ((q) < 0))]), (.agg #[.int .u64 (lo (Int.natAbs (r))), .string (bg (Int.natAbs (r))), .bool (decide ((r) < 0))]), .bool true]) (by simp [results, Tryd.results28, go_sem, lx2 _ r0, lx3 _ r0]) rfl ⟨rfl, HB.out⟩

set_option maxRecDepth 20000 in
set_option maxHeartbeats 4000000 in
theorem div_zp (a b q r : Int) (w : World) (HQ : Hid (a / b = q)) (HR : Hid (a % b = r)) (HBS : Hid (0 < b)) (H0 : Hid (a < 0)) (HM : Hid (a.natAbs % b.natAbs = 0)) (HRS : Hid (0 ≤ r)) (ha9 : wl a.natAbs ≤ 100000000000) (hb9 : wl b.natAbs ≤ 100000000000) :
    Calls Tryd.prog 28 #[(Value.agg #[.int .u64 (lo (Int.natAbs (a))), .string (bg (Int.natAbs (a))), .bool (decide ((a) < 0))]), (Value.agg #[.int .u64 (lo (Int.natAbs (b))), .string (bg (Int.natAbs (b))), .bool (decide ((b) < 0))])] w fun e w' => e = .returned (.tuple #[(.agg #[.int .u64 (lo (Int.natAbs (q))), .string (bg (Int.natAbs (q))), .bool (decide ((q) < 0))]), (.agg #[.int .u64 (lo (Int.natAbs (r))), .string (bg (Int.natAbs (r))), .bool (decide ((r) < 0))]), .bool true]) ∧ Below w.heap.size w w' := by
  go_enter Tryd.func28, Tryd.ntmps28
  refine sK fun K hK => ?_
  refine wp_region_lit ?_
  go_wp2
  refine hK.out _ _ ?_; clear hK K
  show Code.wp _ _ _ _ _
  refine forgetW (fun w2 => Bx w2 (w.heap.size) 29 #[.int .u64 (lo (Int.natAbs (a))), .string (bg (Int.natAbs (a))), .bool (decide ((a) < 0))] ∧ Bx w2 (w.heap.size + 1) 29 #[.int .u64 (lo (Int.natAbs (b))), .string (bg (Int.natAbs (b))), .bool (decide ((b) < 0))] ∧ Bx w2 (w.heap.size + 1 + 1) 29 #[.int .u64 0, .string ⟨#[]⟩, .bool false] ∧ Bx w2 (w.heap.size + 1 + 1 + 1) 29 #[.int .u64 0, .string ⟨#[]⟩, .bool false] ∧ Below w.heap.size w w2) ⟨(((Bx.at rfl).alloc _).alloc _).alloc _, ((Bx.at (by simp)).alloc _).alloc _, (Bx.at (by simp)).alloc _, Bx.at (by simp), ((((Below.refl _ _).alloc (Nat.le_refl _) _).alloc (by simp) _).alloc (by simp; omega) _).alloc (by simp; omega) _⟩ ?_
  rintro Wx ⟨bx0, bx1, bx2, bx3, HB⟩
  replace HB := Lib.hid HB
  obtain ⟨u1, HZ1⟩ : ∃ z, Hid ((Int.natAbs (a)) / (Int.natAbs (b)) = z) := ⟨_, Lib.hid rfl⟩
  have su1 : wl (u1) ≤ 100000000000 := by rw [← HZ1.out]; have := wl_div (Int.natAbs (a)) (Int.natAbs (b)); omega
  have HZ2 : Hid ((Int.natAbs (a)) % (Int.natAbs (b)) = 0) := Lib.hid (HM.out)
  have su2 : wl (0) ≤ 100000000000 := by have e := HZ2.out; first | omega | (rw [← e]; have := wl_mod (Int.natAbs (a)) (Int.natAbs (b)); omega) | exact wl_le.2 (by decide +kernel)
  have lx0 := bx0.cells
  have lx1 := bx1.cells
  have BX0 := Lib.hid bx0
  have BX1 := Lib.hid bx1
  have BX2 := Lib.hid bx2
  have BX3 := Lib.hid bx3
  clear bx0 bx1 bx2 bx3
  refine sK fun K hK => ?_
  refine wp_region_seqplan 11 [(true, 0), (true, 1), (true, 2), (true, 3), (true, 4), (true, 5), (true, 6), (true, 7), (true, 8), (true, 9), (true, 10)] (by rfl) (by simp) (fun T hT => ?_)
  iterate 6 (refine wpPlan_takeL (v := ?_) rfl (by rfl) (fun w' hw => ?_) ?_; rotate_left; go_simp; with_reducible rfl; simp only [Act.put, rA, rB, rC])
  refine wpPlan_callL rfl (by rfl) Tryd.call50 (fun w' hw => nzdiv (Int.natAbs (a)) (Int.natAbs (b)) (u1) (0) _ HZ1.out HZ2.out (by have h0 := H0.out; have hb := HBS.out; have hr := HRS.out; first | omega | (try simp only [← HZ1.out]) <;> first | rfl | omega | (simp; done) | grind) (by first | omega | exact wlc (by decide)) (by first | omega | exact wlc (by decide))) (by rfl) ?_
  simp only [Act.put, rA, rB, rC]
  iterate 4 (refine wpPlan_takeL (v := ?_) rfl (by rfl) (fun w' hw => ?_) ?_; rotate_left; go_simp; with_reducible rfl; simp only [Act.put, rA, rB, rC])
  refine wpPlan_nil (hT.out _ _ ?_); clear hT T
  intro vw1 hg
  simp only [puts, Act.put, rA, rB, rC, rD, rE, ↓reduceIte, Nat.reduceEqDiff]
  clear lx0 lx1
  have HG := Lib.hid (hg)
  clear hg
  replace BX0 := bG BX0 HG
  replace BX1 := bG BX1 HG
  replace BX2 := bG BX2 HG
  replace BX3 := bG BX3 HG
  have r0 := Gr.refl vw1
  go_wp2
  refine hK.out _ _ ?_; clear hK K
  show Code.wp _ _ _ _ _
  clear r0
  have hsz : w.heap.size ≤ vw1.heap.size := Nat.le_trans HB.out.size HG.out.size
  have mx0 : w.heap.size < vw1.heap.size := BX0.out.lt
  have mx1 : w.heap.size + 1 < vw1.heap.size := BX1.out.lt
  have mx2 : w.heap.size + 1 + 1 < vw1.heap.size := BX2.out.lt
  have mx3 : w.heap.size + 1 + 1 + 1 < vw1.heap.size := BX3.out.lt
  refine forgetW (fun w2 => Bx w2 (w.heap.size) 29 #[.int .u64 (lo (Int.natAbs (a))), .string (bg (Int.natAbs (a))), .bool (decide ((a) < 0))] ∧ Bx w2 (w.heap.size + 1) 29 #[.int .u64 (lo (Int.natAbs (b))), .string (bg (Int.natAbs (b))), .bool (decide ((b) < 0))] ∧ Bx w2 (w.heap.size + 1 + 1) 29 #[.int .u64 0, .string ⟨#[]⟩, .bool false] ∧ Bx w2 (w.heap.size + 1 + 1 + 1) 29 #[.int .u64 0, .string ⟨#[]⟩, .bool false] ∧ NX w2 (vw1.heap.size) (u1) ∧ NX w2 (vw1.heap.size + 1) (0) ∧ Below w.heap.size w w2) ⟨((BX0.out).alloc _).alloc _, ((BX1.out).alloc _).alloc _, ((BX2.out).alloc _).alloc _, ((BX3.out).alloc _).alloc _, ((Bx.at (by simp) : Bx _ (vw1.heap.size) _ _)).alloc _, (Bx.at (by simp) : Bx _ (vw1.heap.size + 1) _ _), ((HB.out.trans (HG.out.mono HB.out.size)).alloc (by first | omega | (simp; omega)) _).alloc (by first | omega | (simp; omega)) _⟩ ?_
  clear HB HG BX0 BX1 BX2 BX3
  rintro Wx1 ⟨bx0, bx1, bx2, bx3, bx4, bx5, HB⟩
  replace HB := Lib.hid HB
  have qx4_5 : vw1.heap.size < vw1.heap.size + 1 := by omega
  have yx5 : w.heap.size ≤ vw1.heap.size + 1 := by omega
  have qx0_5 : w.heap.size < vw1.heap.size + 1 := by omega
  have qx1_5 : w.heap.size + 1 < vw1.heap.size + 1 := by omega
  have qx2_5 : w.heap.size + 1 + 1 < vw1.heap.size + 1 := by omega
  have qx3_5 : w.heap.size + 1 + 1 + 1 < vw1.heap.size + 1 := by omega
  generalize hx5 : vw1.heap.size + 1 = gx5 at *
  clear hx5
  have yx4 : w.heap.size ≤ vw1.heap.size := by omega
  have qx0_4 : w.heap.size < vw1.heap.size := by omega
  have qx1_4 : w.heap.size + 1 < vw1.heap.size := by omega
  have qx2_4 : w.heap.size + 1 + 1 < vw1.heap.size := by omega
  have qx3_4 : w.heap.size + 1 + 1 + 1 < vw1.heap.size := by omega
  generalize hx4 : vw1.heap.size = gx4 at *
  clear hx4
  clear hsz mx0 mx1 mx2 mx3
  refine wp_seq ?_
  have BX0 := Lib.hid bx0
  have BX1 := Lib.hid bx1
  have BX2 := Lib.hid bx2
  have BX3 := Lib.hid bx3
  have BX4 := Lib.hid bx4
  have BX5 := Lib.hid bx5
  clear bx0 bx1 bx2 bx3 bx4 bx5
  refine sK fun K hK => ?_
  refine wp_region_seqplan 2 [(true, 0), (true, 1)] (by rfl) (by simp) (fun T hT => ?_)
  iterate 2 (refine wpPlan_takeL (v := ?_) rfl (by rfl) (fun w' hw => ?_) ?_; rotate_left; go_simp; with_reducible rfl; simp only [Act.put, rA, rB, rC])
  refine wpPlan_nil (hT.out _ _ ?_); clear hT T
  intro vw2 hg
  simp only [puts, Act.put, rA, rB, rC, rD, rE, ↓reduceIte, Nat.reduceEqDiff]
  have HG := Lib.hid (hg)
  clear hg
  replace BX0 := bG BX0 HG
  replace BX1 := bG BX1 HG
  replace BX2 := bG BX2 HG
  replace BX3 := bG BX3 HG
  replace BX4 := bG BX4 HG
  replace BX5 := bG BX5 HG
  have r0 := Gr.refl vw2
  go_wp2
  refine hK.out _ _ ?_; clear hK K
  show Code.wp _ _ _ _ _
  clear r0
  refine forgetW (fun w2 => Bx w2 (w.heap.size) 29 #[.int .u64 (lo (Int.natAbs (a))), .string (bg (Int.natAbs (a))), .bool (decide ((a) < 0))] ∧ Bx w2 (w.heap.size + 1) 29 #[.int .u64 (lo (Int.natAbs (b))), .string (bg (Int.natAbs (b))), .bool (decide ((b) < 0))] ∧ Bx w2 (w.heap.size + 1 + 1) 29 #[.int .u64 0, .string ⟨#[]⟩, .bool false] ∧ Bx w2 (w.heap.size + 1 + 1 + 1) 29 #[.int .u64 0, .string ⟨#[]⟩, .bool false] ∧ NX w2 gx4 (u1) ∧ NX w2 gx5 (0) ∧ Below w.heap.size w w2) ⟨BX0.out, BX1.out, BX2.out, BX3.out, BX4.out, BX5.out, HB.out.trans (HG.out.mono HB.out.size)⟩ ?_
  clear HB HG BX0 BX1 BX2 BX3 BX4 BX5
  rintro Wx2 ⟨bx0, bx1, bx2, bx3, bx4, bx5, HB⟩
  replace HB := Lib.hid HB
  refine wp_cond_false (by rfl) ?_
  refine wp_skip ?_
  show Code.wp _ _ _ _ _
  have hd1 : decide ((a) < 0) = true := decide_eq_true (by have h0 := H0.out; have hb := HBS.out; have hr := HRS.out; first | omega | (try simp only [← HZ1.out]) <;> first | rfl | omega | (simp; done) | grind)
  have hd2 : decide ((b) < 0) = false := decide_eq_false (by have h0 := H0.out; have hb := HBS.out; have hr := HRS.out; first | omega | (try simp only [← HZ1.out]) <;> first | rfl | omega | (simp; done) | grind)
  have hd3 : decide ((a) < 0) = true := decide_eq_true (by have h0 := H0.out; have hb := HBS.out; have hr := HRS.out; first | omega | (try simp only [← HZ1.out]) <;> first | rfl | omega | (simp; done) | grind)
  have HZ3 : Hid ((if true then -((u1 : Nat) : Int) else ((u1 : Nat) : Int)) = q) := Lib.hid (by have h0 := H0.out; have hb := HBS.out; have hr := HRS.out; rw [← HQ.out, ← HZ1.out]; exact dq true false (decide_eq_true (by omega)) (decide_eq_false (by omega)) (by omega) (.inr HM.out))
  have su3 : wl (Int.natAbs (q)) ≤ 100000000000 := by have e := HZ3.out; first | omega | (rw [← e]; split <;> simp <;> omega)
  have HZ4 : Hid ((if true then -((0 : Nat) : Int) else ((0 : Nat) : Int)) = r) := Lib.hid (by have h0 := H0.out; have hb := HBS.out; have hr := HRS.out; rw [← HR.out]; have e9 := dr (a := a) (b := b) true (decide_eq_true (by omega)) (by omega) (.inr HM.out); rw [HM.out] at e9; exact e9)
  have su4 : wl (Int.natAbs (r)) ≤ 100000000000 := by have e := HZ4.out; first | omega | (rw [← e]; split <;> simp <;> omega)
  have lx0 := bx0.cells
  have lx1 := bx1.cells
  have lx4 := bx4.cells
  have lx5 := bx5.cells
  have BX0 := Lib.hid bx0
  have BX1 := Lib.hid bx1
  have BX2 := Lib.hid bx2
  have BX3 := Lib.hid bx3
  have BX4 := Lib.hid bx4
  have BX5 := Lib.hid bx5
  clear bx0 bx1 bx2 bx3 bx4 bx5
  refine sK fun K hK => ?_
  refine wp_region_plan 11 [] [] (fun _ => 0) (fun _ => .cells #[] 0) [(true, 0), (true, 1), (true, 2), (true, 3), (true, 4), (true, 5), (true, 7), (true, 8), (true, 9), (true, 6), (true, 10)] (by kernel_rfl) (by kernel_rfl) (fun i hi => by cases hi) (fun i hi => by cases hi) (fun _ _ _ _ _ h => h) (fun T hT => ?_)
  iterate 9 (refine wpPlan_takeL (v := ?_) rfl (by rfl) (fun w' hw => ?_) ?_; rotate_left; go_simp; with_reducible rfl; simp only [Act.put, rA, rB, rC])
  refine wpPlan_callL rfl (by rfl) Tryd.call25 (fun w' hw => from_any true (u1) (q) _ HZ3.out) (by rfl) ?_
  simp only [Act.put, rA, rB, rC]
  refine wpPlan_callL rfl (by rfl) Tryd.call25 (fun w' hw => from_any true (0) (r) _ HZ4.out) (by rfl) ?_
  simp only [Act.put, rA, rB, rC]
  refine wpPlan_nil (hT.out _ _ ?_); clear hT T
  intro G vw3 hg hf
  simp only [puts, Act.put, rA, rB, rC, rD, rE, ↓reduceIte, Nat.reduceEqDiff]
  clear lx0 lx1 lx4 lx5
  have HG := Lib.hid (hg)
  clear hg
  replace BX0 := bG BX0 HG
  replace BX1 := bG BX1 HG
  replace BX2 := bG BX2 HG
  replace BX3 := bG BX3 HG
  replace BX4 := bG BX4 HG
  replace BX5 := bG BX5 HG
  have lx2 := BX2.out.cells; have fx2 := BX2.out.free
  have lx3 := BX3.out.cells; have fx3 := BX3.out.free
  have r0 := Gr.refl vw3
  go_wp2
  refine hK.out _ _ ?_; clear hK K
  show Code.wp _ _ _ _ _
  clear lx2 fx2
  clear lx3 fx3
  clear r0
  refine forgetW (fun w2 => Bx w2 (w.heap.size + 1) 29 #[.int .u64 (lo (Int.natAbs (b))), .string (bg (Int.natAbs (b))), .bool (decide ((b) < 0))] ∧ Bx w2 (w.heap.size + 1 + 1) 29 #[.int .u64 (lo (Int.natAbs (q))), .string (bg (Int.natAbs (q))), .bool (decide ((q) < 0))] ∧ Bx w2 (w.heap.size + 1 + 1 + 1) 29 #[.int .u64 (lo (Int.natAbs (r))), .string (bg (Int.natAbs (r))), .bool (decide ((r) < 0))] ∧ Below w.heap.size w w2) ⟨so3 (so3 (BX1.out) (by show w.heap.size + 1 ≠ w.heap.size + 1 + 1; omega)) (by show w.heap.size + 1 ≠ w.heap.size + 1 + 1 + 1; omega), (so3 ((((BX2.out).set 0 _).set 1 _).set 2 _) (by show w.heap.size + 1 + 1 ≠ w.heap.size + 1 + 1 + 1; omega)).eq (by simp only [rA, rB, rC]), ((((so3 (BX3.out) (by show w.heap.size + 1 + 1 + 1 ≠ w.heap.size + 1 + 1; omega)).set 0 _).set 1 _).set 2 _).eq (by simp only [rA, rB, rC]), sc3 (sc3 (HB.out.trans (HG.out.mono HB.out.size)) (by show w.heap.size ≤ w.heap.size + 1 + 1; omega)) (by show w.heap.size ≤ w.heap.size + 1 + 1 + 1; omega)⟩ ?_
  clear HB HG BX0 BX1 BX2 BX3 BX4 BX5
  rintro Wx4 ⟨bx1, bx2, bx3, HB⟩
  replace HB := Lib.hid HB
  clear hd1 hd2 hd3
  refine wp_seq ?_
  have hd4 : decide ((r) < 0) = false := decide_eq_false (by have h0 := H0.out; have hb := HBS.out; have hr := HRS.out; first | omega | (try simp only [← HZ1.out]) <;> first | rfl | omega | (simp; done) | grind)
  have lx3 := bx3.cells
  have BX1 := Lib.hid bx1
  have BX2 := Lib.hid bx2
  have BX3 := Lib.hid bx3
  clear bx1 bx2 bx3
  refine sK fun K hK => ?_
  refine wp_region_seqplan 2 [(true, 0), (true, 1)] (by rfl) (by simp) (fun T hT => ?_)
  iterate 2 (refine wpPlan_takeL (v := ?_) rfl (by rfl) (fun w' hw => ?_) ?_; rotate_left; go_simp; with_reducible rfl; simp only [Act.put, rA, rB, rC])
  refine wpPlan_nil (hT.out _ _ ?_); clear hT T
  intro vw4 hg
  simp only [puts, Act.put, rA, rB, rC, rD, rE, ↓reduceIte, Nat.reduceEqDiff]
  clear lx3
  have HG := Lib.hid (hg)
  clear hg
  replace BX1 := bG BX1 HG
  replace BX2 := bG BX2 HG
  replace BX3 := bG BX3 HG
  have r0 := Gr.refl vw4
  go_wp2
  refine hK.out _ _ ?_; clear hK K
  show Code.wp _ _ _ _ _
  clear r0
  refine forgetW (fun w2 => Bx w2 (w.heap.size + 1) 29 #[.int .u64 (lo (Int.natAbs (b))), .string (bg (Int.natAbs (b))), .bool (decide ((b) < 0))] ∧ Bx w2 (w.heap.size + 1 + 1) 29 #[.int .u64 (lo (Int.natAbs (q))), .string (bg (Int.natAbs (q))), .bool (decide ((q) < 0))] ∧ Bx w2 (w.heap.size + 1 + 1 + 1) 29 #[.int .u64 (lo (Int.natAbs (r))), .string (bg (Int.natAbs (r))), .bool (decide ((r) < 0))] ∧ Below w.heap.size w w2) ⟨BX1.out, BX2.out, BX3.out, HB.out.trans (HG.out.mono HB.out.size)⟩ ?_
  clear HB HG BX1 BX2 BX3
  rintro Wx5 ⟨bx1, bx2, bx3, HB⟩
  replace HB := Lib.hid HB
  clear hd4
  refine wp_cond_false (by rfl) ?_
  refine wp_skip ?_
  show Code.wp _ _ _ _ _
  have lx2 := bx2.cells; have fx2 := bx2.free
  have lx3 := bx3.cells; have fx3 := bx3.free
  have r0 := Gr.refl Wx5
  have BX1 := Lib.hid bx1; clear bx1
  have BX2 := Lib.hid bx2; clear bx2
  have BX3 := Lib.hid bx3; clear bx3
  refine sK fun K hK => ?_
  go_region
  go_wp2
  refine hK.out _ _ ?_; clear hK K
  show Code.wp _ _ _ _ _
  clear r0 lx2 fx2 lx3 fx3
  refine forgetW (fun w2 => Bx w2 (w.heap.size + 1 + 1) 29 #[.int .u64 (lo (Int.natAbs (q))), .string (bg (Int.natAbs (q))), .bool (decide ((q) < 0))] ∧ Bx w2 (w.heap.size + 1 + 1 + 1) 29 #[.int .u64 (lo (Int.natAbs (r))), .string (bg (Int.natAbs (r))), .bool (decide ((r) < 0))] ∧ Below w.heap.size w w2) ⟨((so3 ((((BX2.out).set 0 _).set 1 _).set 2 _) (by show w.heap.size + 1 + 1 ≠ w.heap.size + 1 + 1 + 1; omega)).eq (by simp only [rA, rB, rC])).gr ((Below.refl _ _).drew), (((((so3 (BX3.out) (by show w.heap.size + 1 + 1 + 1 ≠ w.heap.size + 1 + 1; omega)).set 0 _).set 1 _).set 2 _).eq (by simp only [rA, rB, rC])).gr ((Below.refl _ _).drew), (sc3 (sc3 (HB.out) (by show w.heap.size ≤ w.heap.size + 1 + 1; omega)) (by show w.heap.size ≤ w.heap.size + 1 + 1 + 1; omega)).drew⟩ ?_
  clear HB BX1 BX2 BX3
  rintro Wx8 ⟨bx2, bx3, HB⟩
  replace HB := Lib.hid HB
  refine wp_ret ?_
  try simp only [Exit.then, Exit.inBlock]
  have lx2 := bx2.cells
  have lx3 := bx3.cells
  have r0 := Gr.refl Wx8
  exact bodyPost_ret (v := .tuple #[(.agg #[.int .u64 (lo (Int.natAbs (q))), .string (bg (Int.natAbs (q))), .bool (decide ((q) < 0))]), (.agg #[.int .u64 (lo (Int.natAbs (r))), .string (bg (Int.natAbs (r))), .bool (decide ((r) < 0))]), .bool true]) (by simp [results, Tryd.results28, go_sem, lx2 _ r0, lx3 _ r0]) rfl ⟨rfl, HB.out⟩

set_option maxRecDepth 20000 in
set_option maxHeartbeats 4000000 in
theorem div_zn (a b q r : Int) (w : World) (HQ : Hid (a / b = q)) (HR : Hid (a % b = r)) (HBS : Hid (b < 0)) (H0 : Hid (a < 0)) (HM : Hid (a.natAbs % b.natAbs = 0)) (HRS : Hid (0 ≤ r)) (ha9 : wl a.natAbs ≤ 100000000000) (hb9 : wl b.natAbs ≤ 100000000000) :
    Calls Tryd.prog 28 #[(Value.agg #[.int .u64 (lo (Int.natAbs (a))), .string (bg (Int.natAbs (a))), .bool (decide ((a) < 0))]), (Value.agg #[.int .u64 (lo (Int.natAbs (b))), .string (bg (Int.natAbs (b))), .bool (decide ((b) < 0))])] w fun e w' => e = .returned (.tuple #[(.agg #[.int .u64 (lo (Int.natAbs (q))), .string (bg (Int.natAbs (q))), .bool (decide ((q) < 0))]), (.agg #[.int .u64 (lo (Int.natAbs (r))), .string (bg (Int.natAbs (r))), .bool (decide ((r) < 0))]), .bool true]) ∧ Below w.heap.size w w' := by
  go_enter Tryd.func28, Tryd.ntmps28
  refine sK fun K hK => ?_
  refine wp_region_lit ?_
  go_wp2
  refine hK.out _ _ ?_; clear hK K
  show Code.wp _ _ _ _ _
  refine forgetW (fun w2 => Bx w2 (w.heap.size) 29 #[.int .u64 (lo (Int.natAbs (a))), .string (bg (Int.natAbs (a))), .bool (decide ((a) < 0))] ∧ Bx w2 (w.heap.size + 1) 29 #[.int .u64 (lo (Int.natAbs (b))), .string (bg (Int.natAbs (b))), .bool (decide ((b) < 0))] ∧ Bx w2 (w.heap.size + 1 + 1) 29 #[.int .u64 0, .string ⟨#[]⟩, .bool false] ∧ Bx w2 (w.heap.size + 1 + 1 + 1) 29 #[.int .u64 0, .string ⟨#[]⟩, .bool false] ∧ Below w.heap.size w w2) ⟨(((Bx.at rfl).alloc _).alloc _).alloc _, ((Bx.at (by simp)).alloc _).alloc _, (Bx.at (by simp)).alloc _, Bx.at (by simp), ((((Below.refl _ _).alloc (Nat.le_refl _) _).alloc (by simp) _).alloc (by simp; omega) _).alloc (by simp; omega) _⟩ ?_
  rintro Wx ⟨bx0, bx1, bx2, bx3, HB⟩
  replace HB := Lib.hid HB
  obtain ⟨u1, HZ1⟩ : ∃ z, Hid ((Int.natAbs (a)) / (Int.natAbs (b)) = z) := ⟨_, Lib.hid rfl⟩
  have su1 : wl (u1) ≤ 100000000000 := by rw [← HZ1.out]; have := wl_div (Int.natAbs (a)) (Int.natAbs (b)); omega
  have HZ2 : Hid ((Int.natAbs (a)) % (Int.natAbs (b)) = 0) := Lib.hid (HM.out)
  have su2 : wl (0) ≤ 100000000000 := by have e := HZ2.out; first | omega | (rw [← e]; have := wl_mod (Int.natAbs (a)) (Int.natAbs (b)); omega) | exact wl_le.2 (by decide +kernel)
  have lx0 := bx0.cells
  have lx1 := bx1.cells
  have BX0 := Lib.hid bx0
  have BX1 := Lib.hid bx1
  have BX2 := Lib.hid bx2
  have BX3 := Lib.hid bx3
  clear bx0 bx1 bx2 bx3
  refine sK fun K hK => ?_
  refine wp_region_seqplan 11 [(true, 0), (true, 1), (true, 2), (true, 3), (true, 4), (true, 5), (true, 6), (true, 7), (true, 8), (true, 9), (true, 10)] (by rfl) (by simp) (fun T hT => ?_)
  iterate 6 (refine wpPlan_takeL (v := ?_) rfl (by rfl) (fun w' hw => ?_) ?_; rotate_left; go_simp; with_reducible rfl; simp only [Act.put, rA, rB, rC])
  refine wpPlan_callL rfl (by rfl) Tryd.call50 (fun w' hw => nzdiv (Int.natAbs (a)) (Int.natAbs (b)) (u1) (0) _ HZ1.out HZ2.out (by have h0 := H0.out; have hb := HBS.out; have hr := HRS.out; first | omega | (try simp only [← HZ1.out]) <;> first | rfl | omega | (simp; done) | grind) (by first | omega | exact wlc (by decide)) (by first | omega | exact wlc (by decide))) (by rfl) ?_
  simp only [Act.put, rA, rB, rC]
  iterate 4 (refine wpPlan_takeL (v := ?_) rfl (by rfl) (fun w' hw => ?_) ?_; rotate_left; go_simp; with_reducible rfl; simp only [Act.put, rA, rB, rC])
  refine wpPlan_nil (hT.out _ _ ?_); clear hT T
  intro vw1 hg
  simp only [puts, Act.put, rA, rB, rC, rD, rE, ↓reduceIte, Nat.reduceEqDiff]
  clear lx0 lx1
  have HG := Lib.hid (hg)
  clear hg
  replace BX0 := bG BX0 HG
  replace BX1 := bG BX1 HG
  replace BX2 := bG BX2 HG
  replace BX3 := bG BX3 HG
  have r0 := Gr.refl vw1
  go_wp2
  refine hK.out _ _ ?_; clear hK K
  show Code.wp _ _ _ _ _
  clear r0
  have hsz : w.heap.size ≤ vw1.heap.size := Nat.le_trans HB.out.size HG.out.size
  have mx0 : w.heap.size < vw1.heap.size := BX0.out.lt
  have mx1 : w.heap.size + 1 < vw1.heap.size := BX1.out.lt
  have mx2 : w.heap.size + 1 + 1 < vw1.heap.size := BX2.out.lt
  have mx3 : w.heap.size + 1 + 1 + 1 < vw1.heap.size := BX3.out.lt
  refine forgetW (fun w2 => Bx w2 (w.heap.size) 29 #[.int .u64 (lo (Int.natAbs (a))), .string (bg (Int.natAbs (a))), .bool (decide ((a) < 0))] ∧ Bx w2 (w.heap.size + 1) 29 #[.int .u64 (lo (Int.natAbs (b))), .string (bg (Int.natAbs (b))), .bool (decide ((b) < 0))] ∧ Bx w2 (w.heap.size + 1 + 1) 29 #[.int .u64 0, .string ⟨#[]⟩, .bool false] ∧ Bx w2 (w.heap.size + 1 + 1 + 1) 29 #[.int .u64 0, .string ⟨#[]⟩, .bool false] ∧ NX w2 (vw1.heap.size) (u1) ∧ NX w2 (vw1.heap.size + 1) (0) ∧ Below w.heap.size w w2) ⟨((BX0.out).alloc _).alloc _, ((BX1.out).alloc _).alloc _, ((BX2.out).alloc _).alloc _, ((BX3.out).alloc _).alloc _, ((Bx.at (by simp) : Bx _ (vw1.heap.size) _ _)).alloc _, (Bx.at (by simp) : Bx _ (vw1.heap.size + 1) _ _), ((HB.out.trans (HG.out.mono HB.out.size)).alloc (by first | omega | (simp; omega)) _).alloc (by first | omega | (simp; omega)) _⟩ ?_
  clear HB HG BX0 BX1 BX2 BX3
  rintro Wx1 ⟨bx0, bx1, bx2, bx3, bx4, bx5, HB⟩
  replace HB := Lib.hid HB
  have qx4_5 : vw1.heap.size < vw1.heap.size + 1 := by omega
  have yx5 : w.heap.size ≤ vw1.heap.size + 1 := by omega
  have qx0_5 : w.heap.size < vw1.heap.size + 1 := by omega
  have qx1_5 : w.heap.size + 1 < vw1.heap.size + 1 := by omega
  have qx2_5 : w.heap.size + 1 + 1 < vw1.heap.size + 1 := by omega
  have qx3_5 : w.heap.size + 1 + 1 + 1 < vw1.heap.size + 1 := by omega
  generalize hx5 : vw1.heap.size + 1 = gx5 at *
  clear hx5
  have yx4 : w.heap.size ≤ vw1.heap.size := by omega
  have qx0_4 : w.heap.size < vw1.heap.size := by omega
  have qx1_4 : w.heap.size + 1 < vw1.heap.size := by omega
  have qx2_4 : w.heap.size + 1 + 1 < vw1.heap.size := by omega
  have qx3_4 : w.heap.size + 1 + 1 + 1 < vw1.heap.size := by omega
  generalize hx4 : vw1.heap.size = gx4 at *
  clear hx4
  clear hsz mx0 mx1 mx2 mx3
  refine wp_seq ?_
  have BX0 := Lib.hid bx0
  have BX1 := Lib.hid bx1
  have BX2 := Lib.hid bx2
  have BX3 := Lib.hid bx3
  have BX4 := Lib.hid bx4
  have BX5 := Lib.hid bx5
  clear bx0 bx1 bx2 bx3 bx4 bx5
  refine sK fun K hK => ?_
  refine wp_region_seqplan 2 [(true, 0), (true, 1)] (by rfl) (by simp) (fun T hT => ?_)
  iterate 2 (refine wpPlan_takeL (v := ?_) rfl (by rfl) (fun w' hw => ?_) ?_; rotate_left; go_simp; with_reducible rfl; simp only [Act.put, rA, rB, rC])
  refine wpPlan_nil (hT.out _ _ ?_); clear hT T
  intro vw2 hg
  simp only [puts, Act.put, rA, rB, rC, rD, rE, ↓reduceIte, Nat.reduceEqDiff]
  have HG := Lib.hid (hg)
  clear hg
  replace BX0 := bG BX0 HG
  replace BX1 := bG BX1 HG
  replace BX2 := bG BX2 HG
  replace BX3 := bG BX3 HG
  replace BX4 := bG BX4 HG
  replace BX5 := bG BX5 HG
  have r0 := Gr.refl vw2
  go_wp2
  refine hK.out _ _ ?_; clear hK K
  show Code.wp _ _ _ _ _
  clear r0
  refine forgetW (fun w2 => Bx w2 (w.heap.size) 29 #[.int .u64 (lo (Int.natAbs (a))), .string (bg (Int.natAbs (a))), .bool (decide ((a) < 0))] ∧ Bx w2 (w.heap.size + 1) 29 #[.int .u64 (lo (Int.natAbs (b))), .string (bg (Int.natAbs (b))), .bool (decide ((b) < 0))] ∧ Bx w2 (w.heap.size + 1 + 1) 29 #[.int .u64 0, .string ⟨#[]⟩, .bool false] ∧ Bx w2 (w.heap.size + 1 + 1 + 1) 29 #[.int .u64 0, .string ⟨#[]⟩, .bool false] ∧ NX w2 gx4 (u1) ∧ NX w2 gx5 (0) ∧ Below w.heap.size w w2) ⟨BX0.out, BX1.out, BX2.out, BX3.out, BX4.out, BX5.out, HB.out.trans (HG.out.mono HB.out.size)⟩ ?_
  clear HB HG BX0 BX1 BX2 BX3 BX4 BX5
  rintro Wx2 ⟨bx0, bx1, bx2, bx3, bx4, bx5, HB⟩
  replace HB := Lib.hid HB
  refine wp_cond_false (by rfl) ?_
  refine wp_skip ?_
  show Code.wp _ _ _ _ _
  have hd1 : decide ((a) < 0) = true := decide_eq_true (by have h0 := H0.out; have hb := HBS.out; have hr := HRS.out; first | omega | (try simp only [← HZ1.out]) <;> first | rfl | omega | (simp; done) | grind)
  have hd2 : decide ((b) < 0) = true := decide_eq_true (by have h0 := H0.out; have hb := HBS.out; have hr := HRS.out; first | omega | (try simp only [← HZ1.out]) <;> first | rfl | omega | (simp; done) | grind)
  have hd3 : decide ((a) < 0) = true := decide_eq_true (by have h0 := H0.out; have hb := HBS.out; have hr := HRS.out; first | omega | (try simp only [← HZ1.out]) <;> first | rfl | omega | (simp; done) | grind)
  have HZ3 : Hid ((if false then -((u1 : Nat) : Int) else ((u1 : Nat) : Int)) = q) := Lib.hid (by have h0 := H0.out; have hb := HBS.out; have hr := HRS.out; rw [← HQ.out, ← HZ1.out]; exact dq true true (decide_eq_true (by omega)) (decide_eq_true (by omega)) (by omega) (.inr HM.out))
  have su3 : wl (Int.natAbs (q)) ≤ 100000000000 := by have e := HZ3.out; first | omega | (rw [← e]; split <;> simp <;> omega)
  have HZ4 : Hid ((if true then -((0 : Nat) : Int) else ((0 : Nat) : Int)) = r) := Lib.hid (by have h0 := H0.out; have hb := HBS.out; have hr := HRS.out; rw [← HR.out]; have e9 := dr (a := a) (b := b) true (decide_eq_true (by omega)) (by omega) (.inr HM.out); rw [HM.out] at e9; exact e9)
  have su4 : wl (Int.natAbs (r)) ≤ 100000000000 := by have e := HZ4.out; first | omega | (rw [← e]; split <;> simp <;> omega)
  have lx0 := bx0.cells
  have lx1 := bx1.cells
  have lx4 := bx4.cells
  have lx5 := bx5.cells
  have BX0 := Lib.hid bx0
  have BX1 := Lib.hid bx1
  have BX2 := Lib.hid bx2
  have BX3 := Lib.hid bx3
  have BX4 := Lib.hid bx4
  have BX5 := Lib.hid bx5
  clear bx0 bx1 bx2 bx3 bx4 bx5
  refine sK fun K hK => ?_
  refine wp_region_plan 11 [] [] (fun _ => 0) (fun _ => .cells #[] 0) [(true, 0), (true, 1), (true, 2), (true, 3), (true, 4), (true, 5), (true, 7), (true, 8), (true, 9), (true, 6), (true, 10)] (by kernel_rfl) (by kernel_rfl) (fun i hi => by cases hi) (fun i hi => by cases hi) (fun _ _ _ _ _ h => h) (fun T hT => ?_)
  iterate 9 (refine wpPlan_takeL (v := ?_) rfl (by rfl) (fun w' hw => ?_) ?_; rotate_left; go_simp; with_reducible rfl; simp only [Act.put, rA, rB, rC])
  refine wpPlan_callL rfl (by rfl) Tryd.call25 (fun w' hw => from_any false (u1) (q) _ HZ3.out) (by rfl) ?_
  simp only [Act.put, rA, rB, rC]
  refine wpPlan_callL rfl (by rfl) Tryd.call25 (fun w' hw => from_any true (0) (r) _ HZ4.out) (by rfl) ?_
  simp only [Act.put, rA, rB, rC]
  refine wpPlan_nil (hT.out _ _ ?_); clear hT T
  intro G vw3 hg hf
  simp only [puts, Act.put, rA, rB, rC, rD, rE, ↓reduceIte, Nat.reduceEqDiff]
  clear lx0 lx1 lx4 lx5
  have HG := Lib.hid (hg)
  clear hg
  replace BX0 := bG BX0 HG
  replace BX1 := bG BX1 HG
  replace BX2 := bG BX2 HG
  replace BX3 := bG BX3 HG
  replace BX4 := bG BX4 HG
  replace BX5 := bG BX5 HG
  have lx2 := BX2.out.cells; have fx2 := BX2.out.free
  have lx3 := BX3.out.cells; have fx3 := BX3.out.free
  have r0 := Gr.refl vw3
  go_wp2
  refine hK.out _ _ ?_; clear hK K
  show Code.wp _ _ _ _ _
  clear lx2 fx2
  clear lx3 fx3
  clear r0
  refine forgetW (fun w2 => Bx w2 (w.heap.size + 1) 29 #[.int .u64 (lo (Int.natAbs (b))), .string (bg (Int.natAbs (b))), .bool (decide ((b) < 0))] ∧ Bx w2 (w.heap.size + 1 + 1) 29 #[.int .u64 (lo (Int.natAbs (q))), .string (bg (Int.natAbs (q))), .bool (decide ((q) < 0))] ∧ Bx w2 (w.heap.size + 1 + 1 + 1) 29 #[.int .u64 (lo (Int.natAbs (r))), .string (bg (Int.natAbs (r))), .bool (decide ((r) < 0))] ∧ Below w.heap.size w w2) ⟨so3 (so3 (BX1.out) (by show w.heap.size + 1 ≠ w.heap.size + 1 + 1; omega)) (by show w.heap.size + 1 ≠ w.heap.size + 1 + 1 + 1; omega), (so3 ((((BX2.out).set 0 _).set 1 _).set 2 _) (by show w.heap.size + 1 + 1 ≠ w.heap.size + 1 + 1 + 1; omega)).eq (by simp only [rA, rB, rC]), ((((so3 (BX3.out) (by show w.heap.size + 1 + 1 + 1 ≠ w.heap.size + 1 + 1; omega)).set 0 _).set 1 _).set 2 _).eq (by simp only [rA, rB, rC]), sc3 (sc3 (HB.out.trans (HG.out.mono HB.out.size)) (by show w.heap.size ≤ w.heap.size + 1 + 1; omega)) (by show w.heap.size ≤ w.heap.size + 1 + 1 + 1; omega)⟩ ?_
  clear HB HG BX0 BX1 BX2 BX3 BX4 BX5
  rintro Wx4 ⟨bx1, bx2, bx3, HB⟩
  replace HB := Lib.hid HB
  clear hd1 hd2 hd3
  refine wp_seq ?_
  have hd4 : decide ((r) < 0) = false := decide_eq_false (by have h0 := H0.out; have hb := HBS.out; have hr := HRS.out; first | omega | (try simp only [← HZ1.out]) <;> first | rfl | omega | (simp; done) | grind)
  have lx3 := bx3.cells
  have BX1 := Lib.hid bx1
  have BX2 := Lib.hid bx2
  have BX3 := Lib.hid bx3
  clear bx1 bx2 bx3
  refine sK fun K hK => ?_
  refine wp_region_seqplan 2 [(true, 0), (true, 1)] (by rfl) (by simp) (fun T hT => ?_)
  iterate 2 (refine wpPlan_takeL (v := ?_) rfl (by rfl) (fun w' hw => ?_) ?_; rotate_left; go_simp; with_reducible rfl; simp only [Act.put, rA, rB, rC])
  refine wpPlan_nil (hT.out _ _ ?_); clear hT T
  intro vw4 hg
  simp only [puts, Act.put, rA, rB, rC, rD, rE, ↓reduceIte, Nat.reduceEqDiff]
  clear lx3
  have HG := Lib.hid (hg)
  clear hg
  replace BX1 := bG BX1 HG
  replace BX2 := bG BX2 HG
  replace BX3 := bG BX3 HG
  have r0 := Gr.refl vw4
  go_wp2
  refine hK.out _ _ ?_; clear hK K
  show Code.wp _ _ _ _ _
  clear r0
  refine forgetW (fun w2 => Bx w2 (w.heap.size + 1) 29 #[.int .u64 (lo (Int.natAbs (b))), .string (bg (Int.natAbs (b))), .bool (decide ((b) < 0))] ∧ Bx w2 (w.heap.size + 1 + 1) 29 #[.int .u64 (lo (Int.natAbs (q))), .string (bg (Int.natAbs (q))), .bool (decide ((q) < 0))] ∧ Bx w2 (w.heap.size + 1 + 1 + 1) 29 #[.int .u64 (lo (Int.natAbs (r))), .string (bg (Int.natAbs (r))), .bool (decide ((r) < 0))] ∧ Below w.heap.size w w2) ⟨BX1.out, BX2.out, BX3.out, HB.out.trans (HG.out.mono HB.out.size)⟩ ?_
  clear HB HG BX1 BX2 BX3
  rintro Wx5 ⟨bx1, bx2, bx3, HB⟩
  replace HB := Lib.hid HB
  clear hd4
  refine wp_cond_false (by rfl) ?_
  refine wp_skip ?_
  show Code.wp _ _ _ _ _
  have lx2 := bx2.cells; have fx2 := bx2.free
  have lx3 := bx3.cells; have fx3 := bx3.free
  have r0 := Gr.refl Wx5
  have BX1 := Lib.hid bx1; clear bx1
  have BX2 := Lib.hid bx2; clear bx2
  have BX3 := Lib.hid bx3; clear bx3
  refine sK fun K hK => ?_
  go_region
  go_wp2
  refine hK.out _ _ ?_; clear hK K
  show Code.wp _ _ _ _ _
  clear r0 lx2 fx2 lx3 fx3
  refine forgetW (fun w2 => Bx w2 (w.heap.size + 1 + 1) 29 #[.int .u64 (lo (Int.natAbs (q))), .string (bg (Int.natAbs (q))), .bool (decide ((q) < 0))] ∧ Bx w2 (w.heap.size + 1 + 1 + 1) 29 #[.int .u64 (lo (Int.natAbs (r))), .string (bg (Int.natAbs (r))), .bool (decide ((r) < 0))] ∧ Below w.heap.size w w2) ⟨((so3 ((((BX2.out).set 0 _).set 1 _).set 2 _) (by show w.heap.size + 1 + 1 ≠ w.heap.size + 1 + 1 + 1; omega)).eq (by simp only [rA, rB, rC])).gr ((Below.refl _ _).drew), (((((so3 (BX3.out) (by show w.heap.size + 1 + 1 + 1 ≠ w.heap.size + 1 + 1; omega)).set 0 _).set 1 _).set 2 _).eq (by simp only [rA, rB, rC])).gr ((Below.refl _ _).drew), (sc3 (sc3 (HB.out) (by show w.heap.size ≤ w.heap.size + 1 + 1; omega)) (by show w.heap.size ≤ w.heap.size + 1 + 1 + 1; omega)).drew⟩ ?_
  clear HB BX1 BX2 BX3
  rintro Wx8 ⟨bx2, bx3, HB⟩
  replace HB := Lib.hid HB
  refine wp_ret ?_
  try simp only [Exit.then, Exit.inBlock]
  have lx2 := bx2.cells
  have lx3 := bx3.cells
  have r0 := Gr.refl Wx8
  exact bodyPost_ret (v := .tuple #[(.agg #[.int .u64 (lo (Int.natAbs (q))), .string (bg (Int.natAbs (q))), .bool (decide ((q) < 0))]), (.agg #[.int .u64 (lo (Int.natAbs (r))), .string (bg (Int.natAbs (r))), .bool (decide ((r) < 0))]), .bool true]) (by simp [results, Tryd.results28, go_sem, lx2 _ r0, lx3 _ r0]) rfl ⟨rfl, HB.out⟩

set_option maxRecDepth 20000 in
set_option maxHeartbeats 4000000 in
theorem div_np (a b q r : Int) (w : World) (HQ : Hid (a / b = q)) (HR : Hid (a % b = r)) (HBS : Hid (0 < b)) (H0 : Hid (a < 0)) (m : Int) (HM : Hid (-((a.natAbs % b.natAbs : Nat) : Int) = m)) (HMS : Hid (m < 0)) (HN : Hid (a.natAbs % b.natAbs ≠ 0)) (HRS : Hid (0 ≤ r)) (ha9 : wl a.natAbs ≤ 100000000000) (hb9 : wl b.natAbs ≤ 100000000000) :
    Calls Tryd.prog 28 #[(Value.agg #[.int .u64 (lo (Int.natAbs (a))), .string (bg (Int.natAbs (a))), .bool (decide ((a) < 0))]), (Value.agg #[.int .u64 (lo (Int.natAbs (b))), .string (bg (Int.natAbs (b))), .bool (decide ((b) < 0))])] w fun e w' => e = .returned (.tuple #[(.agg #[.int .u64 (lo (Int.natAbs (q))), .string (bg (Int.natAbs (q))), .bool (decide ((q) < 0))]), (.agg #[.int .u64 (lo (Int.natAbs (r))), .string (bg (Int.natAbs (r))), .bool (decide ((r) < 0))]), .bool true]) ∧ Below w.heap.size w w' := by
  go_enter Tryd.func28, Tryd.ntmps28
  refine sK fun K hK => ?_
  refine wp_region_lit ?_
  go_wp2
  refine hK.out _ _ ?_; clear hK K
  show Code.wp _ _ _ _ _
  refine forgetW (fun w2 => Bx w2 (w.heap.size) 29 #[.int .u64 (lo (Int.natAbs (a))), .string (bg (Int.natAbs (a))), .bool (decide ((a) < 0))] ∧ Bx w2 (w.heap.size + 1) 29 #[.int .u64 (lo (Int.natAbs (b))), .string (bg (Int.natAbs (b))), .bool (decide ((b) < 0))] ∧ Bx w2 (w.heap.size + 1 + 1) 29 #[.int .u64 0, .string ⟨#[]⟩, .bool false] ∧ Bx w2 (w.heap.size + 1 + 1 + 1) 29 #[.int .u64 0, .string ⟨#[]⟩, .bool false] ∧ Below w.heap.size w w2) ⟨(((Bx.at rfl).alloc _).alloc _).alloc _, ((Bx.at (by simp)).alloc _).alloc _, (Bx.at (by simp)).alloc _, Bx.at (by simp), ((((Below.refl _ _).alloc (Nat.le_refl _) _).alloc (by simp) _).alloc (by simp; omega) _).alloc (by simp; omega) _⟩ ?_
  rintro Wx ⟨bx0, bx1, bx2, bx3, HB⟩
  replace HB := Lib.hid HB
  obtain ⟨u1, HZ1⟩ : ∃ z, Hid ((Int.natAbs (a)) / (Int.natAbs (b)) = z) := ⟨_, Lib.hid rfl⟩
  have su1 : wl (u1) ≤ 100000000000 := by rw [← HZ1.out]; have := wl_div (Int.natAbs (a)) (Int.natAbs (b)); omega
  obtain ⟨u2, HZ2⟩ : ∃ z, Hid ((Int.natAbs (a)) % (Int.natAbs (b)) = z) := ⟨_, Lib.hid rfl⟩
  have su2 : wl (u2) ≤ 100000000000 := by rw [← HZ2.out]; have := wl_mod (Int.natAbs (a)) (Int.natAbs (b)); omega
  have lx0 := bx0.cells
  have lx1 := bx1.cells
  have BX0 := Lib.hid bx0
  have BX1 := Lib.hid bx1
  have BX2 := Lib.hid bx2
  have BX3 := Lib.hid bx3
  clear bx0 bx1 bx2 bx3
  refine sK fun K hK => ?_
  refine wp_region_seqplan 11 [(true, 0), (true, 1), (true, 2), (true, 3), (true, 4), (true, 5), (true, 6), (true, 7), (true, 8), (true, 9), (true, 10)] (by rfl) (by simp) (fun T hT => ?_)
  iterate 6 (refine wpPlan_takeL (v := ?_) rfl (by rfl) (fun w' hw => ?_) ?_; rotate_left; go_simp; with_reducible rfl; simp only [Act.put, rA, rB, rC])
  refine wpPlan_callL rfl (by rfl) Tryd.call50 (fun w' hw => nzdiv (Int.natAbs (a)) (Int.natAbs (b)) (u1) (u2) _ HZ1.out HZ2.out (by have h0 := H0.out; have hb := HBS.out; have hr := HRS.out; have hm := HMS.out; first | omega | (try simp only [← HZ2.out, ← HZ1.out]) <;> first | rfl | omega | (simp; done) | grind) (by first | omega | exact wlc (by decide)) (by first | omega | exact wlc (by decide))) (by rfl) ?_
  simp only [Act.put, rA, rB, rC]
  iterate 4 (refine wpPlan_takeL (v := ?_) rfl (by rfl) (fun w' hw => ?_) ?_; rotate_left; go_simp; with_reducible rfl; simp only [Act.put, rA, rB, rC])
  refine wpPlan_nil (hT.out _ _ ?_); clear hT T
  intro vw1 hg
  simp only [puts, Act.put, rA, rB, rC, rD, rE, ↓reduceIte, Nat.reduceEqDiff]
  clear lx0 lx1
  have HG := Lib.hid (hg)
  clear hg
  replace BX0 := bG BX0 HG
  replace BX1 := bG BX1 HG
  replace BX2 := bG BX2 HG
  replace BX3 := bG BX3 HG
  have r0 := Gr.refl vw1
  go_wp2
  refine hK.out _ _ ?_; clear hK K
  show Code.wp _ _ _ _ _
  clear r0
  have hsz : w.heap.size ≤ vw1.heap.size := Nat.le_trans HB.out.size HG.out.size
  have mx0 : w.heap.size < vw1.heap.size := BX0.out.lt
  have mx1 : w.heap.size + 1 < vw1.heap.size := BX1.out.lt
  have mx2 : w.heap.size + 1 + 1 < vw1.heap.size := BX2.out.lt
  have mx3 : w.heap.size + 1 + 1 + 1 < vw1.heap.size := BX3.out.lt
  refine forgetW (fun w2 => Bx w2 (w.heap.size) 29 #[.int .u64 (lo (Int.natAbs (a))), .string (bg (Int.natAbs (a))), .bool (decide ((a) < 0))] ∧ Bx w2 (w.heap.size + 1) 29 #[.int .u64 (lo (Int.natAbs (b))), .string (bg (Int.natAbs (b))), .bool (decide ((b) < 0))] ∧ Bx w2 (w.heap.size + 1 + 1) 29 #[.int .u64 0, .string ⟨#[]⟩, .bool false] ∧ Bx w2 (w.heap.size + 1 + 1 + 1) 29 #[.int .u64 0, .string ⟨#[]⟩, .bool false] ∧ NX w2 (vw1.heap.size) (u1) ∧ NX w2 (vw1.heap.size + 1) (u2) ∧ Below w.heap.size w w2) ⟨((BX0.out).alloc _).alloc _, ((BX1.out).alloc _).alloc _, ((BX2.out).alloc _).alloc _, ((BX3.out).alloc _).alloc _, ((Bx.at (by simp) : Bx _ (vw1.heap.size) _ _)).alloc _, (Bx.at (by simp) : Bx _ (vw1.heap.size + 1) _ _), ((HB.out.trans (HG.out.mono HB.out.size)).alloc (by first | omega | (simp; omega)) _).alloc (by first | omega | (simp; omega)) _⟩ ?_
  clear HB HG BX0 BX1 BX2 BX3
  rintro Wx1 ⟨bx0, bx1, bx2, bx3, bx4, bx5, HB⟩
  replace HB := Lib.hid HB
  have qx4_5 : vw1.heap.size < vw1.heap.size + 1 := by omega
  have yx5 : w.heap.size ≤ vw1.heap.size + 1 := by omega
  have qx0_5 : w.heap.size < vw1.heap.size + 1 := by omega
  have qx1_5 : w.heap.size + 1 < vw1.heap.size + 1 := by omega
  have qx2_5 : w.heap.size + 1 + 1 < vw1.heap.size + 1 := by omega
  have qx3_5 : w.heap.size + 1 + 1 + 1 < vw1.heap.size + 1 := by omega
  generalize hx5 : vw1.heap.size + 1 = gx5 at *
  clear hx5
  have yx4 : w.heap.size ≤ vw1.heap.size := by omega
  have qx0_4 : w.heap.size < vw1.heap.size := by omega
  have qx1_4 : w.heap.size + 1 < vw1.heap.size := by omega
  have qx2_4 : w.heap.size + 1 + 1 < vw1.heap.size := by omega
  have qx3_4 : w.heap.size + 1 + 1 + 1 < vw1.heap.size := by omega
  generalize hx4 : vw1.heap.size = gx4 at *
  clear hx4
  clear hsz mx0 mx1 mx2 mx3
  refine wp_seq ?_
  have BX0 := Lib.hid bx0
  have BX1 := Lib.hid bx1
  have BX2 := Lib.hid bx2
  have BX3 := Lib.hid bx3
  have BX4 := Lib.hid bx4
  have BX5 := Lib.hid bx5
  clear bx0 bx1 bx2 bx3 bx4 bx5
  refine sK fun K hK => ?_
  refine wp_region_seqplan 2 [(true, 0), (true, 1)] (by rfl) (by simp) (fun T hT => ?_)
  iterate 2 (refine wpPlan_takeL (v := ?_) rfl (by rfl) (fun w' hw => ?_) ?_; rotate_left; go_simp; with_reducible rfl; simp only [Act.put, rA, rB, rC])
  refine wpPlan_nil (hT.out _ _ ?_); clear hT T
  intro vw2 hg
  simp only [puts, Act.put, rA, rB, rC, rD, rE, ↓reduceIte, Nat.reduceEqDiff]
  have HG := Lib.hid (hg)
  clear hg
  replace BX0 := bG BX0 HG
  replace BX1 := bG BX1 HG
  replace BX2 := bG BX2 HG
  replace BX3 := bG BX3 HG
  replace BX4 := bG BX4 HG
  replace BX5 := bG BX5 HG
  have r0 := Gr.refl vw2
  go_wp2
  refine hK.out _ _ ?_; clear hK K
  show Code.wp _ _ _ _ _
  clear r0
  refine forgetW (fun w2 => Bx w2 (w.heap.size) 29 #[.int .u64 (lo (Int.natAbs (a))), .string (bg (Int.natAbs (a))), .bool (decide ((a) < 0))] ∧ Bx w2 (w.heap.size + 1) 29 #[.int .u64 (lo (Int.natAbs (b))), .string (bg (Int.natAbs (b))), .bool (decide ((b) < 0))] ∧ Bx w2 (w.heap.size + 1 + 1) 29 #[.int .u64 0, .string ⟨#[]⟩, .bool false] ∧ Bx w2 (w.heap.size + 1 + 1 + 1) 29 #[.int .u64 0, .string ⟨#[]⟩, .bool false] ∧ NX w2 gx4 (u1) ∧ NX w2 gx5 (u2) ∧ Below w.heap.size w w2) ⟨BX0.out, BX1.out, BX2.out, BX3.out, BX4.out, BX5.out, HB.out.trans (HG.out.mono HB.out.size)⟩ ?_
  clear HB HG BX0 BX1 BX2 BX3 BX4 BX5
  rintro Wx2 ⟨bx0, bx1, bx2, bx3, bx4, bx5, HB⟩
  replace HB := Lib.hid HB
  refine wp_cond_false (by rfl) ?_
  refine wp_skip ?_
  show Code.wp _ _ _ _ _
  have hd1 : decide ((a) < 0) = true := decide_eq_true (by have h0 := H0.out; have hb := HBS.out; have hr := HRS.out; have hm := HMS.out; first | omega | (try simp only [← HZ2.out, ← HZ1.out]) <;> first | rfl | omega | (simp; done) | grind)
  have hd2 : decide ((b) < 0) = false := decide_eq_false (by have h0 := H0.out; have hb := HBS.out; have hr := HRS.out; have hm := HMS.out; first | omega | (try simp only [← HZ2.out, ← HZ1.out]) <;> first | rfl | omega | (simp; done) | grind)
  have hd3 : decide ((a) < 0) = true := decide_eq_true (by have h0 := H0.out; have hb := HBS.out; have hr := HRS.out; have hm := HMS.out; first | omega | (try simp only [← HZ2.out, ← HZ1.out]) <;> first | rfl | omega | (simp; done) | grind)
  obtain ⟨u3, HZ3⟩ : ∃ z, Hid ((if true then -((u1 : Nat) : Int) else ((u1 : Nat) : Int)) = z) := ⟨_, Lib.hid rfl⟩
  have su3 : wl (Int.natAbs (u3)) ≤ 100000000000 := by rw [← HZ3.out]; split <;> simp <;> omega
  have HZ4 : Hid ((if true then -((u2 : Nat) : Int) else ((u2 : Nat) : Int)) = m) := Lib.hid (by rw [← HM.out, ← HZ2.out]; rfl)
  have su4 : wl (Int.natAbs (m)) ≤ 100000000000 := by have e := HZ4.out; first | omega | (rw [← e]; split <;> simp <;> omega)
  have lx0 := bx0.cells
  have lx1 := bx1.cells
  have lx4 := bx4.cells
  have lx5 := bx5.cells
  have BX0 := Lib.hid bx0
  have BX1 := Lib.hid bx1
  have BX2 := Lib.hid bx2
  have BX3 := Lib.hid bx3
  have BX4 := Lib.hid bx4
  have BX5 := Lib.hid bx5
  clear bx0 bx1 bx2 bx3 bx4 bx5
  refine sK fun K hK => ?_
  refine wp_region_plan 11 [] [] (fun _ => 0) (fun _ => .cells #[] 0) [(true, 0), (true, 1), (true, 2), (true, 3), (true, 4), (true, 5), (true, 7), (true, 8), (true, 9), (true, 6), (true, 10)] (by kernel_rfl) (by kernel_rfl) (fun i hi => by cases hi) (fun i hi => by cases hi) (fun _ _ _ _ _ h => h) (fun T hT => ?_)
  iterate 9 (refine wpPlan_takeL (v := ?_) rfl (by rfl) (fun w' hw => ?_) ?_; rotate_left; go_simp; with_reducible rfl; simp only [Act.put, rA, rB, rC])
  refine wpPlan_callL rfl (by rfl) Tryd.call25 (fun w' hw => from_any true (u1) (u3) _ HZ3.out) (by rfl) ?_
  simp only [Act.put, rA, rB, rC]
  refine wpPlan_callL rfl (by rfl) Tryd.call25 (fun w' hw => from_any true (u2) (m) _ HZ4.out) (by rfl) ?_
  simp only [Act.put, rA, rB, rC]
  refine wpPlan_nil (hT.out _ _ ?_); clear hT T
  intro G vw3 hg hf
  simp only [puts, Act.put, rA, rB, rC, rD, rE, ↓reduceIte, Nat.reduceEqDiff]
  clear lx0 lx1 lx4 lx5
  have HG := Lib.hid (hg)
  clear hg
  replace BX0 := bG BX0 HG
  replace BX1 := bG BX1 HG
  replace BX2 := bG BX2 HG
  replace BX3 := bG BX3 HG
  replace BX4 := bG BX4 HG
  replace BX5 := bG BX5 HG
  have lx2 := BX2.out.cells; have fx2 := BX2.out.free
  have lx3 := BX3.out.cells; have fx3 := BX3.out.free
  have r0 := Gr.refl vw3
  go_wp2
  refine hK.out _ _ ?_; clear hK K
  show Code.wp _ _ _ _ _
  clear lx2 fx2
  clear lx3 fx3
  clear r0
  refine forgetW (fun w2 => Bx w2 (w.heap.size + 1) 29 #[.int .u64 (lo (Int.natAbs (b))), .string (bg (Int.natAbs (b))), .bool (decide ((b) < 0))] ∧ Bx w2 (w.heap.size + 1 + 1) 29 #[.int .u64 (lo (Int.natAbs (u3))), .string (bg (Int.natAbs (u3))), .bool (decide ((u3) < 0))] ∧ Bx w2 (w.heap.size + 1 + 1 + 1) 29 #[.int .u64 (lo (Int.natAbs (m))), .string (bg (Int.natAbs (m))), .bool (decide ((m) < 0))] ∧ Below w.heap.size w w2) ⟨so3 (so3 (BX1.out) (by show w.heap.size + 1 ≠ w.heap.size + 1 + 1; omega)) (by show w.heap.size + 1 ≠ w.heap.size + 1 + 1 + 1; omega), (so3 ((((BX2.out).set 0 _).set 1 _).set 2 _) (by show w.heap.size + 1 + 1 ≠ w.heap.size + 1 + 1 + 1; omega)).eq (by simp only [rA, rB, rC]), ((((so3 (BX3.out) (by show w.heap.size + 1 + 1 + 1 ≠ w.heap.size + 1 + 1; omega)).set 0 _).set 1 _).set 2 _).eq (by simp only [rA, rB, rC]), sc3 (sc3 (HB.out.trans (HG.out.mono HB.out.size)) (by show w.heap.size ≤ w.heap.size + 1 + 1; omega)) (by show w.heap.size ≤ w.heap.size + 1 + 1 + 1; omega)⟩ ?_
  clear HB HG BX0 BX1 BX2 BX3 BX4 BX5
  rintro Wx4 ⟨bx1, bx2, bx3, HB⟩
  replace HB := Lib.hid HB
  clear hd1 hd2 hd3
  refine wp_seq ?_
  have hd4 : decide ((m) < 0) = true := decide_eq_true (by have h0 := H0.out; have hb := HBS.out; have hr := HRS.out; have hm := HMS.out; first | omega | (try simp only [← HZ3.out, ← HZ2.out, ← HZ1.out]) <;> first | rfl | omega | (simp; done) | grind)
  have lx3 := bx3.cells
  have BX1 := Lib.hid bx1
  have BX2 := Lib.hid bx2
  have BX3 := Lib.hid bx3
  clear bx1 bx2 bx3
  refine sK fun K hK => ?_
  refine wp_region_seqplan 2 [(true, 0), (true, 1)] (by rfl) (by simp) (fun T hT => ?_)
  iterate 2 (refine wpPlan_takeL (v := ?_) rfl (by rfl) (fun w' hw => ?_) ?_; rotate_left; go_simp; with_reducible rfl; simp only [Act.put, rA, rB, rC])
  refine wpPlan_nil (hT.out _ _ ?_); clear hT T
  intro vw4 hg
  simp only [puts, Act.put, rA, rB, rC, rD, rE, ↓reduceIte, Nat.reduceEqDiff]
  clear lx3
  have HG := Lib.hid (hg)
  clear hg
  replace BX1 := bG BX1 HG
  replace BX2 := bG BX2 HG
  replace BX3 := bG BX3 HG
  have r0 := Gr.refl vw4
  go_wp2
  refine hK.out _ _ ?_; clear hK K
  show Code.wp _ _ _ _ _
  clear r0
  refine forgetW (fun w2 => Bx w2 (w.heap.size + 1) 29 #[.int .u64 (lo (Int.natAbs (b))), .string (bg (Int.natAbs (b))), .bool (decide ((b) < 0))] ∧ Bx w2 (w.heap.size + 1 + 1) 29 #[.int .u64 (lo (Int.natAbs (u3))), .string (bg (Int.natAbs (u3))), .bool (decide ((u3) < 0))] ∧ Bx w2 (w.heap.size + 1 + 1 + 1) 29 #[.int .u64 (lo (Int.natAbs (m))), .string (bg (Int.natAbs (m))), .bool (decide ((m) < 0))] ∧ Below w.heap.size w w2) ⟨BX1.out, BX2.out, BX3.out, HB.out.trans (HG.out.mono HB.out.size)⟩ ?_
  clear HB HG BX1 BX2 BX3
  rintro Wx5 ⟨bx1, bx2, bx3, HB⟩
  replace HB := Lib.hid HB
  clear hd4
  refine wp_cond_true (by rfl) ?_
  have HZ5 : Hid ((if false then -((Int.natAbs (b) : Nat) : Int) else ((Int.natAbs (b) : Nat) : Int)) = b) := Lib.hid (by have h0 := H0.out; have hb := HBS.out; have hr := HRS.out; have hm := HMS.out; simp; omega)
  have su5 : wl (Int.natAbs (b)) ≤ 100000000000 := by have e := HZ5.out; first | omega | (rw [← e]; split <;> simp <;> omega)
  have HZ6 : Hid ((m) + (b) = r) := Lib.hid (by have h0 := H0.out; have hb := HBS.out; have hr := HRS.out; have hm := HMS.out; rw [← HR.out, ← (div_carry (a := a) (b := b) (by omega) (by omega) HN.out).1, HM.out]; omega)
  have su6 : wl (Int.natAbs (r)) ≤ 100000000001 := by have e := HZ6.out; first | omega | (rw [← e]; have := wl_iadd (m) (b); omega)
  have lx1 := bx1.cells
  have lx3 := bx3.cells
  have BX1 := Lib.hid bx1
  have BX2 := Lib.hid bx2
  have BX3 := Lib.hid bx3
  clear bx1 bx2 bx3
  refine sK fun K hK => ?_
  refine wp_region_plan 6 [] [] (fun _ => 0) (fun _ => .cells #[] 0) [(true, 0), (true, 1), (true, 2), (true, 3), (true, 4), (true, 5)] (by kernel_rfl) (by kernel_rfl) (fun i hi => by cases hi) (fun i hi => by cases hi) (fun _ _ _ _ _ h => h) (fun T hT => ?_)
  iterate 4 (refine wpPlan_takeL (v := ?_) rfl (by rfl) (fun w' hw => ?_) ?_; rotate_left; go_simp; with_reducible rfl; simp only [Act.put, rA, rB, rC])
  refine wpPlan_callL rfl (by rfl) Tryd.call25 (fun w' hw => from_any false (Int.natAbs (b)) (b) _ HZ5.out) (by rfl) ?_
  simp only [Act.put, rA, rB, rC]
  refine wpPlan_callL rfl (by rfl) Tryd.call19 (fun w' hw => ziadd (m) (b) (r) _ HZ6.out (by first | omega | exact wlc (by decide)) (by first | omega | exact wlc (by decide))) (by rfl) ?_
  simp only [Act.put, rA, rB, rC]
  refine wpPlan_nil (hT.out _ _ ?_); clear hT T
  intro G vw5 hg hf
  simp only [puts, Act.put, rA, rB, rC, rD, rE, ↓reduceIte, Nat.reduceEqDiff]
  clear lx1 lx3
  have HG := Lib.hid (hg)
  clear hg
  replace BX1 := bG BX1 HG
  replace BX2 := bG BX2 HG
  replace BX3 := bG BX3 HG
  have lx3 := BX3.out.cells; have fx3 := BX3.out.free
  have r0 := Gr.refl vw5
  go_wp2
  refine hK.out _ _ ?_; clear hK K
  show Code.wp _ _ _ _ _
  clear lx3 fx3
  clear r0
  refine forgetW (fun w2 => Bx w2 (w.heap.size + 1) 29 #[.int .u64 (lo (Int.natAbs (b))), .string (bg (Int.natAbs (b))), .bool (decide ((b) < 0))] ∧ Bx w2 (w.heap.size + 1 + 1) 29 #[.int .u64 (lo (Int.natAbs (u3))), .string (bg (Int.natAbs (u3))), .bool (decide ((u3) < 0))] ∧ Bx w2 (w.heap.size + 1 + 1 + 1) 29 #[.int .u64 (lo (Int.natAbs (r))), .string (bg (Int.natAbs (r))), .bool (decide ((r) < 0))] ∧ Below w.heap.size w w2) ⟨so3 (BX1.out) (by show w.heap.size + 1 ≠ w.heap.size + 1 + 1 + 1; omega), so3 (BX2.out) (by show w.heap.size + 1 + 1 ≠ w.heap.size + 1 + 1 + 1; omega), ((((BX3.out).set 0 _).set 1 _).set 2 _).eq (by simp only [rA, rB, rC]), sc3 (HB.out.trans (HG.out.mono HB.out.size)) (by show w.heap.size ≤ w.heap.size + 1 + 1 + 1; omega)⟩ ?_
  clear HB HG BX1 BX2 BX3
  rintro Wx6 ⟨bx1, bx2, bx3, HB⟩
  replace HB := Lib.hid HB
  have su7 : wl (Int.natAbs (1)) ≤ 1 := wl_le.2 (by decide +kernel)
  have HZ8 : Hid ((u3) - (1) = q) := Lib.hid (by have h0 := H0.out; have hb := HBS.out; have hr := HRS.out; have hm := HMS.out; rw [← HQ.out, ← HZ3.out, ← HZ1.out]; exact dc (a := a) (b := b) false (by omega) (decide_eq_false (by omega)) (by omega) HN.out)
  have su8 : wl (Int.natAbs (q)) ≤ 100000000001 := by have e := HZ8.out; first | omega | (rw [← e]; have := wl_isub (u3) (1); omega)
  have lx1 := bx1.cells
  have lx2 := bx2.cells
  have BX1 := Lib.hid bx1
  have BX2 := Lib.hid bx2
  have BX3 := Lib.hid bx3
  clear bx1 bx2 bx3
  refine wp_last_k fun K hK => ?_
  replace hK := Lib.hid hK
  refine wp_region_plan 5 [] [] (fun _ => 0) (fun _ => .cells #[] 0) [(true, 0), (true, 1), (true, 2), (true, 3), (true, 4)] (by kernel_rfl) (by kernel_rfl) (fun i hi => by cases hi) (fun i hi => by cases hi) (fun _ _ _ _ _ h => h) (fun T hT => ?_)
  iterate 2 (refine wpPlan_takeL (v := ?_) rfl (by rfl) (fun w' hw => ?_) ?_; rotate_left; go_simp; with_reducible rfl; simp only [Act.put, rA, rB, rC])
  refine wpPlan_callL rfl (by rfl) Tryd.call16 (fun w' hw => zisign (b) (1) _ (by have e9 : (0 : Int) < (b) := (by have h0 := H0.out; have hb := HBS.out; have hr := HRS.out; have hm := HMS.out; first | omega | (try simp only [← HZ3.out, ← HZ2.out, ← HZ1.out]) <;> first | rfl | omega | (simp; done) | grind); exact sgI_gt e9)) (by rfl) ?_
  simp only [Act.put, rA, rB, rC]
  refine wpPlan_callL rfl (by rfl) Tryd.call23 (fun w' hw => iof_any (1) _ (by decide) (by decide)) (by rfl) ?_
  simp only [Act.put, rA, rB, rC]
  refine wpPlan_callL rfl (by rfl) Tryd.call21 (fun w' hw => zisub (u3) (1) (q) _ HZ8.out (by first | omega | exact wlc (by decide)) (by first | omega | exact wlc (by decide))) (by rfl) ?_
  simp only [Act.put, rA, rB, rC]
  refine wpPlan_nil (hT.out _ _ ?_); clear hT T
  intro G vw6 hg hf
  simp only [puts, Act.put, rA, rB, rC, rD, rE, ↓reduceIte, Nat.reduceEqDiff]
  clear lx1 lx2
  have HG := Lib.hid (hg)
  clear hg
  replace BX1 := bG BX1 HG
  replace BX2 := bG BX2 HG
  replace BX3 := bG BX3 HG
  have lx2 := BX2.out.cells; have fx2 := BX2.out.free
  have r0 := Gr.refl vw6
  go_wp2
  refine hK.out _ _ ?_; clear hK K
  show Code.wp _ _ _ _ _
  clear lx2 fx2
  clear r0
  refine forgetW (fun w2 => Bx w2 (w.heap.size + 1 + 1) 29 #[.int .u64 (lo (Int.natAbs (q))), .string (bg (Int.natAbs (q))), .bool (decide ((q) < 0))] ∧ Bx w2 (w.heap.size + 1 + 1 + 1) 29 #[.int .u64 (lo (Int.natAbs (r))), .string (bg (Int.natAbs (r))), .bool (decide ((r) < 0))] ∧ Below w.heap.size w w2) ⟨((((BX2.out).set 0 _).set 1 _).set 2 _).eq (by simp only [rA, rB, rC]), so3 (BX3.out) (by show w.heap.size + 1 + 1 + 1 ≠ w.heap.size + 1 + 1; omega), sc3 (HB.out.trans (HG.out.mono HB.out.size)) (by show w.heap.size ≤ w.heap.size + 1 + 1; omega)⟩ ?_
  clear HB HG BX1 BX2 BX3
  rintro Wx7 ⟨bx2, bx3, HB⟩
  replace HB := Lib.hid HB
  have lx2 := bx2.cells; have fx2 := bx2.free
  have lx3 := bx3.cells; have fx3 := bx3.free
  have r0 := Gr.refl Wx7
  have BX2 := Lib.hid bx2; clear bx2
  have BX3 := Lib.hid bx3; clear bx3
  refine sK fun K hK => ?_
  go_region
  go_wp2
  refine hK.out _ _ ?_; clear hK K
  show Code.wp _ _ _ _ _
  clear r0 lx2 fx2 lx3 fx3
  refine forgetW (fun w2 => Bx w2 (w.heap.size + 1 + 1) 29 #[.int .u64 (lo (Int.natAbs (q))), .string (bg (Int.natAbs (q))), .bool (decide ((q) < 0))] ∧ Bx w2 (w.heap.size + 1 + 1 + 1) 29 #[.int .u64 (lo (Int.natAbs (r))), .string (bg (Int.natAbs (r))), .bool (decide ((r) < 0))] ∧ Below w.heap.size w w2) ⟨((so3 ((((BX2.out).set 0 _).set 1 _).set 2 _) (by show w.heap.size + 1 + 1 ≠ w.heap.size + 1 + 1 + 1; omega)).eq (by simp only [rA, rB, rC])).gr ((Below.refl _ _).drew), (((((so3 (BX3.out) (by show w.heap.size + 1 + 1 + 1 ≠ w.heap.size + 1 + 1; omega)).set 0 _).set 1 _).set 2 _).eq (by simp only [rA, rB, rC])).gr ((Below.refl _ _).drew), (sc3 (sc3 (HB.out) (by show w.heap.size ≤ w.heap.size + 1 + 1; omega)) (by show w.heap.size ≤ w.heap.size + 1 + 1 + 1; omega)).drew⟩ ?_
  clear HB BX2 BX3
  rintro Wx8 ⟨bx2, bx3, HB⟩
  replace HB := Lib.hid HB
  refine wp_ret ?_
  try simp only [Exit.then, Exit.inBlock]
  have lx2 := bx2.cells
  have lx3 := bx3.cells
  have r0 := Gr.refl Wx8
  exact bodyPost_ret (v := .tuple #[(.agg #[.int .u64 (lo (Int.natAbs (q))), .string (bg (Int.natAbs (q))), .bool (decide ((q) < 0))]), (.agg #[.int .u64 (lo (Int.natAbs (r))), .string (bg (Int.natAbs (r))), .bool (decide ((r) < 0))]), .bool true]) (by simp [results, Tryd.results28, go_sem, lx2 _ r0, lx3 _ r0]) rfl ⟨rfl, HB.out⟩

set_option maxRecDepth 20000 in
set_option maxHeartbeats 4000000 in
theorem div_nn (a b q r : Int) (w : World) (HQ : Hid (a / b = q)) (HR : Hid (a % b = r)) (HBS : Hid (b < 0)) (H0 : Hid (a < 0)) (m : Int) (HM : Hid (-((a.natAbs % b.natAbs : Nat) : Int) = m)) (HMS : Hid (m < 0)) (HN : Hid (a.natAbs % b.natAbs ≠ 0)) (HRS : Hid (0 ≤ r)) (ha9 : wl a.natAbs ≤ 100000000000) (hb9 : wl b.natAbs ≤ 100000000000) :
    Calls Tryd.prog 28 #[(Value.agg #[.int .u64 (lo (Int.natAbs (a))), .string (bg (Int.natAbs (a))), .bool (decide ((a) < 0))]), (Value.agg #[.int .u64 (lo (Int.natAbs (b))), .string (bg (Int.natAbs (b))), .bool (decide ((b) < 0))])] w fun e w' => e = .returned (.tuple #[(.agg #[.int .u64 (lo (Int.natAbs (q))), .string (bg (Int.natAbs (q))), .bool (decide ((q) < 0))]), (.agg #[.int .u64 (lo (Int.natAbs (r))), .string (bg (Int.natAbs (r))), .bool (decide ((r) < 0))]), .bool true]) ∧ Below w.heap.size w w' := by
  go_enter Tryd.func28, Tryd.ntmps28
  refine sK fun K hK => ?_
  refine wp_region_lit ?_
  go_wp2
  refine hK.out _ _ ?_; clear hK K
  show Code.wp _ _ _ _ _
  refine forgetW (fun w2 => Bx w2 (w.heap.size) 29 #[.int .u64 (lo (Int.natAbs (a))), .string (bg (Int.natAbs (a))), .bool (decide ((a) < 0))] ∧ Bx w2 (w.heap.size + 1) 29 #[.int .u64 (lo (Int.natAbs (b))), .string (bg (Int.natAbs (b))), .bool (decide ((b) < 0))] ∧ Bx w2 (w.heap.size + 1 + 1) 29 #[.int .u64 0, .string ⟨#[]⟩, .bool false] ∧ Bx w2 (w.heap.size + 1 + 1 + 1) 29 #[.int .u64 0, .string ⟨#[]⟩, .bool false] ∧ Below w.heap.size w w2) ⟨(((Bx.at rfl).alloc _).alloc _).alloc _, ((Bx.at (by simp)).alloc _).alloc _, (Bx.at (by simp)).alloc _, Bx.at (by simp), ((((Below.refl _ _).alloc (Nat.le_refl _) _).alloc (by simp) _).alloc (by simp; omega) _).alloc (by simp; omega) _⟩ ?_
  rintro Wx ⟨bx0, bx1, bx2, bx3, HB⟩
  replace HB := Lib.hid HB
  obtain ⟨u1, HZ1⟩ : ∃ z, Hid ((Int.natAbs (a)) / (Int.natAbs (b)) = z) := ⟨_, Lib.hid rfl⟩
  have su1 : wl (u1) ≤ 100000000000 := by rw [← HZ1.out]; have := wl_div (Int.natAbs (a)) (Int.natAbs (b)); omega
  obtain ⟨u2, HZ2⟩ : ∃ z, Hid ((Int.natAbs (a)) % (Int.natAbs (b)) = z) := ⟨_, Lib.hid rfl⟩
  have su2 : wl (u2) ≤ 100000000000 := by rw [← HZ2.out]; have := wl_mod (Int.natAbs (a)) (Int.natAbs (b)); omega
  have lx0 := bx0.cells
  have lx1 := bx1.cells
  have BX0 := Lib.hid bx0
  have BX1 := Lib.hid bx1
  have BX2 := Lib.hid bx2
  have BX3 := Lib.hid bx3
  clear bx0 bx1 bx2 bx3
  refine sK fun K hK => ?_
  refine wp_region_seqplan 11 [(true, 0), (true, 1), (true, 2), (true, 3), (true, 4), (true, 5), (true, 6), (true, 7), (true, 8), (true, 9), (true, 10)] (by rfl) (by simp) (fun T hT => ?_)
  iterate 6 (refine wpPlan_takeL (v := ?_) rfl (by rfl) (fun w' hw => ?_) ?_; rotate_left; go_simp; with_reducible rfl; simp only [Act.put, rA, rB, rC])
  refine wpPlan_callL rfl (by rfl) Tryd.call50 (fun w' hw => nzdiv (Int.natAbs (a)) (Int.natAbs (b)) (u1) (u2) _ HZ1.out HZ2.out (by have h0 := H0.out; have hb := HBS.out; have hr := HRS.out; have hm := HMS.out; first | omega | (try simp only [← HZ2.out, ← HZ1.out]) <;> first | rfl | omega | (simp; done) | grind) (by first | omega | exact wlc (by decide)) (by first | omega | exact wlc (by decide))) (by rfl) ?_
  simp only [Act.put, rA, rB, rC]
  iterate 4 (refine wpPlan_takeL (v := ?_) rfl (by rfl) (fun w' hw => ?_) ?_; rotate_left; go_simp; with_reducible rfl; simp only [Act.put, rA, rB, rC])
  refine wpPlan_nil (hT.out _ _ ?_); clear hT T
  intro vw1 hg
  simp only [puts, Act.put, rA, rB, rC, rD, rE, ↓reduceIte, Nat.reduceEqDiff]
  clear lx0 lx1
  have HG := Lib.hid (hg)
  clear hg
  replace BX0 := bG BX0 HG
  replace BX1 := bG BX1 HG
  replace BX2 := bG BX2 HG
  replace BX3 := bG BX3 HG
  have r0 := Gr.refl vw1
  go_wp2
  refine hK.out _ _ ?_; clear hK K
  show Code.wp _ _ _ _ _
  clear r0
  have hsz : w.heap.size ≤ vw1.heap.size := Nat.le_trans HB.out.size HG.out.size
  have mx0 : w.heap.size < vw1.heap.size := BX0.out.lt
  have mx1 : w.heap.size + 1 < vw1.heap.size := BX1.out.lt
  have mx2 : w.heap.size + 1 + 1 < vw1.heap.size := BX2.out.lt
  have mx3 : w.heap.size + 1 + 1 + 1 < vw1.heap.size := BX3.out.lt
  refine forgetW (fun w2 => Bx w2 (w.heap.size) 29 #[.int .u64 (lo (Int.natAbs (a))), .string (bg (Int.natAbs (a))), .bool (decide ((a) < 0))] ∧ Bx w2 (w.heap.size + 1) 29 #[.int .u64 (lo (Int.natAbs (b))), .string (bg (Int.natAbs (b))), .bool (decide ((b) < 0))] ∧ Bx w2 (w.heap.size + 1 + 1) 29 #[.int .u64 0, .string ⟨#[]⟩, .bool false] ∧ Bx w2 (w.heap.size + 1 + 1 + 1) 29 #[.int .u64 0, .string ⟨#[]⟩, .bool false] ∧ NX w2 (vw1.heap.size) (u1) ∧ NX w2 (vw1.heap.size + 1) (u2) ∧ Below w.heap.size w w2) ⟨((BX0.out).alloc _).alloc _, ((BX1.out).alloc _).alloc _, ((BX2.out).alloc _).alloc _, ((BX3.out).alloc _).alloc _, ((Bx.at (by simp) : Bx _ (vw1.heap.size) _ _)).alloc _, (Bx.at (by simp) : Bx _ (vw1.heap.size + 1) _ _), ((HB.out.trans (HG.out.mono HB.out.size)).alloc (by first | omega | (simp; omega)) _).alloc (by first | omega | (simp; omega)) _⟩ ?_
  clear HB HG BX0 BX1 BX2 BX3
  rintro Wx1 ⟨bx0, bx1, bx2, bx3, bx4, bx5, HB⟩
  replace HB := Lib.hid HB
  have qx4_5 : vw1.heap.size < vw1.heap.size + 1 := by omega
  have yx5 : w.heap.size ≤ vw1.heap.size + 1 := by omega
  have qx0_5 : w.heap.size < vw1.heap.size + 1 := by omega
  have qx1_5 : w.heap.size + 1 < vw1.heap.size + 1 := by omega
  have qx2_5 : w.heap.size + 1 + 1 < vw1.heap.size + 1 := by omega
  have qx3_5 : w.heap.size + 1 + 1 + 1 < vw1.heap.size + 1 := by omega
  generalize hx5 : vw1.heap.size + 1 = gx5 at *
  clear hx5
  have yx4 : w.heap.size ≤ vw1.heap.size := by omega
  have qx0_4 : w.heap.size < vw1.heap.size := by omega
  have qx1_4 : w.heap.size + 1 < vw1.heap.size := by omega
  have qx2_4 : w.heap.size + 1 + 1 < vw1.heap.size := by omega
  have qx3_4 : w.heap.size + 1 + 1 + 1 < vw1.heap.size := by omega
  generalize hx4 : vw1.heap.size = gx4 at *
  clear hx4
  clear hsz mx0 mx1 mx2 mx3
  refine wp_seq ?_
  have BX0 := Lib.hid bx0
  have BX1 := Lib.hid bx1
  have BX2 := Lib.hid bx2
  have BX3 := Lib.hid bx3
  have BX4 := Lib.hid bx4
  have BX5 := Lib.hid bx5
  clear bx0 bx1 bx2 bx3 bx4 bx5
  refine sK fun K hK => ?_
  refine wp_region_seqplan 2 [(true, 0), (true, 1)] (by rfl) (by simp) (fun T hT => ?_)
  iterate 2 (refine wpPlan_takeL (v := ?_) rfl (by rfl) (fun w' hw => ?_) ?_; rotate_left; go_simp; with_reducible rfl; simp only [Act.put, rA, rB, rC])
  refine wpPlan_nil (hT.out _ _ ?_); clear hT T
  intro vw2 hg
  simp only [puts, Act.put, rA, rB, rC, rD, rE, ↓reduceIte, Nat.reduceEqDiff]
  have HG := Lib.hid (hg)
  clear hg
  replace BX0 := bG BX0 HG
  replace BX1 := bG BX1 HG
  replace BX2 := bG BX2 HG
  replace BX3 := bG BX3 HG
  replace BX4 := bG BX4 HG
  replace BX5 := bG BX5 HG
  have r0 := Gr.refl vw2
  go_wp2
  refine hK.out _ _ ?_; clear hK K
  show Code.wp _ _ _ _ _
  clear r0
  refine forgetW (fun w2 => Bx w2 (w.heap.size) 29 #[.int .u64 (lo (Int.natAbs (a))), .string (bg (Int.natAbs (a))), .bool (decide ((a) < 0))] ∧ Bx w2 (w.heap.size + 1) 29 #[.int .u64 (lo (Int.natAbs (b))), .string (bg (Int.natAbs (b))), .bool (decide ((b) < 0))] ∧ Bx w2 (w.heap.size + 1 + 1) 29 #[.int .u64 0, .string ⟨#[]⟩, .bool false] ∧ Bx w2 (w.heap.size + 1 + 1 + 1) 29 #[.int .u64 0, .string ⟨#[]⟩, .bool false] ∧ NX w2 gx4 (u1) ∧ NX w2 gx5 (u2) ∧ Below w.heap.size w w2) ⟨BX0.out, BX1.out, BX2.out, BX3.out, BX4.out, BX5.out, HB.out.trans (HG.out.mono HB.out.size)⟩ ?_
  clear HB HG BX0 BX1 BX2 BX3 BX4 BX5
  rintro Wx2 ⟨bx0, bx1, bx2, bx3, bx4, bx5, HB⟩
  replace HB := Lib.hid HB
  refine wp_cond_false (by rfl) ?_
  refine wp_skip ?_
  show Code.wp _ _ _ _ _
  have hd1 : decide ((a) < 0) = true := decide_eq_true (by have h0 := H0.out; have hb := HBS.out; have hr := HRS.out; have hm := HMS.out; first | omega | (try simp only [← HZ2.out, ← HZ1.out]) <;> first | rfl | omega | (simp; done) | grind)
  have hd2 : decide ((b) < 0) = true := decide_eq_true (by have h0 := H0.out; have hb := HBS.out; have hr := HRS.out; have hm := HMS.out; first | omega | (try simp only [← HZ2.out, ← HZ1.out]) <;> first | rfl | omega | (simp; done) | grind)
  have hd3 : decide ((a) < 0) = true := decide_eq_true (by have h0 := H0.out; have hb := HBS.out; have hr := HRS.out; have hm := HMS.out; first | omega | (try simp only [← HZ2.out, ← HZ1.out]) <;> first | rfl | omega | (simp; done) | grind)
  obtain ⟨u3, HZ3⟩ : ∃ z, Hid ((if false then -((u1 : Nat) : Int) else ((u1 : Nat) : Int)) = z) := ⟨_, Lib.hid rfl⟩
  have su3 : wl (Int.natAbs (u3)) ≤ 100000000000 := by rw [← HZ3.out]; split <;> simp <;> omega
  have HZ4 : Hid ((if true then -((u2 : Nat) : Int) else ((u2 : Nat) : Int)) = m) := Lib.hid (by rw [← HM.out, ← HZ2.out]; rfl)
  have su4 : wl (Int.natAbs (m)) ≤ 100000000000 := by have e := HZ4.out; first | omega | (rw [← e]; split <;> simp <;> omega)
  have lx0 := bx0.cells
  have lx1 := bx1.cells
  have lx4 := bx4.cells
  have lx5 := bx5.cells
  have BX0 := Lib.hid bx0
  have BX1 := Lib.hid bx1
  have BX2 := Lib.hid bx2
  have BX3 := Lib.hid bx3
  have BX4 := Lib.hid bx4
  have BX5 := Lib.hid bx5
  clear bx0 bx1 bx2 bx3 bx4 bx5
  refine sK fun K hK => ?_
  refine wp_region_plan 11 [] [] (fun _ => 0) (fun _ => .cells #[] 0) [(true, 0), (true, 1), (true, 2), (true, 3), (true, 4), (true, 5), (true, 7), (true, 8), (true, 9), (true, 6), (true, 10)] (by kernel_rfl) (by kernel_rfl) (fun i hi => by cases hi) (fun i hi => by cases hi) (fun _ _ _ _ _ h => h) (fun T hT => ?_)
  iterate 9 (refine wpPlan_takeL (v := ?_) rfl (by rfl) (fun w' hw => ?_) ?_; rotate_left; go_simp; with_reducible rfl; simp only [Act.put, rA, rB, rC])
  refine wpPlan_callL rfl (by rfl) Tryd.call25 (fun w' hw => from_any false (u1) (u3) _ HZ3.out) (by rfl) ?_
  simp only [Act.put, rA, rB, rC]
  refine wpPlan_callL rfl (by rfl) Tryd.call25 (fun w' hw => from_any true (u2) (m) _ HZ4.out) (by rfl) ?_
  simp only [Act.put, rA, rB, rC]
  refine wpPlan_nil (hT.out _ _ ?_); clear hT T
  intro G vw3 hg hf
  simp only [puts, Act.put, rA, rB, rC, rD, rE, ↓reduceIte, Nat.reduceEqDiff]
  clear lx0 lx1 lx4 lx5
  have HG := Lib.hid (hg)
  clear hg
  replace BX0 := bG BX0 HG
  replace BX1 := bG BX1 HG
  replace BX2 := bG BX2 HG
  replace BX3 := bG BX3 HG
  replace BX4 := bG BX4 HG
  replace BX5 := bG BX5 HG
  have lx2 := BX2.out.cells; have fx2 := BX2.out.free
  have lx3 := BX3.out.cells; have fx3 := BX3.out.free
  have r0 := Gr.refl vw3
  go_wp2
  refine hK.out _ _ ?_; clear hK K
  show Code.wp _ _ _ _ _
  clear lx2 fx2
  clear lx3 fx3
  clear r0
  refine forgetW (fun w2 => Bx w2 (w.heap.size + 1) 29 #[.int .u64 (lo (Int.natAbs (b))), .string (bg (Int.natAbs (b))), .bool (decide ((b) < 0))] ∧ Bx w2 (w.heap.size + 1 + 1) 29 #[.int .u64 (lo (Int.natAbs (u3))), .string (bg (Int.natAbs (u3))), .bool (decide ((u3) < 0))] ∧ Bx w2 (w.heap.size + 1 + 1 + 1) 29 #[.int .u64 (lo (Int.natAbs (m))), .string (bg (Int.natAbs (m))), .bool (decide ((m) < 0))] ∧ Below w.heap.size w w2) ⟨so3 (so3 (BX1.out) (by show w.heap.size + 1 ≠ w.heap.size + 1 + 1; omega)) (by show w.heap.size + 1 ≠ w.heap.size + 1 + 1 + 1; omega), (so3 ((((BX2.out).set 0 _).set 1 _).set 2 _) (by show w.heap.size + 1 + 1 ≠ w.heap.size + 1 + 1 + 1; omega)).eq (by simp only [rA, rB, rC]), ((((so3 (BX3.out) (by show w.heap.size + 1 + 1 + 1 ≠ w.heap.size + 1 + 1; omega)).set 0 _).set 1 _).set 2 _).eq (by simp only [rA, rB, rC]), sc3 (sc3 (HB.out.trans (HG.out.mono HB.out.size)) (by show w.heap.size ≤ w.heap.size + 1 + 1; omega)) (by show w.heap.size ≤ w.heap.size + 1 + 1 + 1; omega)⟩ ?_
  clear HB HG BX0 BX1 BX2 BX3 BX4 BX5
  rintro Wx4 ⟨bx1, bx2, bx3, HB⟩
  replace HB := Lib.hid HB
  clear hd1 hd2 hd3
  refine wp_seq ?_
  have hd4 : decide ((m) < 0) = true := decide_eq_true (by have h0 := H0.out; have hb := HBS.out; have hr := HRS.out; have hm := HMS.out; first | omega | (try simp only [← HZ3.out, ← HZ2.out, ← HZ1.out]) <;> first | rfl | omega | (simp; done) | grind)
  have lx3 := bx3.cells
  have BX1 := Lib.hid bx1
  have BX2 := Lib.hid bx2
  have BX3 := Lib.hid bx3
  clear bx1 bx2 bx3
  refine sK fun K hK => ?_
  refine wp_region_seqplan 2 [(true, 0), (true, 1)] (by rfl) (by simp) (fun T hT => ?_)
  iterate 2 (refine wpPlan_takeL (v := ?_) rfl (by rfl) (fun w' hw => ?_) ?_; rotate_left; go_simp; with_reducible rfl; simp only [Act.put, rA, rB, rC])
  refine wpPlan_nil (hT.out _ _ ?_); clear hT T
  intro vw4 hg
  simp only [puts, Act.put, rA, rB, rC, rD, rE, ↓reduceIte, Nat.reduceEqDiff]
  clear lx3
  have HG := Lib.hid (hg)
  clear hg
  replace BX1 := bG BX1 HG
  replace BX2 := bG BX2 HG
  replace BX3 := bG BX3 HG
  have r0 := Gr.refl vw4
  go_wp2
  refine hK.out _ _ ?_; clear hK K
  show Code.wp _ _ _ _ _
  clear r0
  refine forgetW (fun w2 => Bx w2 (w.heap.size + 1) 29 #[.int .u64 (lo (Int.natAbs (b))), .string (bg (Int.natAbs (b))), .bool (decide ((b) < 0))] ∧ Bx w2 (w.heap.size + 1 + 1) 29 #[.int .u64 (lo (Int.natAbs (u3))), .string (bg (Int.natAbs (u3))), .bool (decide ((u3) < 0))] ∧ Bx w2 (w.heap.size + 1 + 1 + 1) 29 #[.int .u64 (lo (Int.natAbs (m))), .string (bg (Int.natAbs (m))), .bool (decide ((m) < 0))] ∧ Below w.heap.size w w2) ⟨BX1.out, BX2.out, BX3.out, HB.out.trans (HG.out.mono HB.out.size)⟩ ?_
  clear HB HG BX1 BX2 BX3
  rintro Wx5 ⟨bx1, bx2, bx3, HB⟩
  replace HB := Lib.hid HB
  clear hd4
  refine wp_cond_true (by rfl) ?_
  obtain ⟨u5, HZ5⟩ : ∃ z, Hid ((if false then -((Int.natAbs (b) : Nat) : Int) else ((Int.natAbs (b) : Nat) : Int)) = z) := ⟨_, Lib.hid rfl⟩
  have su5 : wl (Int.natAbs (u5)) ≤ 100000000000 := by rw [← HZ5.out]; split <;> simp <;> omega
  have HZ6 : Hid ((m) + (u5) = r) := Lib.hid (by have h0 := H0.out; have hb := HBS.out; have hr := HRS.out; have hm := HMS.out; have e5 := HZ5.out; simp at e5; rw [← HR.out, ← (div_carry (a := a) (b := b) (by omega) (by omega) HN.out).1, HM.out]; omega)
  have su6 : wl (Int.natAbs (r)) ≤ 100000000001 := by have e := HZ6.out; first | omega | (rw [← e]; have := wl_iadd (m) (u5); omega)
  have lx1 := bx1.cells
  have lx3 := bx3.cells
  have BX1 := Lib.hid bx1
  have BX2 := Lib.hid bx2
  have BX3 := Lib.hid bx3
  clear bx1 bx2 bx3
  refine sK fun K hK => ?_
  refine wp_region_plan 6 [] [] (fun _ => 0) (fun _ => .cells #[] 0) [(true, 0), (true, 1), (true, 2), (true, 3), (true, 4), (true, 5)] (by kernel_rfl) (by kernel_rfl) (fun i hi => by cases hi) (fun i hi => by cases hi) (fun _ _ _ _ _ h => h) (fun T hT => ?_)
  iterate 4 (refine wpPlan_takeL (v := ?_) rfl (by rfl) (fun w' hw => ?_) ?_; rotate_left; go_simp; with_reducible rfl; simp only [Act.put, rA, rB, rC])
  refine wpPlan_callL rfl (by rfl) Tryd.call25 (fun w' hw => from_any false (Int.natAbs (b)) (u5) _ HZ5.out) (by rfl) ?_
  simp only [Act.put, rA, rB, rC]
  refine wpPlan_callL rfl (by rfl) Tryd.call19 (fun w' hw => ziadd (m) (u5) (r) _ HZ6.out (by first | omega | exact wlc (by decide)) (by first | omega | exact wlc (by decide))) (by rfl) ?_
  simp only [Act.put, rA, rB, rC]
  refine wpPlan_nil (hT.out _ _ ?_); clear hT T
  intro G vw5 hg hf
  simp only [puts, Act.put, rA, rB, rC, rD, rE, ↓reduceIte, Nat.reduceEqDiff]
  clear lx1 lx3
  have HG := Lib.hid (hg)
  clear hg
  replace BX1 := bG BX1 HG
  replace BX2 := bG BX2 HG
  replace BX3 := bG BX3 HG
  have lx3 := BX3.out.cells; have fx3 := BX3.out.free
  have r0 := Gr.refl vw5
  go_wp2
  refine hK.out _ _ ?_; clear hK K
  show Code.wp _ _ _ _ _
  clear lx3 fx3
  clear r0
  refine forgetW (fun w2 => Bx w2 (w.heap.size + 1) 29 #[.int .u64 (lo (Int.natAbs (b))), .string (bg (Int.natAbs (b))), .bool (decide ((b) < 0))] ∧ Bx w2 (w.heap.size + 1 + 1) 29 #[.int .u64 (lo (Int.natAbs (u3))), .string (bg (Int.natAbs (u3))), .bool (decide ((u3) < 0))] ∧ Bx w2 (w.heap.size + 1 + 1 + 1) 29 #[.int .u64 (lo (Int.natAbs (r))), .string (bg (Int.natAbs (r))), .bool (decide ((r) < 0))] ∧ Below w.heap.size w w2) ⟨so3 (BX1.out) (by show w.heap.size + 1 ≠ w.heap.size + 1 + 1 + 1; omega), so3 (BX2.out) (by show w.heap.size + 1 + 1 ≠ w.heap.size + 1 + 1 + 1; omega), ((((BX3.out).set 0 _).set 1 _).set 2 _).eq (by simp only [rA, rB, rC]), sc3 (HB.out.trans (HG.out.mono HB.out.size)) (by show w.heap.size ≤ w.heap.size + 1 + 1 + 1; omega)⟩ ?_
  clear HB HG BX1 BX2 BX3
  rintro Wx6 ⟨bx1, bx2, bx3, HB⟩
  replace HB := Lib.hid HB
  have su7 : wl (Int.natAbs (-1)) ≤ 1 := wl_le.2 (by decide +kernel)
  have HZ8 : Hid ((u3) - (-1) = q) := Lib.hid (by have h0 := H0.out; have hb := HBS.out; have hr := HRS.out; have hm := HMS.out; rw [← HQ.out, ← HZ3.out, ← HZ1.out]; exact dc (a := a) (b := b) true (by omega) (decide_eq_true (by omega)) (by omega) HN.out)
  have su8 : wl (Int.natAbs (q)) ≤ 100000000001 := by have e := HZ8.out; first | omega | (rw [← e]; have := wl_isub (u3) (-1); omega)
  have lx1 := bx1.cells
  have lx2 := bx2.cells
  have BX1 := Lib.hid bx1
  have BX2 := Lib.hid bx2
  have BX3 := Lib.hid bx3
  clear bx1 bx2 bx3
  refine wp_last_k fun K hK => ?_
  replace hK := Lib.hid hK
  refine wp_region_plan 5 [] [] (fun _ => 0) (fun _ => .cells #[] 0) [(true, 0), (true, 1), (true, 2), (true, 3), (true, 4)] (by kernel_rfl) (by kernel_rfl) (fun i hi => by cases hi) (fun i hi => by cases hi) (fun _ _ _ _ _ h => h) (fun T hT => ?_)
  iterate 2 (refine wpPlan_takeL (v := ?_) rfl (by rfl) (fun w' hw => ?_) ?_; rotate_left; go_simp; with_reducible rfl; simp only [Act.put, rA, rB, rC])
  refine wpPlan_callL rfl (by rfl) Tryd.call16 (fun w' hw => zisign (b) (-1) _ (by have e9 : (b) < (0 : Int) := (by have h0 := H0.out; have hb := HBS.out; have hr := HRS.out; have hm := HMS.out; first | omega | (try simp only [← HZ5.out, ← HZ3.out, ← HZ2.out, ← HZ1.out]) <;> first | rfl | omega | (simp; done) | grind); exact sgI_lt e9)) (by rfl) ?_
  simp only [Act.put, rA, rB, rC]
  refine wpPlan_callL rfl (by rfl) Tryd.call23 (fun w' hw => iof_any (-1) _ (by decide) (by decide)) (by rfl) ?_
  simp only [Act.put, rA, rB, rC]
  refine wpPlan_callL rfl (by rfl) Tryd.call21 (fun w' hw => zisub (u3) (-1) (q) _ HZ8.out (by first | omega | exact wlc (by decide)) (by first | omega | exact wlc (by decide))) (by rfl) ?_
  simp only [Act.put, rA, rB, rC]
  refine wpPlan_nil (hT.out _ _ ?_); clear hT T
  intro G vw6 hg hf
  simp only [puts, Act.put, rA, rB, rC, rD, rE, ↓reduceIte, Nat.reduceEqDiff]
  clear lx1 lx2
  have HG := Lib.hid (hg)
  clear hg
  replace BX1 := bG BX1 HG
  replace BX2 := bG BX2 HG
  replace BX3 := bG BX3 HG
  have lx2 := BX2.out.cells; have fx2 := BX2.out.free
  have r0 := Gr.refl vw6
  go_wp2
  refine hK.out _ _ ?_; clear hK K
  show Code.wp _ _ _ _ _
  clear lx2 fx2
  clear r0
  refine forgetW (fun w2 => Bx w2 (w.heap.size + 1 + 1) 29 #[.int .u64 (lo (Int.natAbs (q))), .string (bg (Int.natAbs (q))), .bool (decide ((q) < 0))] ∧ Bx w2 (w.heap.size + 1 + 1 + 1) 29 #[.int .u64 (lo (Int.natAbs (r))), .string (bg (Int.natAbs (r))), .bool (decide ((r) < 0))] ∧ Below w.heap.size w w2) ⟨((((BX2.out).set 0 _).set 1 _).set 2 _).eq (by simp only [rA, rB, rC]), so3 (BX3.out) (by show w.heap.size + 1 + 1 + 1 ≠ w.heap.size + 1 + 1; omega), sc3 (HB.out.trans (HG.out.mono HB.out.size)) (by show w.heap.size ≤ w.heap.size + 1 + 1; omega)⟩ ?_
  clear HB HG BX1 BX2 BX3
  rintro Wx7 ⟨bx2, bx3, HB⟩
  replace HB := Lib.hid HB
  have lx2 := bx2.cells; have fx2 := bx2.free
  have lx3 := bx3.cells; have fx3 := bx3.free
  have r0 := Gr.refl Wx7
  have BX2 := Lib.hid bx2; clear bx2
  have BX3 := Lib.hid bx3; clear bx3
  refine sK fun K hK => ?_
  go_region
  go_wp2
  refine hK.out _ _ ?_; clear hK K
  show Code.wp _ _ _ _ _
  clear r0 lx2 fx2 lx3 fx3
  refine forgetW (fun w2 => Bx w2 (w.heap.size + 1 + 1) 29 #[.int .u64 (lo (Int.natAbs (q))), .string (bg (Int.natAbs (q))), .bool (decide ((q) < 0))] ∧ Bx w2 (w.heap.size + 1 + 1 + 1) 29 #[.int .u64 (lo (Int.natAbs (r))), .string (bg (Int.natAbs (r))), .bool (decide ((r) < 0))] ∧ Below w.heap.size w w2) ⟨((so3 ((((BX2.out).set 0 _).set 1 _).set 2 _) (by show w.heap.size + 1 + 1 ≠ w.heap.size + 1 + 1 + 1; omega)).eq (by simp only [rA, rB, rC])).gr ((Below.refl _ _).drew), (((((so3 (BX3.out) (by show w.heap.size + 1 + 1 + 1 ≠ w.heap.size + 1 + 1; omega)).set 0 _).set 1 _).set 2 _).eq (by simp only [rA, rB, rC])).gr ((Below.refl _ _).drew), (sc3 (sc3 (HB.out) (by show w.heap.size ≤ w.heap.size + 1 + 1; omega)) (by show w.heap.size ≤ w.heap.size + 1 + 1 + 1; omega)).drew⟩ ?_
  clear HB BX2 BX3
  rintro Wx8 ⟨bx2, bx3, HB⟩
  replace HB := Lib.hid HB
  refine wp_ret ?_
  try simp only [Exit.then, Exit.inBlock]
  have lx2 := bx2.cells
  have lx3 := bx3.cells
  have r0 := Gr.refl Wx8
  exact bodyPost_ret (v := .tuple #[(.agg #[.int .u64 (lo (Int.natAbs (q))), .string (bg (Int.natAbs (q))), .bool (decide ((q) < 0))]), (.agg #[.int .u64 (lo (Int.natAbs (r))), .string (bg (Int.natAbs (r))), .bool (decide ((r) < 0))]), .bool true]) (by simp [results, Tryd.results28, go_sem, lx2 _ r0, lx3 _ r0]) rfl ⟨rfl, HB.out⟩

set_option maxRecDepth 20000 in
set_option maxHeartbeats 4000000 in
theorem div_no (a : Int) (w : World) (ha9 : wl a.natAbs ≤ 100000000000) :
    Calls Tryd.prog 28 #[(Value.agg #[.int .u64 (lo (Int.natAbs (a))), .string (bg (Int.natAbs (a))), .bool (decide ((a) < 0))]), (Value.agg #[.int .u64 (lo (Int.natAbs (0))), .string (bg (Int.natAbs (0))), .bool (decide ((0) < 0))])] w fun e w' => e = .returned (.tuple #[(.agg #[.int .u64 (lo (Int.natAbs (0))), .string (bg (Int.natAbs (0))), .bool (decide ((0) < 0))]), (.agg #[.int .u64 (lo (Int.natAbs (0))), .string (bg (Int.natAbs (0))), .bool (decide ((0) < 0))]), .bool false]) ∧ Below w.heap.size w w' := by
  go_enter Tryd.func28, Tryd.ntmps28
  refine sK fun K hK => ?_
  refine wp_region_lit ?_
  go_wp2
  refine hK.out _ _ ?_; clear hK K
  show Code.wp _ _ _ _ _
  refine forgetW (fun w2 => Bx w2 (w.heap.size) 29 #[.int .u64 (lo (Int.natAbs (a))), .string (bg (Int.natAbs (a))), .bool (decide ((a) < 0))] ∧ Bx w2 (w.heap.size + 1) 29 #[.int .u64 (lo (Int.natAbs (0))), .string (bg (Int.natAbs (0))), .bool (decide ((0) < 0))] ∧ Bx w2 (w.heap.size + 1 + 1) 29 #[.int .u64 0, .string ⟨#[]⟩, .bool false] ∧ Bx w2 (w.heap.size + 1 + 1 + 1) 29 #[.int .u64 0, .string ⟨#[]⟩, .bool false] ∧ Below w.heap.size w w2) ⟨(((Bx.at rfl).alloc _).alloc _).alloc _, ((Bx.at (by simp)).alloc _).alloc _, (Bx.at (by simp)).alloc _, Bx.at (by simp), ((((Below.refl _ _).alloc (Nat.le_refl _) _).alloc (by simp) _).alloc (by simp; omega) _).alloc (by simp; omega) _⟩ ?_
  rintro Wx ⟨bx0, bx1, bx2, bx3, HB⟩
  replace HB := Lib.hid HB
  have lx0 := bx0.cells
  have lx1 := bx1.cells
  have BX0 := Lib.hid bx0
  have BX1 := Lib.hid bx1
  have BX2 := Lib.hid bx2
  have BX3 := Lib.hid bx3
  clear bx0 bx1 bx2 bx3
  refine sK fun K hK => ?_
  refine wp_region_seqplan 11 [(true, 0), (true, 1), (true, 2), (true, 3), (true, 4), (true, 5), (true, 6), (true, 7), (true, 8), (true, 9), (true, 10)] (by rfl) (by simp) (fun T hT => ?_)
  iterate 6 (refine wpPlan_takeL (v := ?_) rfl (by rfl) (fun w' hw => ?_) ?_; rotate_left; go_simp; with_reducible rfl; simp only [Act.put, rA, rB, rC])
  refine wpPlan_callL rfl (by rfl) Tryd.call50 (fun w' hw => nzdivno (Int.natAbs (a)) (Int.natAbs (0)) _ (by first | rfl | omega | (simp; done) | grind) (by first | omega | exact wlc (by decide)) (by first | omega | exact wlc (by decide))) (by rfl) ?_
  simp only [Act.put, rA, rB, rC]
  iterate 4 (refine wpPlan_takeL (v := ?_) rfl (by rfl) (fun w' hw => ?_) ?_; rotate_left; go_simp; with_reducible rfl; simp only [Act.put, rA, rB, rC])
  refine wpPlan_nil (hT.out _ _ ?_); clear hT T
  intro vw1 hg
  simp only [puts, Act.put, rA, rB, rC, rD, rE, ↓reduceIte, Nat.reduceEqDiff]
  clear lx0 lx1
  have HG := Lib.hid (hg)
  clear hg
  replace BX0 := bG BX0 HG
  replace BX1 := bG BX1 HG
  replace BX2 := bG BX2 HG
  replace BX3 := bG BX3 HG
  have r0 := Gr.refl vw1
  go_wp2
  refine hK.out _ _ ?_; clear hK K
  show Code.wp _ _ _ _ _
  clear r0
  have hsz : w.heap.size ≤ vw1.heap.size := Nat.le_trans HB.out.size HG.out.size
  have mx0 : w.heap.size < vw1.heap.size := BX0.out.lt
  have mx1 : w.heap.size + 1 < vw1.heap.size := BX1.out.lt
  have mx2 : w.heap.size + 1 + 1 < vw1.heap.size := BX2.out.lt
  have mx3 : w.heap.size + 1 + 1 + 1 < vw1.heap.size := BX3.out.lt
  refine forgetW (fun w2 => Bx w2 (w.heap.size) 29 #[.int .u64 (lo (Int.natAbs (a))), .string (bg (Int.natAbs (a))), .bool (decide ((a) < 0))] ∧ Bx w2 (w.heap.size + 1) 29 #[.int .u64 (lo (Int.natAbs (0))), .string (bg (Int.natAbs (0))), .bool (decide ((0) < 0))] ∧ Bx w2 (w.heap.size + 1 + 1) 29 #[.int .u64 0, .string ⟨#[]⟩, .bool false] ∧ Bx w2 (w.heap.size + 1 + 1 + 1) 29 #[.int .u64 0, .string ⟨#[]⟩, .bool false] ∧ NX w2 (vw1.heap.size) (0) ∧ NX w2 (vw1.heap.size + 1) (0) ∧ Below w.heap.size w w2) ⟨((BX0.out).alloc _).alloc _, ((BX1.out).alloc _).alloc _, ((BX2.out).alloc _).alloc _, ((BX3.out).alloc _).alloc _, ((Bx.at (by simp) : Bx _ (vw1.heap.size) _ _)).alloc _, (Bx.at (by simp) : Bx _ (vw1.heap.size + 1) _ _), ((HB.out.trans (HG.out.mono HB.out.size)).alloc (by first | omega | (simp; omega)) _).alloc (by first | omega | (simp; omega)) _⟩ ?_
  clear HB HG BX0 BX1 BX2 BX3
  rintro Wx1 ⟨bx0, bx1, bx2, bx3, bx4, bx5, HB⟩
  replace HB := Lib.hid HB
  have qx4_5 : vw1.heap.size < vw1.heap.size + 1 := by omega
  have yx5 : w.heap.size ≤ vw1.heap.size + 1 := by omega
  have qx0_5 : w.heap.size < vw1.heap.size + 1 := by omega
  have qx1_5 : w.heap.size + 1 < vw1.heap.size + 1 := by omega
  have qx2_5 : w.heap.size + 1 + 1 < vw1.heap.size + 1 := by omega
  have qx3_5 : w.heap.size + 1 + 1 + 1 < vw1.heap.size + 1 := by omega
  generalize hx5 : vw1.heap.size + 1 = gx5 at *
  clear hx5
  have yx4 : w.heap.size ≤ vw1.heap.size := by omega
  have qx0_4 : w.heap.size < vw1.heap.size := by omega
  have qx1_4 : w.heap.size + 1 < vw1.heap.size := by omega
  have qx2_4 : w.heap.size + 1 + 1 < vw1.heap.size := by omega
  have qx3_4 : w.heap.size + 1 + 1 + 1 < vw1.heap.size := by omega
  generalize hx4 : vw1.heap.size = gx4 at *
  clear hx4
  clear hsz mx0 mx1 mx2 mx3
  refine wp_seq ?_
  have BX0 := Lib.hid bx0
  have BX1 := Lib.hid bx1
  have BX2 := Lib.hid bx2
  have BX3 := Lib.hid bx3
  have BX4 := Lib.hid bx4
  have BX5 := Lib.hid bx5
  clear bx0 bx1 bx2 bx3 bx4 bx5
  refine sK fun K hK => ?_
  refine wp_region_seqplan 2 [(true, 0), (true, 1)] (by rfl) (by simp) (fun T hT => ?_)
  iterate 2 (refine wpPlan_takeL (v := ?_) rfl (by rfl) (fun w' hw => ?_) ?_; rotate_left; go_simp; with_reducible rfl; simp only [Act.put, rA, rB, rC])
  refine wpPlan_nil (hT.out _ _ ?_); clear hT T
  intro vw2 hg
  simp only [puts, Act.put, rA, rB, rC, rD, rE, ↓reduceIte, Nat.reduceEqDiff]
  have HG := Lib.hid (hg)
  clear hg
  replace BX0 := bG BX0 HG
  replace BX1 := bG BX1 HG
  replace BX2 := bG BX2 HG
  replace BX3 := bG BX3 HG
  replace BX4 := bG BX4 HG
  replace BX5 := bG BX5 HG
  have r0 := Gr.refl vw2
  go_wp2
  refine hK.out _ _ ?_; clear hK K
  show Code.wp _ _ _ _ _
  clear r0
  refine forgetW (fun w2 => Bx w2 (w.heap.size) 29 #[.int .u64 (lo (Int.natAbs (a))), .string (bg (Int.natAbs (a))), .bool (decide ((a) < 0))] ∧ Bx w2 (w.heap.size + 1) 29 #[.int .u64 (lo (Int.natAbs (0))), .string (bg (Int.natAbs (0))), .bool (decide ((0) < 0))] ∧ Bx w2 (w.heap.size + 1 + 1) 29 #[.int .u64 0, .string ⟨#[]⟩, .bool false] ∧ Bx w2 (w.heap.size + 1 + 1 + 1) 29 #[.int .u64 0, .string ⟨#[]⟩, .bool false] ∧ NX w2 gx4 (0) ∧ NX w2 gx5 (0) ∧ Below w.heap.size w w2) ⟨BX0.out, BX1.out, BX2.out, BX3.out, BX4.out, BX5.out, HB.out.trans (HG.out.mono HB.out.size)⟩ ?_
  clear HB HG BX0 BX1 BX2 BX3 BX4 BX5
  rintro Wx2 ⟨bx0, bx1, bx2, bx3, bx4, bx5, HB⟩
  replace HB := Lib.hid HB
  refine wp_cond_true (by rfl) ?_
  have BX0 := Lib.hid bx0
  have BX1 := Lib.hid bx1
  have BX2 := Lib.hid bx2
  have BX3 := Lib.hid bx3
  have BX4 := Lib.hid bx4
  have BX5 := Lib.hid bx5
  clear bx0 bx1 bx2 bx3 bx4 bx5
  refine sK fun K hK => ?_
  refine wp_region_seqplan 2 [(true, 0), (true, 1)] (by rfl) (by simp) (fun T hT => ?_)
  iterate 2 (refine wpPlan_takeL (v := ?_) rfl (by rfl) (fun w' hw => ?_) ?_; rotate_left; go_simp; with_reducible rfl; simp only [Act.put, rA, rB, rC])
  refine wpPlan_nil (hT.out _ _ ?_); clear hT T
  intro vw3 hg
  simp only [puts, Act.put, rA, rB, rC, rD, rE, ↓reduceIte, Nat.reduceEqDiff]
  have HG := Lib.hid (hg)
  clear hg
  replace BX0 := bG BX0 HG
  replace BX1 := bG BX1 HG
  replace BX2 := bG BX2 HG
  replace BX3 := bG BX3 HG
  replace BX4 := bG BX4 HG
  replace BX5 := bG BX5 HG
  have lx2 := BX2.out.cells; have fx2 := BX2.out.free
  have lx3 := BX3.out.cells; have fx3 := BX3.out.free
  have r0 := Gr.refl vw3
  go_wp2
  refine hK.out _ _ ?_; clear hK K
  show Code.wp _ _ _ _ _
  clear lx2 fx2
  clear lx3 fx3
  clear r0
  refine forgetW (fun w2 => Bx w2 (w.heap.size) 29 #[.int .u64 (lo (Int.natAbs (a))), .string (bg (Int.natAbs (a))), .bool (decide ((a) < 0))] ∧ Bx w2 (w.heap.size + 1) 29 #[.int .u64 (lo (Int.natAbs (0))), .string (bg (Int.natAbs (0))), .bool (decide ((0) < 0))] ∧ Bx w2 (w.heap.size + 1 + 1) 29 #[.int .u64 0, .string ⟨#[]⟩, .bool false] ∧ Bx w2 (w.heap.size + 1 + 1 + 1) 29 #[.int .u64 0, .string ⟨#[]⟩, .bool false] ∧ NX w2 gx4 (0) ∧ NX w2 gx5 (0) ∧ Below w.heap.size w w2) ⟨so3 (so3 (BX0.out) (by show w.heap.size ≠ w.heap.size + 1 + 1; omega)) (by show w.heap.size ≠ w.heap.size + 1 + 1 + 1; omega), so3 (so3 (BX1.out) (by show w.heap.size + 1 ≠ w.heap.size + 1 + 1; omega)) (by show w.heap.size + 1 ≠ w.heap.size + 1 + 1 + 1; omega), (so3 ((((BX2.out).set 0 _).set 1 _).set 2 _) (by show w.heap.size + 1 + 1 ≠ w.heap.size + 1 + 1 + 1; omega)).eq (by simp only [rA, rB, rC]), ((((so3 (BX3.out) (by show w.heap.size + 1 + 1 + 1 ≠ w.heap.size + 1 + 1; omega)).set 0 _).set 1 _).set 2 _).eq (by simp only [rA, rB, rC]), so3 (so3 (BX4.out) (by show gx4 ≠ w.heap.size + 1 + 1; omega)) (by show gx4 ≠ w.heap.size + 1 + 1 + 1; omega), so3 (so3 (BX5.out) (by show gx5 ≠ w.heap.size + 1 + 1; omega)) (by show gx5 ≠ w.heap.size + 1 + 1 + 1; omega), sc3 (sc3 (HB.out.trans (HG.out.mono HB.out.size)) (by show w.heap.size ≤ w.heap.size + 1 + 1; omega)) (by show w.heap.size ≤ w.heap.size + 1 + 1 + 1; omega)⟩ ?_
  clear HB HG BX0 BX1 BX2 BX3 BX4 BX5
  rintro Wx3 ⟨bx0, bx1, bx2, bx3, bx4, bx5, HB⟩
  replace HB := Lib.hid HB
  refine wp_ret ?_
  try simp only [Exit.then, Exit.inBlock]
  have lx2 := bx2.cells
  have lx3 := bx3.cells
  have r0 := Gr.refl Wx3
  exact bodyPost_ret (v := .tuple #[(.agg #[.int .u64 0, .string ⟨#[]⟩, .bool false]), (.agg #[.int .u64 0, .string ⟨#[]⟩, .bool false]), .bool false]) (by simp [results, Tryd.results28, go_sem, lx2 _ r0, lx3 _ r0]) rfl ⟨rfl, HB.out⟩

theorem zidiv (a b q r : Int) (w : World) (hq : a / b = q) (hr : a % b = r) (h0 : b ≠ 0) (ha : wl a.natAbs ≤ 100000000000) (hb : wl b.natAbs ≤ 100000000000) :
    Calls Tryd.prog 28 #[(Value.agg #[.int .u64 (lo (Int.natAbs (a))), .string (bg (Int.natAbs (a))), .bool (decide ((a) < 0))]), (Value.agg #[.int .u64 (lo (Int.natAbs (b))), .string (bg (Int.natAbs (b))), .bool (decide ((b) < 0))])] w fun e w' => e = .returned (.tuple #[(Value.agg #[.int .u64 (lo (Int.natAbs (q))), .string (bg (Int.natAbs (q))), .bool (decide ((q) < 0))]), (Value.agg #[.int .u64 (lo (Int.natAbs (r))), .string (bg (Int.natAbs (r))), .bool (decide ((r) < 0))]), .bool true]) ∧ Below w.heap.size w w' := by
  have hr0 : 0 ≤ r := by rw [← hr]; exact (mod_abs a h0).2
  by_cases h1 : 0 ≤ a
  · rcases Int.lt_or_gt_of_ne h0 with h2 | h2
    · exact div_pn a b q r w (Lib.hid hq) (Lib.hid hr) (Lib.hid h2) (Lib.hid h1) (Lib.hid hr0) ha hb
    · exact div_pp a b q r w (Lib.hid hq) (Lib.hid hr) (Lib.hid h2) (Lib.hid h1) (Lib.hid hr0) ha hb
  · by_cases hm : a.natAbs % b.natAbs = 0
    · rcases Int.lt_or_gt_of_ne h0 with h2 | h2
      · exact div_zn a b q r w (Lib.hid hq) (Lib.hid hr) (Lib.hid h2) (Lib.hid (by omega)) (Lib.hid hm) (Lib.hid hr0) ha hb
      · exact div_zp a b q r w (Lib.hid hq) (Lib.hid hr) (Lib.hid h2) (Lib.hid (by omega)) (Lib.hid hm) (Lib.hid hr0) ha hb
    · rcases Int.lt_or_gt_of_ne h0 with h2 | h2
      · exact div_nn a b q r w (Lib.hid hq) (Lib.hid hr) (Lib.hid h2) (Lib.hid (by omega)) _ (Lib.hid rfl) (Lib.hid (by omega)) (Lib.hid hm) (Lib.hid hr0) ha hb
      · exact div_np a b q r w (Lib.hid hq) (Lib.hid hr) (Lib.hid h2) (Lib.hid (by omega)) _ (Lib.hid rfl) (Lib.hid (by omega)) (Lib.hid hm) (Lib.hid hr0) ha hb
theorem zidivno (a b : Int) (w : World) (h0 : b = 0) (ha : wl a.natAbs ≤ 100000000000) (hb : wl b.natAbs ≤ 100000000000) :
    Calls Tryd.prog 28 #[(Value.agg #[.int .u64 (lo (Int.natAbs (a))), .string (bg (Int.natAbs (a))), .bool (decide ((a) < 0))]), (Value.agg #[.int .u64 (lo (Int.natAbs (b))), .string (bg (Int.natAbs (b))), .bool (decide ((b) < 0))])] w fun e w' => e = .returned (.tuple #[(Value.agg #[.int .u64 (lo (Int.natAbs (0))), .string (bg (Int.natAbs (0))), .bool (decide ((0) < 0))]), (Value.agg #[.int .u64 (lo (Int.natAbs (0))), .string (bg (Int.natAbs (0))), .bool (decide ((0) < 0))]), .bool false]) ∧ Below w.heap.size w w' := by
  subst h0; exact div_no a w ha

end Go.Proofs.YtflhpdlecpehkaaDoor
