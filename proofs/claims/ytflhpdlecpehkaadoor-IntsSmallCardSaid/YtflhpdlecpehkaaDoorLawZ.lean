
/- gussetlaw02: Of, Ref, same, is, few. -/
import Derived.Test.YtflhpdlecpehkaaDoorSh
import Derived.Test.YtflhpdlecpehkaaDoorIntGcd
import Derived.Test.YtflhpdlecpehkaaDoorIntParse2
import Derived.Test.YtflhpdlecpehkaaDoorRefParse2
import Derived.Test.YtflhpdlecpehkaaDoorZrG
import Derived.Test.YtflhpdlecpehkaaDoorPJ
namespace Go.Proofs.YtflhpdlecpehkaaDoor
open Go.RowKit
set_option linter.unusedSimpArgs false
set_option linter.unusedVariables false
attribute [local go_sem ↓] Go.wp_at_zero Go.wp_at_succ
attribute [local go_sem ↓] eq_nat eq_nat_zero eq_int
set_option maxRecDepth 20000 in
set_option maxHeartbeats 4000000 in
theorem zlof (bx : Bool) (kx : Nat) (fx : Nat → Nat) (mx : Nat) (a : Int) (ao_x : Option Addr) (c_x : Nat) (w : World) (HWx : Hid (Wa w (.slice ao_x kx c_x) kx fx)) (HFx : Hid (∀ i, i < kx → fx i < 4294967296)) (HVx : Hid (vl fx kx = mx)) (HAx : Hid ((if bx then -((mx : Nat) : Int) else ((mx : Nat) : Int)) = a)) (hkx : kx ≤ 100) (hmx : wl mx ≤ 100) :
    Calls Tryd.prog 15 #[(Value.agg #[.bool (bx), (.slice ao_x kx c_x)])] w fun e w' => e = .returned (.agg #[.int .u64 (lo (Int.natAbs (a))), .string (bg (Int.natAbs (a))), .bool (decide ((a) < 0))]) ∧ Below w.heap.size w w' := by
  go_enter Tryd.func15, Tryd.ntmps15
  refine sK fun K hK => ?_
  refine wp_region_lit ?_
  go_wp2
  refine hK.out _ _ ?_; clear hK K
  show Code.wp _ _ _ _ _
  refine forgetW (fun w2 => Bx w2 (w.heap.size) 45 #[.bool (bx), (.slice ao_x kx c_x)] ∧ Bx w2 (w.heap.size + 1) 29 #[.int .u64 0, .string ⟨#[]⟩, .bool false] ∧ Below w.heap.size w w2) ⟨(Bx.at rfl).alloc _, Bx.at (by simp), ((Below.refl _ _).alloc (Nat.le_refl _) _).alloc (by simp) _⟩ ?_
  rintro Wx ⟨bx0, bx1, HB⟩
  replace HB := Lib.hid HB
  have HZ1 : Hid ((if bx then -((mx : Nat) : Int) else ((mx : Nat) : Int)) = a) := Lib.hid (HAx.out)
  have su1 : wl (Int.natAbs (a)) ≤ 100 := by have e := HZ1.out; first | omega | (rw [← e]; split <;> simp <;> omega)
  have lx0 := bx0.cells
  have BX0 := Lib.hid bx0
  have BX1 := Lib.hid bx1
  clear bx0 bx1
  refine sK fun K hK => ?_
  refine wp_region_plan 6 [] [] (fun _ => 0) (fun _ => .cells #[] 0) [(true, 0), (true, 1), (true, 2), (true, 3), (true, 4), (true, 5)] (by kernel_rfl) (by kernel_rfl) (fun i hi => by cases hi) (fun i hi => by cases hi) (fun _ _ _ _ _ h => h) (fun T hT => ?_)
  iterate 4 (refine wpPlan_takeL (v := ?_) rfl (by rfl) (fun w' hw => ?_) ?_; rotate_left; go_simp; with_reducible rfl; simp only [Act.put, rA, rB, rC])
  refine wpPlan_callL rfl (by rfl) Tryd.call35 (fun w' hw => zmade _ kx fx mx w _ HVx.out (by omega) HWx.out (Gr.trans HB.out hw) HFx.out) (by rfl) ?_
  simp only [Act.put, rA, rB, rC]
  refine wpPlan_callL rfl (by rfl) Tryd.call25 (fun w' hw => from_any (bx) (mx) (a) _ HZ1.out) (by rfl) ?_
  simp only [Act.put, rA, rB, rC]
  refine wpPlan_nil (hT.out _ _ ?_); clear hT T
  intro G vw1 hg hf
  simp only [puts, Act.put, rA, rB, rC, rD, rE, ↓reduceIte, Nat.reduceEqDiff]
  clear lx0
  have HG := Lib.hid (hg)
  clear hg
  replace BX0 := bG BX0 HG
  replace BX1 := bG BX1 HG
  have lx1 := BX1.out.cells; have fx1 := BX1.out.free
  have r0 := Gr.refl vw1
  go_wp2
  refine hK.out _ _ ?_; clear hK K
  show Code.wp _ _ _ _ _
  clear lx1 fx1
  clear r0
  refine forgetW (fun w2 => Bx w2 (w.heap.size + 1) 29 #[.int .u64 (lo (Int.natAbs (a))), .string (bg (Int.natAbs (a))), .bool (decide ((a) < 0))] ∧ Below w.heap.size w w2) ⟨((((BX1.out).set 0 _).set 1 _).set 2 _).eq (by simp only [rA, rB, rC]), sc3 (HB.out.trans (HG.out.mono HB.out.size)) (by show w.heap.size ≤ w.heap.size + 1; omega)⟩ ?_
  clear HB HG BX0 BX1
  rintro Wx1 ⟨bx1, HB⟩
  replace HB := Lib.hid HB
  refine wp_ret ?_
  try simp only [Exit.then, Exit.inBlock]
  have lx1 := bx1.cells
  have r0 := Gr.refl Wx1
  exact bodyPost_ret (v := .agg #[.int .u64 (lo (Int.natAbs (a))), .string (bg (Int.natAbs (a))), .bool (decide ((a) < 0))]) (by simp [results, Tryd.results15, go_sem, lx1 _ r0]) rfl ⟨rfl, HB.out⟩

set_option maxRecDepth 20000 in
set_option maxHeartbeats 4000000 in
theorem is_any (a n : Int) (b : Bool) (w : World) (HAB : Hid (decide (a = n) = b)) (h1 : -9223372036854775808 ≤ n) (h2 : n ≤ 9223372036854775807) :
    Calls Tryd.prog 13 #[(Value.agg #[.int .u64 (lo (Int.natAbs (a))), .string (bg (Int.natAbs (a))), .bool (decide ((a) < 0))]), .int .i64 (n)] w fun e w' => e = .returned ((.bool b)) ∧ Below w.heap.size w w' := by
  go_enter Tryd.func13, Tryd.ntmps13
  refine sK fun K hK => ?_
  refine wp_region_lit ?_
  go_wp2
  refine hK.out _ _ ?_; clear hK K
  show Code.wp _ _ _ _ _
  refine forgetW (fun w2 => Bx w2 (w.heap.size) 29 #[.int .u64 (lo (Int.natAbs (a))), .string (bg (Int.natAbs (a))), .bool (decide ((a) < 0))] ∧ Below w.heap.size w w2) ⟨Bx.at rfl, (Below.refl _ _).alloc (Nat.le_refl _) _⟩ ?_
  rintro Wx ⟨bx0, HB⟩
  replace HB := Lib.hid HB
  have su1 : wl (Int.natAbs (n)) ≤ 2 := wl_i64 (by first | omega | exact wlc (by decide)) (by first | omega | exact wlc (by decide))
  have hdb : decide (a = n) = b := HAB.out
  have lx0 := bx0.cells
  have BX0 := Lib.hid bx0
  clear bx0
  refine sK fun K hK => ?_
  refine wp_region_plan 4 [] [] (fun _ => 0) (fun _ => .cells #[] 0) [(true, 0), (true, 1), (true, 2), (true, 3)] (by kernel_rfl) (by kernel_rfl) (fun i hi => by cases hi) (fun i hi => by cases hi) (fun _ _ _ _ _ h => h) (fun T hT => ?_)
  iterate 2 (refine wpPlan_takeL (v := ?_) rfl (by rfl) (fun w' hw => ?_) ?_; rotate_left; go_simp; with_reducible rfl; simp only [Act.put, rA, rB, rC])
  refine wpPlan_callL rfl (by rfl) Tryd.call23 (fun w' hw => iof_any (n) _ (by first | omega | exact wlc (by decide)) (by first | omega | exact wlc (by decide))) (by rfl) ?_
  simp only [Act.put, rA, rB, rC]
  refine wpPlan_takeL (v := ?_) rfl (by rfl) (fun w' hw => ?_) ?_; rotate_left; go_simp; with_reducible rfl; simp only [Act.put, rA, rB, rC]
  refine wpPlan_nil (hT.out _ _ ?_); clear hT T
  intro G vw1 hg hf
  simp only [puts, Act.put, rA, rB, rC, rD, rE, ↓reduceIte, Nat.reduceEqDiff]
  clear lx0
  have HG := Lib.hid (hg)
  clear hg
  replace BX0 := bG BX0 HG
  have r0 := Gr.refl vw1
  go_wp2
  refine hK.out _ _ ?_; clear hK K
  show Code.wp _ _ _ _ _
  clear r0
  refine forgetW (fun w2 => Below w.heap.size w w2) (HB.out.trans (HG.out.mono HB.out.size)) ?_
  clear HB HG BX0
  rintro Wx1 HB
  replace HB := Lib.hid HB
  clear hdb
  refine wp_ret ?_
  try simp only [Exit.then, Exit.inBlock]
  have r0 := Gr.refl Wx1
  exact bodyPost_ret (v := .bool (b)) (by simp [results, Tryd.results13, go_sem]) rfl ⟨rfl, HB.out⟩

set_option maxRecDepth 20000 in
set_option maxHeartbeats 2000000 in
theorem few1_no0 (b0 : Bool) (ao0 : Option Addr) (k0 c0 : Nat) (C : Int) (g : Nat) (w : World) (bx9 : Bx w g 45 #[.bool (b0), (.slice ao0 k0 c0)]) (h0 : C < (k0 : Int)) :
    Calls Tryd.prog 14 #[.int .i64 C, .slice (some ⟨g, 0, none⟩) 1 1] w fun e w' => e = .returned (.bool false) ∧ Below w.heap.size w w' := by
  have hw1 : IntKind.i64.wrap 1 = 1 := by decide
  have hw2 : IntKind.i64.wrap 2 = 2 := by decide
  have hw3 : IntKind.i64.wrap 3 = 3 := by decide
  go_enter Tryd.func14, Tryd.ntmps14
  have e9 := bx9.lt
  refine sK fun K hK => ?_
  refine wp_region_lit ?_
  go_wp2
  refine hK.out _ _ ?_; clear hK K
  show Code.wp _ _ _ _ _
  refine forgetW (fun w2 => Bx w2 g 45 #[.bool (b0), (.slice ao0 k0 c0)] ∧ Below w.heap.size w w2) ⟨bx9, Below.refl _ _⟩ ?_
  clear bx9
  rintro Wx ⟨bx9, HB⟩
  replace HB := Lib.hid HB
  refine wp_seq ?_
  have BX9 := Lib.hid bx9
  clear bx9
  refine sK fun K hK => ?_
  refine wp_region_seqplan 1 [(true, 0)] (by rfl) (by simp) (fun T hT => ?_)
  refine wpPlan_takeL (v := ?_) rfl (by rfl) (fun w' hw => ?_) ?_; rotate_left; go_simp; with_reducible rfl; simp only [Act.put, rA, rB, rC]
  refine wpPlan_nil (hT.out _ _ ?_); clear hT T
  intro vw1 hg
  simp only [puts, Act.put, rA, rB, rC, rD, rE, ↓reduceIte, Nat.reduceEqDiff]
  have HG := Lib.hid (hg)
  clear hg
  replace BX9 := bG BX9 HG
  have r0 := Gr.refl vw1
  go_wp2
  refine hK.out _ _ ?_; clear hK K
  show Code.wp _ _ _ _ _
  clear r0
  refine forgetW (fun w2 => Bx w2 g 45 #[.bool (b0), (.slice ao0 k0 c0)] ∧ Below w.heap.size w w2) ⟨BX9.out, HB.out.trans (HG.out.mono HB.out.size)⟩ ?_
  clear HB HG BX9
  rintro Wx1 ⟨bx9, HB⟩
  replace HB := Lib.hid HB
  refine wp_block ?_
  refine wp_loop_rounds 12 ?_
  rw [rounds_succ]
  refine wp_seq ?_
  have BX9 := Lib.hid bx9
  clear bx9
  refine sK fun K hK => ?_
  refine wp_region_seqplan 4 [(true, 0), (true, 1), (true, 2), (true, 3)] (by rfl) (by simp) (fun T hT => ?_)
  iterate 4 (refine wpPlan_takeL (v := ?_) rfl (by rfl) (fun w' hw => ?_) ?_; rotate_left; go_simp; with_reducible rfl; simp only [Act.put, rA, rB, rC])
  refine wpPlan_nil (hT.out _ _ ?_); clear hT T
  intro vw2 hg
  simp only [puts, Act.put, rA, rB, rC, rD, rE, ↓reduceIte, Nat.reduceEqDiff]
  have HG := Lib.hid (hg)
  clear hg
  replace BX9 := bG BX9 HG
  have r0 := Gr.refl vw2
  go_wp2
  refine hK.out _ _ ?_; clear hK K
  show Code.wp _ _ _ _ _
  clear r0
  refine forgetW (fun w2 => Bx w2 g 45 #[.bool (b0), (.slice ao0 k0 c0)] ∧ Below w.heap.size w w2) ⟨BX9.out, HB.out.trans (HG.out.mono HB.out.size)⟩ ?_
  clear HB HG BX9
  rintro Wx2 ⟨bx9, HB⟩
  replace HB := Lib.hid HB
  refine wp_cond_true (by rfl) ?_
  refine wp_skip ?_
  show Code.wp _ _ _ _ _
  refine wp_seq ?_
  refine wp_block ?_
  have hd1 : C < ((k0 : Int)) := by omega
  have lx9 := bx9.cells
  have BX9 := Lib.hid bx9
  clear bx9
  refine sK fun K hK => ?_
  refine wp_region_seqplan 8 [(true, 0), (true, 1), (true, 2), (true, 3), (true, 4), (true, 5), (true, 6), (true, 7)] (by rfl) (by simp) (fun T hT => ?_)
  iterate 8 (refine wpPlan_takeL (v := ?_) rfl (by rfl) (fun w' hw => ?_) ?_; rotate_left; go_simp; with_reducible rfl; simp only [Act.put, rA, rB, rC])
  refine wpPlan_nil (hT.out _ _ ?_); clear hT T
  intro vw3 hg
  simp only [puts, Act.put, rA, rB, rC, rD, rE, ↓reduceIte, Nat.reduceEqDiff]
  clear lx9
  have HG := Lib.hid (hg)
  clear hg
  replace BX9 := bG BX9 HG
  have r0 := Gr.refl vw3
  go_wp2
  refine hK.out _ _ ?_; clear hK K
  show Code.wp _ _ _ _ _
  clear r0
  refine forgetW (fun w2 => Bx w2 g 45 #[.bool (b0), (.slice ao0 k0 c0)] ∧ Below w.heap.size w w2) ⟨BX9.out, HB.out.trans (HG.out.mono HB.out.size)⟩ ?_
  clear HB HG BX9
  rintro Wx4 ⟨bx9, HB⟩
  replace HB := Lib.hid HB
  clear hd1
  refine wp_cond_true (by rfl) ?_
  have BX9 := Lib.hid bx9
  clear bx9
  refine sK fun K hK => ?_
  refine wp_region_seqplan 1 [(true, 0)] (by rfl) (by simp) (fun T hT => ?_)
  refine wpPlan_takeL (v := ?_) rfl (by rfl) (fun w' hw => ?_) ?_; rotate_left; go_simp; with_reducible rfl; simp only [Act.put, rA, rB, rC]
  refine wpPlan_nil (hT.out _ _ ?_); clear hT T
  intro vw4 hg
  simp only [puts, Act.put, rA, rB, rC, rD, rE, ↓reduceIte, Nat.reduceEqDiff]
  have HG := Lib.hid (hg)
  clear hg
  replace BX9 := bG BX9 HG
  have r0 := Gr.refl vw4
  go_wp2
  refine hK.out _ _ ?_; clear hK K
  show Code.wp _ _ _ _ _
  clear r0
  refine forgetW (fun w2 => Bx w2 g 45 #[.bool (b0), (.slice ao0 k0 c0)] ∧ Below w.heap.size w w2) ⟨BX9.out, HB.out.trans (HG.out.mono HB.out.size)⟩ ?_
  clear HB HG BX9
  rintro Wx5 ⟨bx9, HB⟩
  replace HB := Lib.hid HB
  refine wp_ret ?_
  try simp only [Exit.then, Exit.inBlock]
  have r0 := Gr.refl Wx5
  exact bodyPost_ret (v := .bool false) (by simp [results, Tryd.results14, go_sem]) rfl ⟨rfl, HB.out⟩

set_option maxRecDepth 20000 in
set_option maxHeartbeats 2000000 in
theorem few1_ok (b0 : Bool) (ao0 : Option Addr) (k0 c0 : Nat) (C : Int) (g : Nat) (w : World) (bx9 : Bx w g 45 #[.bool (b0), (.slice ao0 k0 c0)]) (h0 : (k0 : Int) ≤ C) :
    Calls Tryd.prog 14 #[.int .i64 C, .slice (some ⟨g, 0, none⟩) 1 1] w fun e w' => e = .returned (.bool true) ∧ Below w.heap.size w w' := by
  have hw1 : IntKind.i64.wrap 1 = 1 := by decide
  have hw2 : IntKind.i64.wrap 2 = 2 := by decide
  have hw3 : IntKind.i64.wrap 3 = 3 := by decide
  go_enter Tryd.func14, Tryd.ntmps14
  have e9 := bx9.lt
  refine sK fun K hK => ?_
  refine wp_region_lit ?_
  go_wp2
  refine hK.out _ _ ?_; clear hK K
  show Code.wp _ _ _ _ _
  refine forgetW (fun w2 => Bx w2 g 45 #[.bool (b0), (.slice ao0 k0 c0)] ∧ Below w.heap.size w w2) ⟨bx9, Below.refl _ _⟩ ?_
  clear bx9
  rintro Wx ⟨bx9, HB⟩
  replace HB := Lib.hid HB
  refine wp_seq ?_
  have BX9 := Lib.hid bx9
  clear bx9
  refine sK fun K hK => ?_
  refine wp_region_seqplan 1 [(true, 0)] (by rfl) (by simp) (fun T hT => ?_)
  refine wpPlan_takeL (v := ?_) rfl (by rfl) (fun w' hw => ?_) ?_; rotate_left; go_simp; with_reducible rfl; simp only [Act.put, rA, rB, rC]
  refine wpPlan_nil (hT.out _ _ ?_); clear hT T
  intro vw1 hg
  simp only [puts, Act.put, rA, rB, rC, rD, rE, ↓reduceIte, Nat.reduceEqDiff]
  have HG := Lib.hid (hg)
  clear hg
  replace BX9 := bG BX9 HG
  have r0 := Gr.refl vw1
  go_wp2
  refine hK.out _ _ ?_; clear hK K
  show Code.wp _ _ _ _ _
  clear r0
  refine forgetW (fun w2 => Bx w2 g 45 #[.bool (b0), (.slice ao0 k0 c0)] ∧ Below w.heap.size w w2) ⟨BX9.out, HB.out.trans (HG.out.mono HB.out.size)⟩ ?_
  clear HB HG BX9
  rintro Wx1 ⟨bx9, HB⟩
  replace HB := Lib.hid HB
  refine wp_block ?_
  refine wp_loop_rounds 12 ?_
  rw [rounds_succ]
  refine wp_seq ?_
  have BX9 := Lib.hid bx9
  clear bx9
  refine sK fun K hK => ?_
  refine wp_region_seqplan 4 [(true, 0), (true, 1), (true, 2), (true, 3)] (by rfl) (by simp) (fun T hT => ?_)
  iterate 4 (refine wpPlan_takeL (v := ?_) rfl (by rfl) (fun w' hw => ?_) ?_; rotate_left; go_simp; with_reducible rfl; simp only [Act.put, rA, rB, rC])
  refine wpPlan_nil (hT.out _ _ ?_); clear hT T
  intro vw2 hg
  simp only [puts, Act.put, rA, rB, rC, rD, rE, ↓reduceIte, Nat.reduceEqDiff]
  have HG := Lib.hid (hg)
  clear hg
  replace BX9 := bG BX9 HG
  have r0 := Gr.refl vw2
  go_wp2
  refine hK.out _ _ ?_; clear hK K
  show Code.wp _ _ _ _ _
  clear r0
  refine forgetW (fun w2 => Bx w2 g 45 #[.bool (b0), (.slice ao0 k0 c0)] ∧ Below w.heap.size w w2) ⟨BX9.out, HB.out.trans (HG.out.mono HB.out.size)⟩ ?_
  clear HB HG BX9
  rintro Wx2 ⟨bx9, HB⟩
  replace HB := Lib.hid HB
  refine wp_cond_true (by rfl) ?_
  refine wp_skip ?_
  show Code.wp _ _ _ _ _
  refine wp_seq ?_
  refine wp_block ?_
  have hd1 : ¬ (C < ((k0 : Int))) := by omega
  have lx9 := bx9.cells
  have BX9 := Lib.hid bx9
  clear bx9
  refine sK fun K hK => ?_
  refine wp_region_seqplan 8 [(true, 0), (true, 1), (true, 2), (true, 3), (true, 4), (true, 5), (true, 6), (true, 7)] (by rfl) (by simp) (fun T hT => ?_)
  iterate 8 (refine wpPlan_takeL (v := ?_) rfl (by rfl) (fun w' hw => ?_) ?_; rotate_left; go_simp; with_reducible rfl; simp only [Act.put, rA, rB, rC])
  refine wpPlan_nil (hT.out _ _ ?_); clear hT T
  intro vw3 hg
  simp only [puts, Act.put, rA, rB, rC, rD, rE, ↓reduceIte, Nat.reduceEqDiff]
  clear lx9
  have HG := Lib.hid (hg)
  clear hg
  replace BX9 := bG BX9 HG
  have r0 := Gr.refl vw3
  go_wp2
  refine hK.out _ _ ?_; clear hK K
  show Code.wp _ _ _ _ _
  clear r0
  refine forgetW (fun w2 => Bx w2 g 45 #[.bool (b0), (.slice ao0 k0 c0)] ∧ Below w.heap.size w w2) ⟨BX9.out, HB.out.trans (HG.out.mono HB.out.size)⟩ ?_
  clear HB HG BX9
  rintro Wx4 ⟨bx9, HB⟩
  replace HB := Lib.hid HB
  clear hd1
  refine wp_cond_false (by rfl) ?_
  refine wp_skip ?_
  show Code.wp _ _ _ _ _
  have BX9 := Lib.hid bx9
  clear bx9
  refine wp_last_k fun K hK => ?_
  replace hK := Lib.hid hK
  refine wp_region_seqplan 3 [(true, 0), (true, 1), (true, 2)] (by rfl) (by simp) (fun T hT => ?_)
  iterate 3 (refine wpPlan_takeL (v := ?_) rfl (by rfl) (fun w' hw => ?_) ?_; rotate_left; go_simp; with_reducible rfl; simp only [Act.put, rA, rB, rC])
  refine wpPlan_nil (hT.out _ _ ?_); clear hT T
  intro vw4 hg
  simp only [puts, Act.put, rA, rB, rC, rD, rE, ↓reduceIte, Nat.reduceEqDiff]
  have HG := Lib.hid (hg)
  clear hg
  replace BX9 := bG BX9 HG
  have r0 := Gr.refl vw4
  go_wp2
  refine hK.out _ _ ?_; clear hK K
  show Code.rounds _ _ _ _ _ _
  rw [rounds_succ]
  clear r0
  refine forgetW (fun w2 => Bx w2 g 45 #[.bool (b0), (.slice ao0 k0 c0)] ∧ Below w.heap.size w w2) ⟨BX9.out, HB.out.trans (HG.out.mono HB.out.size)⟩ ?_
  clear HB HG BX9
  rintro Wx3 ⟨bx9, HB⟩
  replace HB := Lib.hid HB
  refine wp_seq ?_
  have BX9 := Lib.hid bx9
  clear bx9
  refine sK fun K hK => ?_
  refine wp_region_seqplan 4 [(true, 0), (true, 1), (true, 2), (true, 3)] (by rfl) (by simp) (fun T hT => ?_)
  iterate 4 (refine wpPlan_takeL (v := ?_) rfl (by rfl) (fun w' hw => ?_) ?_; rotate_left; go_simp; with_reducible rfl; simp only [Act.put, rA, rB, rC])
  refine wpPlan_nil (hT.out _ _ ?_); clear hT T
  intro vw5 hg
  simp only [puts, Act.put, rA, rB, rC, rD, rE, ↓reduceIte, Nat.reduceEqDiff]
  have HG := Lib.hid (hg)
  clear hg
  replace BX9 := bG BX9 HG
  have r0 := Gr.refl vw5
  go_wp2
  refine hK.out _ _ ?_; clear hK K
  show Code.wp _ _ _ _ _
  clear r0
  refine forgetW (fun w2 => Bx w2 g 45 #[.bool (b0), (.slice ao0 k0 c0)] ∧ Below w.heap.size w w2) ⟨BX9.out, HB.out.trans (HG.out.mono HB.out.size)⟩ ?_
  clear HB HG BX9
  rintro Wx2 ⟨bx9, HB⟩
  replace HB := Lib.hid HB
  refine wp_cond_false (by rfl) ?_
  refine wp_exit ?_
  show Code.wp _ _ _ _ _
  have BX9 := Lib.hid bx9
  clear bx9
  refine sK fun K hK => ?_
  refine wp_region_seqplan 1 [(true, 0)] (by rfl) (by simp) (fun T hT => ?_)
  refine wpPlan_takeL (v := ?_) rfl (by rfl) (fun w' hw => ?_) ?_; rotate_left; go_simp; with_reducible rfl; simp only [Act.put, rA, rB, rC]
  refine wpPlan_nil (hT.out _ _ ?_); clear hT T
  intro vw6 hg
  simp only [puts, Act.put, rA, rB, rC, rD, rE, ↓reduceIte, Nat.reduceEqDiff]
  have HG := Lib.hid (hg)
  clear hg
  replace BX9 := bG BX9 HG
  have r0 := Gr.refl vw6
  go_wp2
  refine hK.out _ _ ?_; clear hK K
  show Code.wp _ _ _ _ _
  clear r0
  refine forgetW (fun w2 => Below w.heap.size w w2) (HB.out.trans (HG.out.mono HB.out.size)) ?_
  clear HB HG BX9
  rintro Wx6 HB
  replace HB := Lib.hid HB
  refine wp_ret ?_
  try simp only [Exit.then, Exit.inBlock]
  have r0 := Gr.refl Wx6
  exact bodyPost_ret (v := .bool true) (by simp [results, Tryd.results14, go_sem]) rfl ⟨rfl, HB.out⟩

set_option maxRecDepth 20000 in
set_option maxHeartbeats 2000000 in
theorem few2_no0 (b0 : Bool) (ao0 : Option Addr) (k0 c0 : Nat) (b1 : Bool) (ao1 : Option Addr) (k1 c1 : Nat) (C : Int) (g : Nat) (w : World) (bx9 : Bx w g 45 #[.bool (b0), (.slice ao0 k0 c0), .bool (b1), (.slice ao1 k1 c1)]) (h0 : C < (k0 : Int)) :
    Calls Tryd.prog 14 #[.int .i64 C, .slice (some ⟨g, 0, none⟩) 2 2] w fun e w' => e = .returned (.bool false) ∧ Below w.heap.size w w' := by
  have hw1 : IntKind.i64.wrap 1 = 1 := by decide
  have hw2 : IntKind.i64.wrap 2 = 2 := by decide
  have hw3 : IntKind.i64.wrap 3 = 3 := by decide
  go_enter Tryd.func14, Tryd.ntmps14
  have e9 := bx9.lt
  refine sK fun K hK => ?_
  refine wp_region_lit ?_
  go_wp2
  refine hK.out _ _ ?_; clear hK K
  show Code.wp _ _ _ _ _
  refine forgetW (fun w2 => Bx w2 g 45 #[.bool (b0), (.slice ao0 k0 c0), .bool (b1), (.slice ao1 k1 c1)] ∧ Below w.heap.size w w2) ⟨bx9, Below.refl _ _⟩ ?_
  clear bx9
  rintro Wx ⟨bx9, HB⟩
  replace HB := Lib.hid HB
  refine wp_seq ?_
  have BX9 := Lib.hid bx9
  clear bx9
  refine sK fun K hK => ?_
  refine wp_region_seqplan 1 [(true, 0)] (by rfl) (by simp) (fun T hT => ?_)
  refine wpPlan_takeL (v := ?_) rfl (by rfl) (fun w' hw => ?_) ?_; rotate_left; go_simp; with_reducible rfl; simp only [Act.put, rA, rB, rC]
  refine wpPlan_nil (hT.out _ _ ?_); clear hT T
  intro vw1 hg
  simp only [puts, Act.put, rA, rB, rC, rD, rE, ↓reduceIte, Nat.reduceEqDiff]
  have HG := Lib.hid (hg)
  clear hg
  replace BX9 := bG BX9 HG
  have r0 := Gr.refl vw1
  go_wp2
  refine hK.out _ _ ?_; clear hK K
  show Code.wp _ _ _ _ _
  clear r0
  refine forgetW (fun w2 => Bx w2 g 45 #[.bool (b0), (.slice ao0 k0 c0), .bool (b1), (.slice ao1 k1 c1)] ∧ Below w.heap.size w w2) ⟨BX9.out, HB.out.trans (HG.out.mono HB.out.size)⟩ ?_
  clear HB HG BX9
  rintro Wx1 ⟨bx9, HB⟩
  replace HB := Lib.hid HB
  refine wp_block ?_
  refine wp_loop_rounds 12 ?_
  rw [rounds_succ]
  refine wp_seq ?_
  have BX9 := Lib.hid bx9
  clear bx9
  refine sK fun K hK => ?_
  refine wp_region_seqplan 4 [(true, 0), (true, 1), (true, 2), (true, 3)] (by rfl) (by simp) (fun T hT => ?_)
  iterate 4 (refine wpPlan_takeL (v := ?_) rfl (by rfl) (fun w' hw => ?_) ?_; rotate_left; go_simp; with_reducible rfl; simp only [Act.put, rA, rB, rC])
  refine wpPlan_nil (hT.out _ _ ?_); clear hT T
  intro vw2 hg
  simp only [puts, Act.put, rA, rB, rC, rD, rE, ↓reduceIte, Nat.reduceEqDiff]
  have HG := Lib.hid (hg)
  clear hg
  replace BX9 := bG BX9 HG
  have r0 := Gr.refl vw2
  go_wp2
  refine hK.out _ _ ?_; clear hK K
  show Code.wp _ _ _ _ _
  clear r0
  refine forgetW (fun w2 => Bx w2 g 45 #[.bool (b0), (.slice ao0 k0 c0), .bool (b1), (.slice ao1 k1 c1)] ∧ Below w.heap.size w w2) ⟨BX9.out, HB.out.trans (HG.out.mono HB.out.size)⟩ ?_
  clear HB HG BX9
  rintro Wx2 ⟨bx9, HB⟩
  replace HB := Lib.hid HB
  refine wp_cond_true (by rfl) ?_
  refine wp_skip ?_
  show Code.wp _ _ _ _ _
  refine wp_seq ?_
  refine wp_block ?_
  have hd1 : C < ((k0 : Int)) := by omega
  have lx9 := bx9.cells
  have BX9 := Lib.hid bx9
  clear bx9
  refine sK fun K hK => ?_
  refine wp_region_seqplan 8 [(true, 0), (true, 1), (true, 2), (true, 3), (true, 4), (true, 5), (true, 6), (true, 7)] (by rfl) (by simp) (fun T hT => ?_)
  iterate 8 (refine wpPlan_takeL (v := ?_) rfl (by rfl) (fun w' hw => ?_) ?_; rotate_left; go_simp; with_reducible rfl; simp only [Act.put, rA, rB, rC])
  refine wpPlan_nil (hT.out _ _ ?_); clear hT T
  intro vw3 hg
  simp only [puts, Act.put, rA, rB, rC, rD, rE, ↓reduceIte, Nat.reduceEqDiff]
  clear lx9
  have HG := Lib.hid (hg)
  clear hg
  replace BX9 := bG BX9 HG
  have r0 := Gr.refl vw3
  go_wp2
  refine hK.out _ _ ?_; clear hK K
  show Code.wp _ _ _ _ _
  clear r0
  refine forgetW (fun w2 => Bx w2 g 45 #[.bool (b0), (.slice ao0 k0 c0), .bool (b1), (.slice ao1 k1 c1)] ∧ Below w.heap.size w w2) ⟨BX9.out, HB.out.trans (HG.out.mono HB.out.size)⟩ ?_
  clear HB HG BX9
  rintro Wx4 ⟨bx9, HB⟩
  replace HB := Lib.hid HB
  clear hd1
  refine wp_cond_true (by rfl) ?_
  have BX9 := Lib.hid bx9
  clear bx9
  refine sK fun K hK => ?_
  refine wp_region_seqplan 1 [(true, 0)] (by rfl) (by simp) (fun T hT => ?_)
  refine wpPlan_takeL (v := ?_) rfl (by rfl) (fun w' hw => ?_) ?_; rotate_left; go_simp; with_reducible rfl; simp only [Act.put, rA, rB, rC]
  refine wpPlan_nil (hT.out _ _ ?_); clear hT T
  intro vw4 hg
  simp only [puts, Act.put, rA, rB, rC, rD, rE, ↓reduceIte, Nat.reduceEqDiff]
  have HG := Lib.hid (hg)
  clear hg
  replace BX9 := bG BX9 HG
  have r0 := Gr.refl vw4
  go_wp2
  refine hK.out _ _ ?_; clear hK K
  show Code.wp _ _ _ _ _
  clear r0
  refine forgetW (fun w2 => Bx w2 g 45 #[.bool (b0), (.slice ao0 k0 c0), .bool (b1), (.slice ao1 k1 c1)] ∧ Below w.heap.size w w2) ⟨BX9.out, HB.out.trans (HG.out.mono HB.out.size)⟩ ?_
  clear HB HG BX9
  rintro Wx5 ⟨bx9, HB⟩
  replace HB := Lib.hid HB
  refine wp_ret ?_
  try simp only [Exit.then, Exit.inBlock]
  have r0 := Gr.refl Wx5
  exact bodyPost_ret (v := .bool false) (by simp [results, Tryd.results14, go_sem]) rfl ⟨rfl, HB.out⟩

set_option maxRecDepth 20000 in
set_option maxHeartbeats 2000000 in
theorem few2_no1 (b0 : Bool) (ao0 : Option Addr) (k0 c0 : Nat) (b1 : Bool) (ao1 : Option Addr) (k1 c1 : Nat) (C : Int) (g : Nat) (w : World) (bx9 : Bx w g 45 #[.bool (b0), (.slice ao0 k0 c0), .bool (b1), (.slice ao1 k1 c1)]) (h0 : (k0 : Int) ≤ C) (h1 : C < (k1 : Int)) :
    Calls Tryd.prog 14 #[.int .i64 C, .slice (some ⟨g, 0, none⟩) 2 2] w fun e w' => e = .returned (.bool false) ∧ Below w.heap.size w w' := by
  have hw1 : IntKind.i64.wrap 1 = 1 := by decide
  have hw2 : IntKind.i64.wrap 2 = 2 := by decide
  have hw3 : IntKind.i64.wrap 3 = 3 := by decide
  go_enter Tryd.func14, Tryd.ntmps14
  have e9 := bx9.lt
  refine sK fun K hK => ?_
  refine wp_region_lit ?_
  go_wp2
  refine hK.out _ _ ?_; clear hK K
  show Code.wp _ _ _ _ _
  refine forgetW (fun w2 => Bx w2 g 45 #[.bool (b0), (.slice ao0 k0 c0), .bool (b1), (.slice ao1 k1 c1)] ∧ Below w.heap.size w w2) ⟨bx9, Below.refl _ _⟩ ?_
  clear bx9
  rintro Wx ⟨bx9, HB⟩
  replace HB := Lib.hid HB
  refine wp_seq ?_
  have BX9 := Lib.hid bx9
  clear bx9
  refine sK fun K hK => ?_
  refine wp_region_seqplan 1 [(true, 0)] (by rfl) (by simp) (fun T hT => ?_)
  refine wpPlan_takeL (v := ?_) rfl (by rfl) (fun w' hw => ?_) ?_; rotate_left; go_simp; with_reducible rfl; simp only [Act.put, rA, rB, rC]
  refine wpPlan_nil (hT.out _ _ ?_); clear hT T
  intro vw1 hg
  simp only [puts, Act.put, rA, rB, rC, rD, rE, ↓reduceIte, Nat.reduceEqDiff]
  have HG := Lib.hid (hg)
  clear hg
  replace BX9 := bG BX9 HG
  have r0 := Gr.refl vw1
  go_wp2
  refine hK.out _ _ ?_; clear hK K
  show Code.wp _ _ _ _ _
  clear r0
  refine forgetW (fun w2 => Bx w2 g 45 #[.bool (b0), (.slice ao0 k0 c0), .bool (b1), (.slice ao1 k1 c1)] ∧ Below w.heap.size w w2) ⟨BX9.out, HB.out.trans (HG.out.mono HB.out.size)⟩ ?_
  clear HB HG BX9
  rintro Wx1 ⟨bx9, HB⟩
  replace HB := Lib.hid HB
  refine wp_block ?_
  refine wp_loop_rounds 12 ?_
  rw [rounds_succ]
  refine wp_seq ?_
  have BX9 := Lib.hid bx9
  clear bx9
  refine sK fun K hK => ?_
  refine wp_region_seqplan 4 [(true, 0), (true, 1), (true, 2), (true, 3)] (by rfl) (by simp) (fun T hT => ?_)
  iterate 4 (refine wpPlan_takeL (v := ?_) rfl (by rfl) (fun w' hw => ?_) ?_; rotate_left; go_simp; with_reducible rfl; simp only [Act.put, rA, rB, rC])
  refine wpPlan_nil (hT.out _ _ ?_); clear hT T
  intro vw2 hg
  simp only [puts, Act.put, rA, rB, rC, rD, rE, ↓reduceIte, Nat.reduceEqDiff]
  have HG := Lib.hid (hg)
  clear hg
  replace BX9 := bG BX9 HG
  have r0 := Gr.refl vw2
  go_wp2
  refine hK.out _ _ ?_; clear hK K
  show Code.wp _ _ _ _ _
  clear r0
  refine forgetW (fun w2 => Bx w2 g 45 #[.bool (b0), (.slice ao0 k0 c0), .bool (b1), (.slice ao1 k1 c1)] ∧ Below w.heap.size w w2) ⟨BX9.out, HB.out.trans (HG.out.mono HB.out.size)⟩ ?_
  clear HB HG BX9
  rintro Wx2 ⟨bx9, HB⟩
  replace HB := Lib.hid HB
  refine wp_cond_true (by rfl) ?_
  refine wp_skip ?_
  show Code.wp _ _ _ _ _
  refine wp_seq ?_
  refine wp_block ?_
  have hd1 : ¬ (C < ((k0 : Int))) := by omega
  have lx9 := bx9.cells
  have BX9 := Lib.hid bx9
  clear bx9
  refine sK fun K hK => ?_
  refine wp_region_seqplan 8 [(true, 0), (true, 1), (true, 2), (true, 3), (true, 4), (true, 5), (true, 6), (true, 7)] (by rfl) (by simp) (fun T hT => ?_)
  iterate 8 (refine wpPlan_takeL (v := ?_) rfl (by rfl) (fun w' hw => ?_) ?_; rotate_left; go_simp; with_reducible rfl; simp only [Act.put, rA, rB, rC])
  refine wpPlan_nil (hT.out _ _ ?_); clear hT T
  intro vw3 hg
  simp only [puts, Act.put, rA, rB, rC, rD, rE, ↓reduceIte, Nat.reduceEqDiff]
  clear lx9
  have HG := Lib.hid (hg)
  clear hg
  replace BX9 := bG BX9 HG
  have r0 := Gr.refl vw3
  go_wp2
  refine hK.out _ _ ?_; clear hK K
  show Code.wp _ _ _ _ _
  clear r0
  refine forgetW (fun w2 => Bx w2 g 45 #[.bool (b0), (.slice ao0 k0 c0), .bool (b1), (.slice ao1 k1 c1)] ∧ Below w.heap.size w w2) ⟨BX9.out, HB.out.trans (HG.out.mono HB.out.size)⟩ ?_
  clear HB HG BX9
  rintro Wx4 ⟨bx9, HB⟩
  replace HB := Lib.hid HB
  clear hd1
  refine wp_cond_false (by rfl) ?_
  refine wp_skip ?_
  show Code.wp _ _ _ _ _
  have BX9 := Lib.hid bx9
  clear bx9
  refine wp_last_k fun K hK => ?_
  replace hK := Lib.hid hK
  refine wp_region_seqplan 3 [(true, 0), (true, 1), (true, 2)] (by rfl) (by simp) (fun T hT => ?_)
  iterate 3 (refine wpPlan_takeL (v := ?_) rfl (by rfl) (fun w' hw => ?_) ?_; rotate_left; go_simp; with_reducible rfl; simp only [Act.put, rA, rB, rC])
  refine wpPlan_nil (hT.out _ _ ?_); clear hT T
  intro vw4 hg
  simp only [puts, Act.put, rA, rB, rC, rD, rE, ↓reduceIte, Nat.reduceEqDiff]
  have HG := Lib.hid (hg)
  clear hg
  replace BX9 := bG BX9 HG
  have r0 := Gr.refl vw4
  go_wp2
  refine hK.out _ _ ?_; clear hK K
  show Code.rounds _ _ _ _ _ _
  rw [rounds_succ]
  clear r0
  refine forgetW (fun w2 => Bx w2 g 45 #[.bool (b0), (.slice ao0 k0 c0), .bool (b1), (.slice ao1 k1 c1)] ∧ Below w.heap.size w w2) ⟨BX9.out, HB.out.trans (HG.out.mono HB.out.size)⟩ ?_
  clear HB HG BX9
  rintro Wx3 ⟨bx9, HB⟩
  replace HB := Lib.hid HB
  refine wp_seq ?_
  have BX9 := Lib.hid bx9
  clear bx9
  refine sK fun K hK => ?_
  refine wp_region_seqplan 4 [(true, 0), (true, 1), (true, 2), (true, 3)] (by rfl) (by simp) (fun T hT => ?_)
  iterate 4 (refine wpPlan_takeL (v := ?_) rfl (by rfl) (fun w' hw => ?_) ?_; rotate_left; go_simp; with_reducible rfl; simp only [Act.put, rA, rB, rC])
  refine wpPlan_nil (hT.out _ _ ?_); clear hT T
  intro vw5 hg
  simp only [puts, Act.put, rA, rB, rC, rD, rE, ↓reduceIte, Nat.reduceEqDiff]
  have HG := Lib.hid (hg)
  clear hg
  replace BX9 := bG BX9 HG
  have r0 := Gr.refl vw5
  go_wp2
  refine hK.out _ _ ?_; clear hK K
  show Code.wp _ _ _ _ _
  clear r0
  refine forgetW (fun w2 => Bx w2 g 45 #[.bool (b0), (.slice ao0 k0 c0), .bool (b1), (.slice ao1 k1 c1)] ∧ Below w.heap.size w w2) ⟨BX9.out, HB.out.trans (HG.out.mono HB.out.size)⟩ ?_
  clear HB HG BX9
  rintro Wx2 ⟨bx9, HB⟩
  replace HB := Lib.hid HB
  refine wp_cond_true (by rfl) ?_
  refine wp_skip ?_
  show Code.wp _ _ _ _ _
  refine wp_seq ?_
  refine wp_block ?_
  have hd2 : C < ((k1 : Int)) := by omega
  have lx9 := bx9.cells
  have BX9 := Lib.hid bx9
  clear bx9
  refine sK fun K hK => ?_
  refine wp_region_seqplan 8 [(true, 0), (true, 1), (true, 2), (true, 3), (true, 4), (true, 5), (true, 6), (true, 7)] (by rfl) (by simp) (fun T hT => ?_)
  iterate 8 (refine wpPlan_takeL (v := ?_) rfl (by rfl) (fun w' hw => ?_) ?_; rotate_left; go_simp; with_reducible rfl; simp only [Act.put, rA, rB, rC])
  refine wpPlan_nil (hT.out _ _ ?_); clear hT T
  intro vw6 hg
  simp only [puts, Act.put, rA, rB, rC, rD, rE, ↓reduceIte, Nat.reduceEqDiff]
  clear lx9
  have HG := Lib.hid (hg)
  clear hg
  replace BX9 := bG BX9 HG
  have r0 := Gr.refl vw6
  go_wp2
  refine hK.out _ _ ?_; clear hK K
  show Code.wp _ _ _ _ _
  clear r0
  refine forgetW (fun w2 => Bx w2 g 45 #[.bool (b0), (.slice ao0 k0 c0), .bool (b1), (.slice ao1 k1 c1)] ∧ Below w.heap.size w w2) ⟨BX9.out, HB.out.trans (HG.out.mono HB.out.size)⟩ ?_
  clear HB HG BX9
  rintro Wx4 ⟨bx9, HB⟩
  replace HB := Lib.hid HB
  clear hd2
  refine wp_cond_true (by rfl) ?_
  have BX9 := Lib.hid bx9
  clear bx9
  refine sK fun K hK => ?_
  refine wp_region_seqplan 1 [(true, 0)] (by rfl) (by simp) (fun T hT => ?_)
  refine wpPlan_takeL (v := ?_) rfl (by rfl) (fun w' hw => ?_) ?_; rotate_left; go_simp; with_reducible rfl; simp only [Act.put, rA, rB, rC]
  refine wpPlan_nil (hT.out _ _ ?_); clear hT T
  intro vw7 hg
  simp only [puts, Act.put, rA, rB, rC, rD, rE, ↓reduceIte, Nat.reduceEqDiff]
  have HG := Lib.hid (hg)
  clear hg
  replace BX9 := bG BX9 HG
  have r0 := Gr.refl vw7
  go_wp2
  refine hK.out _ _ ?_; clear hK K
  show Code.wp _ _ _ _ _
  clear r0
  refine forgetW (fun w2 => Bx w2 g 45 #[.bool (b0), (.slice ao0 k0 c0), .bool (b1), (.slice ao1 k1 c1)] ∧ Below w.heap.size w w2) ⟨BX9.out, HB.out.trans (HG.out.mono HB.out.size)⟩ ?_
  clear HB HG BX9
  rintro Wx5 ⟨bx9, HB⟩
  replace HB := Lib.hid HB
  refine wp_ret ?_
  try simp only [Exit.then, Exit.inBlock]
  have r0 := Gr.refl Wx5
  exact bodyPost_ret (v := .bool false) (by simp [results, Tryd.results14, go_sem]) rfl ⟨rfl, HB.out⟩

set_option maxRecDepth 20000 in
set_option maxHeartbeats 2000000 in
theorem few2_ok (b0 : Bool) (ao0 : Option Addr) (k0 c0 : Nat) (b1 : Bool) (ao1 : Option Addr) (k1 c1 : Nat) (C : Int) (g : Nat) (w : World) (bx9 : Bx w g 45 #[.bool (b0), (.slice ao0 k0 c0), .bool (b1), (.slice ao1 k1 c1)]) (h0 : (k0 : Int) ≤ C) (h1 : (k1 : Int) ≤ C) :
    Calls Tryd.prog 14 #[.int .i64 C, .slice (some ⟨g, 0, none⟩) 2 2] w fun e w' => e = .returned (.bool true) ∧ Below w.heap.size w w' := by
  have hw1 : IntKind.i64.wrap 1 = 1 := by decide
  have hw2 : IntKind.i64.wrap 2 = 2 := by decide
  have hw3 : IntKind.i64.wrap 3 = 3 := by decide
  go_enter Tryd.func14, Tryd.ntmps14
  have e9 := bx9.lt
  refine sK fun K hK => ?_
  refine wp_region_lit ?_
  go_wp2
  refine hK.out _ _ ?_; clear hK K
  show Code.wp _ _ _ _ _
  refine forgetW (fun w2 => Bx w2 g 45 #[.bool (b0), (.slice ao0 k0 c0), .bool (b1), (.slice ao1 k1 c1)] ∧ Below w.heap.size w w2) ⟨bx9, Below.refl _ _⟩ ?_
  clear bx9
  rintro Wx ⟨bx9, HB⟩
  replace HB := Lib.hid HB
  refine wp_seq ?_
  have BX9 := Lib.hid bx9
  clear bx9
  refine sK fun K hK => ?_
  refine wp_region_seqplan 1 [(true, 0)] (by rfl) (by simp) (fun T hT => ?_)
  refine wpPlan_takeL (v := ?_) rfl (by rfl) (fun w' hw => ?_) ?_; rotate_left; go_simp; with_reducible rfl; simp only [Act.put, rA, rB, rC]
  refine wpPlan_nil (hT.out _ _ ?_); clear hT T
  intro vw1 hg
  simp only [puts, Act.put, rA, rB, rC, rD, rE, ↓reduceIte, Nat.reduceEqDiff]
  have HG := Lib.hid (hg)
  clear hg
  replace BX9 := bG BX9 HG
  have r0 := Gr.refl vw1
  go_wp2
  refine hK.out _ _ ?_; clear hK K
  show Code.wp _ _ _ _ _
  clear r0
  refine forgetW (fun w2 => Bx w2 g 45 #[.bool (b0), (.slice ao0 k0 c0), .bool (b1), (.slice ao1 k1 c1)] ∧ Below w.heap.size w w2) ⟨BX9.out, HB.out.trans (HG.out.mono HB.out.size)⟩ ?_
  clear HB HG BX9
  rintro Wx1 ⟨bx9, HB⟩
  replace HB := Lib.hid HB
  refine wp_block ?_
  refine wp_loop_rounds 12 ?_
  rw [rounds_succ]
  refine wp_seq ?_
  have BX9 := Lib.hid bx9
  clear bx9
  refine sK fun K hK => ?_
  refine wp_region_seqplan 4 [(true, 0), (true, 1), (true, 2), (true, 3)] (by rfl) (by simp) (fun T hT => ?_)
  iterate 4 (refine wpPlan_takeL (v := ?_) rfl (by rfl) (fun w' hw => ?_) ?_; rotate_left; go_simp; with_reducible rfl; simp only [Act.put, rA, rB, rC])
  refine wpPlan_nil (hT.out _ _ ?_); clear hT T
  intro vw2 hg
  simp only [puts, Act.put, rA, rB, rC, rD, rE, ↓reduceIte, Nat.reduceEqDiff]
  have HG := Lib.hid (hg)
  clear hg
  replace BX9 := bG BX9 HG
  have r0 := Gr.refl vw2
  go_wp2
  refine hK.out _ _ ?_; clear hK K
  show Code.wp _ _ _ _ _
  clear r0
  refine forgetW (fun w2 => Bx w2 g 45 #[.bool (b0), (.slice ao0 k0 c0), .bool (b1), (.slice ao1 k1 c1)] ∧ Below w.heap.size w w2) ⟨BX9.out, HB.out.trans (HG.out.mono HB.out.size)⟩ ?_
  clear HB HG BX9
  rintro Wx2 ⟨bx9, HB⟩
  replace HB := Lib.hid HB
  refine wp_cond_true (by rfl) ?_
  refine wp_skip ?_
  show Code.wp _ _ _ _ _
  refine wp_seq ?_
  refine wp_block ?_
  have hd1 : ¬ (C < ((k0 : Int))) := by omega
  have lx9 := bx9.cells
  have BX9 := Lib.hid bx9
  clear bx9
  refine sK fun K hK => ?_
  refine wp_region_seqplan 8 [(true, 0), (true, 1), (true, 2), (true, 3), (true, 4), (true, 5), (true, 6), (true, 7)] (by rfl) (by simp) (fun T hT => ?_)
  iterate 8 (refine wpPlan_takeL (v := ?_) rfl (by rfl) (fun w' hw => ?_) ?_; rotate_left; go_simp; with_reducible rfl; simp only [Act.put, rA, rB, rC])
  refine wpPlan_nil (hT.out _ _ ?_); clear hT T
  intro vw3 hg
  simp only [puts, Act.put, rA, rB, rC, rD, rE, ↓reduceIte, Nat.reduceEqDiff]
  clear lx9
  have HG := Lib.hid (hg)
  clear hg
  replace BX9 := bG BX9 HG
  have r0 := Gr.refl vw3
  go_wp2
  refine hK.out _ _ ?_; clear hK K
  show Code.wp _ _ _ _ _
  clear r0
  refine forgetW (fun w2 => Bx w2 g 45 #[.bool (b0), (.slice ao0 k0 c0), .bool (b1), (.slice ao1 k1 c1)] ∧ Below w.heap.size w w2) ⟨BX9.out, HB.out.trans (HG.out.mono HB.out.size)⟩ ?_
  clear HB HG BX9
  rintro Wx4 ⟨bx9, HB⟩
  replace HB := Lib.hid HB
  clear hd1
  refine wp_cond_false (by rfl) ?_
  refine wp_skip ?_
  show Code.wp _ _ _ _ _
  have BX9 := Lib.hid bx9
  clear bx9
  refine wp_last_k fun K hK => ?_
  replace hK := Lib.hid hK
  refine wp_region_seqplan 3 [(true, 0), (true, 1), (true, 2)] (by rfl) (by simp) (fun T hT => ?_)
  iterate 3 (refine wpPlan_takeL (v := ?_) rfl (by rfl) (fun w' hw => ?_) ?_; rotate_left; go_simp; with_reducible rfl; simp only [Act.put, rA, rB, rC])
  refine wpPlan_nil (hT.out _ _ ?_); clear hT T
  intro vw4 hg
  simp only [puts, Act.put, rA, rB, rC, rD, rE, ↓reduceIte, Nat.reduceEqDiff]
  have HG := Lib.hid (hg)
  clear hg
  replace BX9 := bG BX9 HG
  have r0 := Gr.refl vw4
  go_wp2
  refine hK.out _ _ ?_; clear hK K
  show Code.rounds _ _ _ _ _ _
  rw [rounds_succ]
  clear r0
  refine forgetW (fun w2 => Bx w2 g 45 #[.bool (b0), (.slice ao0 k0 c0), .bool (b1), (.slice ao1 k1 c1)] ∧ Below w.heap.size w w2) ⟨BX9.out, HB.out.trans (HG.out.mono HB.out.size)⟩ ?_
  clear HB HG BX9
  rintro Wx3 ⟨bx9, HB⟩
  replace HB := Lib.hid HB
  refine wp_seq ?_
  have BX9 := Lib.hid bx9
  clear bx9
  refine sK fun K hK => ?_
  refine wp_region_seqplan 4 [(true, 0), (true, 1), (true, 2), (true, 3)] (by rfl) (by simp) (fun T hT => ?_)
  iterate 4 (refine wpPlan_takeL (v := ?_) rfl (by rfl) (fun w' hw => ?_) ?_; rotate_left; go_simp; with_reducible rfl; simp only [Act.put, rA, rB, rC])
  refine wpPlan_nil (hT.out _ _ ?_); clear hT T
  intro vw5 hg
  simp only [puts, Act.put, rA, rB, rC, rD, rE, ↓reduceIte, Nat.reduceEqDiff]
  have HG := Lib.hid (hg)
  clear hg
  replace BX9 := bG BX9 HG
  have r0 := Gr.refl vw5
  go_wp2
  refine hK.out _ _ ?_; clear hK K
  show Code.wp _ _ _ _ _
  clear r0
  refine forgetW (fun w2 => Bx w2 g 45 #[.bool (b0), (.slice ao0 k0 c0), .bool (b1), (.slice ao1 k1 c1)] ∧ Below w.heap.size w w2) ⟨BX9.out, HB.out.trans (HG.out.mono HB.out.size)⟩ ?_
  clear HB HG BX9
  rintro Wx2 ⟨bx9, HB⟩
  replace HB := Lib.hid HB
  refine wp_cond_true (by rfl) ?_
  refine wp_skip ?_
  show Code.wp _ _ _ _ _
  refine wp_seq ?_
  refine wp_block ?_
  have hd2 : ¬ (C < ((k1 : Int))) := by omega
  have lx9 := bx9.cells
  have BX9 := Lib.hid bx9
  clear bx9
  refine sK fun K hK => ?_
  refine wp_region_seqplan 8 [(true, 0), (true, 1), (true, 2), (true, 3), (true, 4), (true, 5), (true, 6), (true, 7)] (by rfl) (by simp) (fun T hT => ?_)
  iterate 8 (refine wpPlan_takeL (v := ?_) rfl (by rfl) (fun w' hw => ?_) ?_; rotate_left; go_simp; with_reducible rfl; simp only [Act.put, rA, rB, rC])
  refine wpPlan_nil (hT.out _ _ ?_); clear hT T
  intro vw6 hg
  simp only [puts, Act.put, rA, rB, rC, rD, rE, ↓reduceIte, Nat.reduceEqDiff]
  clear lx9
  have HG := Lib.hid (hg)
  clear hg
  replace BX9 := bG BX9 HG
  have r0 := Gr.refl vw6
  go_wp2
  refine hK.out _ _ ?_; clear hK K
  show Code.wp _ _ _ _ _
  clear r0
  refine forgetW (fun w2 => Bx w2 g 45 #[.bool (b0), (.slice ao0 k0 c0), .bool (b1), (.slice ao1 k1 c1)] ∧ Below w.heap.size w w2) ⟨BX9.out, HB.out.trans (HG.out.mono HB.out.size)⟩ ?_
  clear HB HG BX9
  rintro Wx4 ⟨bx9, HB⟩
  replace HB := Lib.hid HB
  clear hd2
  refine wp_cond_false (by rfl) ?_
  refine wp_skip ?_
  show Code.wp _ _ _ _ _
  have BX9 := Lib.hid bx9
  clear bx9
  refine wp_last_k fun K hK => ?_
  replace hK := Lib.hid hK
  refine wp_region_seqplan 3 [(true, 0), (true, 1), (true, 2)] (by rfl) (by simp) (fun T hT => ?_)
  iterate 3 (refine wpPlan_takeL (v := ?_) rfl (by rfl) (fun w' hw => ?_) ?_; rotate_left; go_simp; with_reducible rfl; simp only [Act.put, rA, rB, rC])
  refine wpPlan_nil (hT.out _ _ ?_); clear hT T
  intro vw7 hg
  simp only [puts, Act.put, rA, rB, rC, rD, rE, ↓reduceIte, Nat.reduceEqDiff]
  have HG := Lib.hid (hg)
  clear hg
  replace BX9 := bG BX9 HG
  have r0 := Gr.refl vw7
  go_wp2
  refine hK.out _ _ ?_; clear hK K
  show Code.rounds _ _ _ _ _ _
  rw [rounds_succ]
  clear r0
  refine forgetW (fun w2 => Bx w2 g 45 #[.bool (b0), (.slice ao0 k0 c0), .bool (b1), (.slice ao1 k1 c1)] ∧ Below w.heap.size w w2) ⟨BX9.out, HB.out.trans (HG.out.mono HB.out.size)⟩ ?_
  clear HB HG BX9
  rintro Wx3 ⟨bx9, HB⟩
  replace HB := Lib.hid HB
  refine wp_seq ?_
  have BX9 := Lib.hid bx9
  clear bx9
  refine sK fun K hK => ?_
  refine wp_region_seqplan 4 [(true, 0), (true, 1), (true, 2), (true, 3)] (by rfl) (by simp) (fun T hT => ?_)
  iterate 4 (refine wpPlan_takeL (v := ?_) rfl (by rfl) (fun w' hw => ?_) ?_; rotate_left; go_simp; with_reducible rfl; simp only [Act.put, rA, rB, rC])
  refine wpPlan_nil (hT.out _ _ ?_); clear hT T
  intro vw8 hg
  simp only [puts, Act.put, rA, rB, rC, rD, rE, ↓reduceIte, Nat.reduceEqDiff]
  have HG := Lib.hid (hg)
  clear hg
  replace BX9 := bG BX9 HG
  have r0 := Gr.refl vw8
  go_wp2
  refine hK.out _ _ ?_; clear hK K
  show Code.wp _ _ _ _ _
  clear r0
  refine forgetW (fun w2 => Bx w2 g 45 #[.bool (b0), (.slice ao0 k0 c0), .bool (b1), (.slice ao1 k1 c1)] ∧ Below w.heap.size w w2) ⟨BX9.out, HB.out.trans (HG.out.mono HB.out.size)⟩ ?_
  clear HB HG BX9
  rintro Wx2 ⟨bx9, HB⟩
  replace HB := Lib.hid HB
  refine wp_cond_false (by rfl) ?_
  refine wp_exit ?_
  show Code.wp _ _ _ _ _
  have BX9 := Lib.hid bx9
  clear bx9
  refine sK fun K hK => ?_
  refine wp_region_seqplan 1 [(true, 0)] (by rfl) (by simp) (fun T hT => ?_)
  refine wpPlan_takeL (v := ?_) rfl (by rfl) (fun w' hw => ?_) ?_; rotate_left; go_simp; with_reducible rfl; simp only [Act.put, rA, rB, rC]
  refine wpPlan_nil (hT.out _ _ ?_); clear hT T
  intro vw9 hg
  simp only [puts, Act.put, rA, rB, rC, rD, rE, ↓reduceIte, Nat.reduceEqDiff]
  have HG := Lib.hid (hg)
  clear hg
  replace BX9 := bG BX9 HG
  have r0 := Gr.refl vw9
  go_wp2
  refine hK.out _ _ ?_; clear hK K
  show Code.wp _ _ _ _ _
  clear r0
  refine forgetW (fun w2 => Below w.heap.size w w2) (HB.out.trans (HG.out.mono HB.out.size)) ?_
  clear HB HG BX9
  rintro Wx6 HB
  replace HB := Lib.hid HB
  refine wp_ret ?_
  try simp only [Exit.then, Exit.inBlock]
  have r0 := Gr.refl Wx6
  exact bodyPost_ret (v := .bool true) (by simp [results, Tryd.results14, go_sem]) rfl ⟨rfl, HB.out⟩

set_option maxRecDepth 20000 in
set_option maxHeartbeats 2000000 in
theorem few3_no0 (b0 : Bool) (ao0 : Option Addr) (k0 c0 : Nat) (b1 : Bool) (ao1 : Option Addr) (k1 c1 : Nat) (b2 : Bool) (ao2 : Option Addr) (k2 c2 : Nat) (C : Int) (g : Nat) (w : World) (bx9 : Bx w g 45 #[.bool (b0), (.slice ao0 k0 c0), .bool (b1), (.slice ao1 k1 c1), .bool (b2), (.slice ao2 k2 c2)]) (h0 : C < (k0 : Int)) :
    Calls Tryd.prog 14 #[.int .i64 C, .slice (some ⟨g, 0, none⟩) 3 3] w fun e w' => e = .returned (.bool false) ∧ Below w.heap.size w w' := by
  have hw1 : IntKind.i64.wrap 1 = 1 := by decide
  have hw2 : IntKind.i64.wrap 2 = 2 := by decide
  have hw3 : IntKind.i64.wrap 3 = 3 := by decide
  go_enter Tryd.func14, Tryd.ntmps14
  have e9 := bx9.lt
  refine sK fun K hK => ?_
  refine wp_region_lit ?_
  go_wp2
  refine hK.out _ _ ?_; clear hK K
  show Code.wp _ _ _ _ _
  refine forgetW (fun w2 => Bx w2 g 45 #[.bool (b0), (.slice ao0 k0 c0), .bool (b1), (.slice ao1 k1 c1), .bool (b2), (.slice ao2 k2 c2)] ∧ Below w.heap.size w w2) ⟨bx9, Below.refl _ _⟩ ?_
  clear bx9
  rintro Wx ⟨bx9, HB⟩
  replace HB := Lib.hid HB
  refine wp_seq ?_
  have BX9 := Lib.hid bx9
  clear bx9
  refine sK fun K hK => ?_
  refine wp_region_seqplan 1 [(true, 0)] (by rfl) (by simp) (fun T hT => ?_)
  refine wpPlan_takeL (v := ?_) rfl (by rfl) (fun w' hw => ?_) ?_; rotate_left; go_simp; with_reducible rfl; simp only [Act.put, rA, rB, rC]
  refine wpPlan_nil (hT.out _ _ ?_); clear hT T
  intro vw1 hg
  simp only [puts, Act.put, rA, rB, rC, rD, rE, ↓reduceIte, Nat.reduceEqDiff]
  have HG := Lib.hid (hg)
  clear hg
  replace BX9 := bG BX9 HG
  have r0 := Gr.refl vw1
  go_wp2
  refine hK.out _ _ ?_; clear hK K
  show Code.wp _ _ _ _ _
  clear r0
  refine forgetW (fun w2 => Bx w2 g 45 #[.bool (b0), (.slice ao0 k0 c0), .bool (b1), (.slice ao1 k1 c1), .bool (b2), (.slice ao2 k2 c2)] ∧ Below w.heap.size w w2) ⟨BX9.out, HB.out.trans (HG.out.mono HB.out.size)⟩ ?_
  clear HB HG BX9
  rintro Wx1 ⟨bx9, HB⟩
  replace HB := Lib.hid HB
  refine wp_block ?_
  refine wp_loop_rounds 12 ?_
  rw [rounds_succ]
  refine wp_seq ?_
  have BX9 := Lib.hid bx9
  clear bx9
  refine sK fun K hK => ?_
  refine wp_region_seqplan 4 [(true, 0), (true, 1), (true, 2), (true, 3)] (by rfl) (by simp) (fun T hT => ?_)
  iterate 4 (refine wpPlan_takeL (v := ?_) rfl (by rfl) (fun w' hw => ?_) ?_; rotate_left; go_simp; with_reducible rfl; simp only [Act.put, rA, rB, rC])
  refine wpPlan_nil (hT.out _ _ ?_); clear hT T
  intro vw2 hg
  simp only [puts, Act.put, rA, rB, rC, rD, rE, ↓reduceIte, Nat.reduceEqDiff]
  have HG := Lib.hid (hg)
  clear hg
  replace BX9 := bG BX9 HG
  have r0 := Gr.refl vw2
  go_wp2
  refine hK.out _ _ ?_; clear hK K
  show Code.wp _ _ _ _ _
  clear r0
  refine forgetW (fun w2 => Bx w2 g 45 #[.bool (b0), (.slice ao0 k0 c0), .bool (b1), (.slice ao1 k1 c1), .bool (b2), (.slice ao2 k2 c2)] ∧ Below w.heap.size w w2) ⟨BX9.out, HB.out.trans (HG.out.mono HB.out.size)⟩ ?_
  clear HB HG BX9
  rintro Wx2 ⟨bx9, HB⟩
  replace HB := Lib.hid HB
  refine wp_cond_true (by rfl) ?_
  refine wp_skip ?_
  show Code.wp _ _ _ _ _
  refine wp_seq ?_
  refine wp_block ?_
  have hd1 : C < ((k0 : Int)) := by omega
  have lx9 := bx9.cells
  have BX9 := Lib.hid bx9
  clear bx9
  refine sK fun K hK => ?_
  refine wp_region_seqplan 8 [(true, 0), (true, 1), (true, 2), (true, 3), (true, 4), (true, 5), (true, 6), (true, 7)] (by rfl) (by simp) (fun T hT => ?_)
  iterate 8 (refine wpPlan_takeL (v := ?_) rfl (by rfl) (fun w' hw => ?_) ?_; rotate_left; go_simp; with_reducible rfl; simp only [Act.put, rA, rB, rC])
  refine wpPlan_nil (hT.out _ _ ?_); clear hT T
  intro vw3 hg
  simp only [puts, Act.put, rA, rB, rC, rD, rE, ↓reduceIte, Nat.reduceEqDiff]
  clear lx9
  have HG := Lib.hid (hg)
  clear hg
  replace BX9 := bG BX9 HG
  have r0 := Gr.refl vw3
  go_wp2
  refine hK.out _ _ ?_; clear hK K
  show Code.wp _ _ _ _ _
  clear r0
  refine forgetW (fun w2 => Bx w2 g 45 #[.bool (b0), (.slice ao0 k0 c0), .bool (b1), (.slice ao1 k1 c1), .bool (b2), (.slice ao2 k2 c2)] ∧ Below w.heap.size w w2) ⟨BX9.out, HB.out.trans (HG.out.mono HB.out.size)⟩ ?_
  clear HB HG BX9
  rintro Wx4 ⟨bx9, HB⟩
  replace HB := Lib.hid HB
  clear hd1
  refine wp_cond_true (by rfl) ?_
  have BX9 := Lib.hid bx9
  clear bx9
  refine sK fun K hK => ?_
  refine wp_region_seqplan 1 [(true, 0)] (by rfl) (by simp) (fun T hT => ?_)
  refine wpPlan_takeL (v := ?_) rfl (by rfl) (fun w' hw => ?_) ?_; rotate_left; go_simp; with_reducible rfl; simp only [Act.put, rA, rB, rC]
  refine wpPlan_nil (hT.out _ _ ?_); clear hT T
  intro vw4 hg
  simp only [puts, Act.put, rA, rB, rC, rD, rE, ↓reduceIte, Nat.reduceEqDiff]
  have HG := Lib.hid (hg)
  clear hg
  replace BX9 := bG BX9 HG
  have r0 := Gr.refl vw4
  go_wp2
  refine hK.out _ _ ?_; clear hK K
  show Code.wp _ _ _ _ _
  clear r0
  refine forgetW (fun w2 => Bx w2 g 45 #[.bool (b0), (.slice ao0 k0 c0), .bool (b1), (.slice ao1 k1 c1), .bool (b2), (.slice ao2 k2 c2)] ∧ Below w.heap.size w w2) ⟨BX9.out, HB.out.trans (HG.out.mono HB.out.size)⟩ ?_
  clear HB HG BX9
  rintro Wx5 ⟨bx9, HB⟩
  replace HB := Lib.hid HB
  refine wp_ret ?_
  try simp only [Exit.then, Exit.inBlock]
  have r0 := Gr.refl Wx5
  exact bodyPost_ret (v := .bool false) (by simp [results, Tryd.results14, go_sem]) rfl ⟨rfl, HB.out⟩

set_option maxRecDepth 20000 in
set_option maxHeartbeats 2000000 in
theorem few3_no1 (b0 : Bool) (ao0 : Option Addr) (k0 c0 : Nat) (b1 : Bool) (ao1 : Option Addr) (k1 c1 : Nat) (b2 : Bool) (ao2 : Option Addr) (k2 c2 : Nat) (C : Int) (g : Nat) (w : World) (bx9 : Bx w g 45 #[.bool (b0), (.slice ao0 k0 c0), .bool (b1), (.slice ao1 k1 c1), .bool (b2), (.slice ao2 k2 c2)]) (h0 : (k0 : Int) ≤ C) (h1 : C < (k1 : Int)) :
    Calls Tryd.prog 14 #[.int .i64 C, .slice (some ⟨g, 0, none⟩) 3 3] w fun e w' => e = .returned (.bool false) ∧ Below w.heap.size w w' := by
  have hw1 : IntKind.i64.wrap 1 = 1 := by decide
  have hw2 : IntKind.i64.wrap 2 = 2 := by decide
  have hw3 : IntKind.i64.wrap 3 = 3 := by decide
  go_enter Tryd.func14, Tryd.ntmps14
  have e9 := bx9.lt
  refine sK fun K hK => ?_
  refine wp_region_lit ?_
  go_wp2
  refine hK.out _ _ ?_; clear hK K
  show Code.wp _ _ _ _ _
  refine forgetW (fun w2 => Bx w2 g 45 #[.bool (b0), (.slice ao0 k0 c0), .bool (b1), (.slice ao1 k1 c1), .bool (b2), (.slice ao2 k2 c2)] ∧ Below w.heap.size w w2) ⟨bx9, Below.refl _ _⟩ ?_
  clear bx9
  rintro Wx ⟨bx9, HB⟩
  replace HB := Lib.hid HB
  refine wp_seq ?_
  have BX9 := Lib.hid bx9
  clear bx9
  refine sK fun K hK => ?_
  refine wp_region_seqplan 1 [(true, 0)] (by rfl) (by simp) (fun T hT => ?_)
  refine wpPlan_takeL (v := ?_) rfl (by rfl) (fun w' hw => ?_) ?_; rotate_left; go_simp; with_reducible rfl; simp only [Act.put, rA, rB, rC]
  refine wpPlan_nil (hT.out _ _ ?_); clear hT T
  intro vw1 hg
  simp only [puts, Act.put, rA, rB, rC, rD, rE, ↓reduceIte, Nat.reduceEqDiff]
  have HG := Lib.hid (hg)
  clear hg
  replace BX9 := bG BX9 HG
  have r0 := Gr.refl vw1
  go_wp2
  refine hK.out _ _ ?_; clear hK K
  show Code.wp _ _ _ _ _
  clear r0
  refine forgetW (fun w2 => Bx w2 g 45 #[.bool (b0), (.slice ao0 k0 c0), .bool (b1), (.slice ao1 k1 c1), .bool (b2), (.slice ao2 k2 c2)] ∧ Below w.heap.size w w2) ⟨BX9.out, HB.out.trans (HG.out.mono HB.out.size)⟩ ?_
  clear HB HG BX9
  rintro Wx1 ⟨bx9, HB⟩
  replace HB := Lib.hid HB
  refine wp_block ?_
  refine wp_loop_rounds 12 ?_
  rw [rounds_succ]
  refine wp_seq ?_
  have BX9 := Lib.hid bx9
  clear bx9
  refine sK fun K hK => ?_
  refine wp_region_seqplan 4 [(true, 0), (true, 1), (true, 2), (true, 3)] (by rfl) (by simp) (fun T hT => ?_)
  iterate 4 (refine wpPlan_takeL (v := ?_) rfl (by rfl) (fun w' hw => ?_) ?_; rotate_left; go_simp; with_reducible rfl; simp only [Act.put, rA, rB, rC])
  refine wpPlan_nil (hT.out _ _ ?_); clear hT T
  intro vw2 hg
  simp only [puts, Act.put, rA, rB, rC, rD, rE, ↓reduceIte, Nat.reduceEqDiff]
  have HG := Lib.hid (hg)
  clear hg
  replace BX9 := bG BX9 HG
  have r0 := Gr.refl vw2
  go_wp2
  refine hK.out _ _ ?_; clear hK K
  show Code.wp _ _ _ _ _
  clear r0
  refine forgetW (fun w2 => Bx w2 g 45 #[.bool (b0), (.slice ao0 k0 c0), .bool (b1), (.slice ao1 k1 c1), .bool (b2), (.slice ao2 k2 c2)] ∧ Below w.heap.size w w2) ⟨BX9.out, HB.out.trans (HG.out.mono HB.out.size)⟩ ?_
  clear HB HG BX9
  rintro Wx2 ⟨bx9, HB⟩
  replace HB := Lib.hid HB
  refine wp_cond_true (by rfl) ?_
  refine wp_skip ?_
  show Code.wp _ _ _ _ _
  refine wp_seq ?_
  refine wp_block ?_
  have hd1 : ¬ (C < ((k0 : Int))) := by omega
  have lx9 := bx9.cells
  have BX9 := Lib.hid bx9
  clear bx9
  refine sK fun K hK => ?_
  refine wp_region_seqplan 8 [(true, 0), (true, 1), (true, 2), (true, 3), (true, 4), (true, 5), (true, 6), (true, 7)] (by rfl) (by simp) (fun T hT => ?_)
  iterate 8 (refine wpPlan_takeL (v := ?_) rfl (by rfl) (fun w' hw => ?_) ?_; rotate_left; go_simp; with_reducible rfl; simp only [Act.put, rA, rB, rC])
  refine wpPlan_nil (hT.out _ _ ?_); clear hT T
  intro vw3 hg
  simp only [puts, Act.put, rA, rB, rC, rD, rE, ↓reduceIte, Nat.reduceEqDiff]
  clear lx9
  have HG := Lib.hid (hg)
  clear hg
  replace BX9 := bG BX9 HG
  have r0 := Gr.refl vw3
  go_wp2
  refine hK.out _ _ ?_; clear hK K
  show Code.wp _ _ _ _ _
  clear r0
  refine forgetW (fun w2 => Bx w2 g 45 #[.bool (b0), (.slice ao0 k0 c0), .bool (b1), (.slice ao1 k1 c1), .bool (b2), (.slice ao2 k2 c2)] ∧ Below w.heap.size w w2) ⟨BX9.out, HB.out.trans (HG.out.mono HB.out.size)⟩ ?_
  clear HB HG BX9
  rintro Wx4 ⟨bx9, HB⟩
  replace HB := Lib.hid HB
  clear hd1
  refine wp_cond_false (by rfl) ?_
  refine wp_skip ?_
  show Code.wp _ _ _ _ _
  have BX9 := Lib.hid bx9
  clear bx9
  refine wp_last_k fun K hK => ?_
  replace hK := Lib.hid hK
  refine wp_region_seqplan 3 [(true, 0), (true, 1), (true, 2)] (by rfl) (by simp) (fun T hT => ?_)
  iterate 3 (refine wpPlan_takeL (v := ?_) rfl (by rfl) (fun w' hw => ?_) ?_; rotate_left; go_simp; with_reducible rfl; simp only [Act.put, rA, rB, rC])
  refine wpPlan_nil (hT.out _ _ ?_); clear hT T
  intro vw4 hg
  simp only [puts, Act.put, rA, rB, rC, rD, rE, ↓reduceIte, Nat.reduceEqDiff]
  have HG := Lib.hid (hg)
  clear hg
  replace BX9 := bG BX9 HG
  have r0 := Gr.refl vw4
  go_wp2
  refine hK.out _ _ ?_; clear hK K
  show Code.rounds _ _ _ _ _ _
  rw [rounds_succ]
  clear r0
  refine forgetW (fun w2 => Bx w2 g 45 #[.bool (b0), (.slice ao0 k0 c0), .bool (b1), (.slice ao1 k1 c1), .bool (b2), (.slice ao2 k2 c2)] ∧ Below w.heap.size w w2) ⟨BX9.out, HB.out.trans (HG.out.mono HB.out.size)⟩ ?_
  clear HB HG BX9
  rintro Wx3 ⟨bx9, HB⟩
  replace HB := Lib.hid HB
  refine wp_seq ?_
  have BX9 := Lib.hid bx9
  clear bx9
  refine sK fun K hK => ?_
  refine wp_region_seqplan 4 [(true, 0), (true, 1), (true, 2), (true, 3)] (by rfl) (by simp) (fun T hT => ?_)
  iterate 4 (refine wpPlan_takeL (v := ?_) rfl (by rfl) (fun w' hw => ?_) ?_; rotate_left; go_simp; with_reducible rfl; simp only [Act.put, rA, rB, rC])
  refine wpPlan_nil (hT.out _ _ ?_); clear hT T
  intro vw5 hg
  simp only [puts, Act.put, rA, rB, rC, rD, rE, ↓reduceIte, Nat.reduceEqDiff]
  have HG := Lib.hid (hg)
  clear hg
  replace BX9 := bG BX9 HG
  have r0 := Gr.refl vw5
  go_wp2
  refine hK.out _ _ ?_; clear hK K
  show Code.wp _ _ _ _ _
  clear r0
  refine forgetW (fun w2 => Bx w2 g 45 #[.bool (b0), (.slice ao0 k0 c0), .bool (b1), (.slice ao1 k1 c1), .bool (b2), (.slice ao2 k2 c2)] ∧ Below w.heap.size w w2) ⟨BX9.out, HB.out.trans (HG.out.mono HB.out.size)⟩ ?_
  clear HB HG BX9
  rintro Wx2 ⟨bx9, HB⟩
  replace HB := Lib.hid HB
  refine wp_cond_true (by rfl) ?_
  refine wp_skip ?_
  show Code.wp _ _ _ _ _
  refine wp_seq ?_
  refine wp_block ?_
  have hd2 : C < ((k1 : Int)) := by omega
  have lx9 := bx9.cells
  have BX9 := Lib.hid bx9
  clear bx9
  refine sK fun K hK => ?_
  refine wp_region_seqplan 8 [(true, 0), (true, 1), (true, 2), (true, 3), (true, 4), (true, 5), (true, 6), (true, 7)] (by rfl) (by simp) (fun T hT => ?_)
  iterate 8 (refine wpPlan_takeL (v := ?_) rfl (by rfl) (fun w' hw => ?_) ?_; rotate_left; go_simp; with_reducible rfl; simp only [Act.put, rA, rB, rC])
  refine wpPlan_nil (hT.out _ _ ?_); clear hT T
  intro vw6 hg
  simp only [puts, Act.put, rA, rB, rC, rD, rE, ↓reduceIte, Nat.reduceEqDiff]
  clear lx9
  have HG := Lib.hid (hg)
  clear hg
  replace BX9 := bG BX9 HG
  have r0 := Gr.refl vw6
  go_wp2
  refine hK.out _ _ ?_; clear hK K
  show Code.wp _ _ _ _ _
  clear r0
  refine forgetW (fun w2 => Bx w2 g 45 #[.bool (b0), (.slice ao0 k0 c0), .bool (b1), (.slice ao1 k1 c1), .bool (b2), (.slice ao2 k2 c2)] ∧ Below w.heap.size w w2) ⟨BX9.out, HB.out.trans (HG.out.mono HB.out.size)⟩ ?_
  clear HB HG BX9
  rintro Wx4 ⟨bx9, HB⟩
  replace HB := Lib.hid HB
  clear hd2
  refine wp_cond_true (by rfl) ?_
  have BX9 := Lib.hid bx9
  clear bx9
  refine sK fun K hK => ?_
  refine wp_region_seqplan 1 [(true, 0)] (by rfl) (by simp) (fun T hT => ?_)
  refine wpPlan_takeL (v := ?_) rfl (by rfl) (fun w' hw => ?_) ?_; rotate_left; go_simp; with_reducible rfl; simp only [Act.put, rA, rB, rC]
  refine wpPlan_nil (hT.out _ _ ?_); clear hT T
  intro vw7 hg
  simp only [puts, Act.put, rA, rB, rC, rD, rE, ↓reduceIte, Nat.reduceEqDiff]
  have HG := Lib.hid (hg)
  clear hg
  replace BX9 := bG BX9 HG
  have r0 := Gr.refl vw7
  go_wp2
  refine hK.out _ _ ?_; clear hK K
  show Code.wp _ _ _ _ _
  clear r0
  refine forgetW (fun w2 => Bx w2 g 45 #[.bool (b0), (.slice ao0 k0 c0), .bool (b1), (.slice ao1 k1 c1), .bool (b2), (.slice ao2 k2 c2)] ∧ Below w.heap.size w w2) ⟨BX9.out, HB.out.trans (HG.out.mono HB.out.size)⟩ ?_
  clear HB HG BX9
  rintro Wx5 ⟨bx9, HB⟩
  replace HB := Lib.hid HB
  refine wp_ret ?_
  try simp only [Exit.then, Exit.inBlock]
  have r0 := Gr.refl Wx5
  exact bodyPost_ret (v := .bool false) (by simp [results, Tryd.results14, go_sem]) rfl ⟨rfl, HB.out⟩

set_option maxRecDepth 20000 in
set_option maxHeartbeats 2000000 in
theorem few3_no2 (b0 : Bool) (ao0 : Option Addr) (k0 c0 : Nat) (b1 : Bool) (ao1 : Option Addr) (k1 c1 : Nat) (b2 : Bool) (ao2 : Option Addr) (k2 c2 : Nat) (C : Int) (g : Nat) (w : World) (bx9 : Bx w g 45 #[.bool (b0), (.slice ao0 k0 c0), .bool (b1), (.slice ao1 k1 c1), .bool (b2), (.slice ao2 k2 c2)]) (h0 : (k0 : Int) ≤ C) (h1 : (k1 : Int) ≤ C) (h2 : C < (k2 : Int)) :
    Calls Tryd.prog 14 #[.int .i64 C, .slice (some ⟨g, 0, none⟩) 3 3] w fun e w' => e = .returned (.bool false) ∧ Below w.heap.size w w' := by
  have hw1 : IntKind.i64.wrap 1 = 1 := by decide
  have hw2 : IntKind.i64.wrap 2 = 2 := by decide
  have hw3 : IntKind.i64.wrap 3 = 3 := by decide
  go_enter Tryd.func14, Tryd.ntmps14
  have e9 := bx9.lt
  refine sK fun K hK => ?_
  refine wp_region_lit ?_
  go_wp2
  refine hK.out _ _ ?_; clear hK K
  show Code.wp _ _ _ _ _
  refine forgetW (fun w2 => Bx w2 g 45 #[.bool (b0), (.slice ao0 k0 c0), .bool (b1), (.slice ao1 k1 c1), .bool (b2), (.slice ao2 k2 c2)] ∧ Below w.heap.size w w2) ⟨bx9, Below.refl _ _⟩ ?_
  clear bx9
  rintro Wx ⟨bx9, HB⟩
  replace HB := Lib.hid HB
  refine wp_seq ?_
  have BX9 := Lib.hid bx9
  clear bx9
  refine sK fun K hK => ?_
  refine wp_region_seqplan 1 [(true, 0)] (by rfl) (by simp) (fun T hT => ?_)
  refine wpPlan_takeL (v := ?_) rfl (by rfl) (fun w' hw => ?_) ?_; rotate_left; go_simp; with_reducible rfl; simp only [Act.put, rA, rB, rC]
  refine wpPlan_nil (hT.out _ _ ?_); clear hT T
  intro vw1 hg
  simp only [puts, Act.put, rA, rB, rC, rD, rE, ↓reduceIte, Nat.reduceEqDiff]
  have HG := Lib.hid (hg)
  clear hg
  replace BX9 := bG BX9 HG
  have r0 := Gr.refl vw1
  go_wp2
  refine hK.out _ _ ?_; clear hK K
  show Code.wp _ _ _ _ _
  clear r0
  refine forgetW (fun w2 => Bx w2 g 45 #[.bool (b0), (.slice ao0 k0 c0), .bool (b1), (.slice ao1 k1 c1), .bool (b2), (.slice ao2 k2 c2)] ∧ Below w.heap.size w w2) ⟨BX9.out, HB.out.trans (HG.out.mono HB.out.size)⟩ ?_
  clear HB HG BX9
  rintro Wx1 ⟨bx9, HB⟩
  replace HB := Lib.hid HB
  refine wp_block ?_
  refine wp_loop_rounds 12 ?_
  rw [rounds_succ]
  refine wp_seq ?_
  have BX9 := Lib.hid bx9
  clear bx9
  refine sK fun K hK => ?_
  refine wp_region_seqplan 4 [(true, 0), (true, 1), (true, 2), (true, 3)] (by rfl) (by simp) (fun T hT => ?_)
  iterate 4 (refine wpPlan_takeL (v := ?_) rfl (by rfl) (fun w' hw => ?_) ?_; rotate_left; go_simp; with_reducible rfl; simp only [Act.put, rA, rB, rC])
  refine wpPlan_nil (hT.out _ _ ?_); clear hT T
  intro vw2 hg
  simp only [puts, Act.put, rA, rB, rC, rD, rE, ↓reduceIte, Nat.reduceEqDiff]
  have HG := Lib.hid (hg)
  clear hg
  replace BX9 := bG BX9 HG
  have r0 := Gr.refl vw2
  go_wp2
  refine hK.out _ _ ?_; clear hK K
  show Code.wp _ _ _ _ _
  clear r0
  refine forgetW (fun w2 => Bx w2 g 45 #[.bool (b0), (.slice ao0 k0 c0), .bool (b1), (.slice ao1 k1 c1), .bool (b2), (.slice ao2 k2 c2)] ∧ Below w.heap.size w w2) ⟨BX9.out, HB.out.trans (HG.out.mono HB.out.size)⟩ ?_
  clear HB HG BX9
  rintro Wx2 ⟨bx9, HB⟩
  replace HB := Lib.hid HB
  refine wp_cond_true (by rfl) ?_
  refine wp_skip ?_
  show Code.wp _ _ _ _ _
  refine wp_seq ?_
  refine wp_block ?_
  have hd1 : ¬ (C < ((k0 : Int))) := by omega
  have lx9 := bx9.cells
  have BX9 := Lib.hid bx9
  clear bx9
  refine sK fun K hK => ?_
  refine wp_region_seqplan 8 [(true, 0), (true, 1), (true, 2), (true, 3), (true, 4), (true, 5), (true, 6), (true, 7)] (by rfl) (by simp) (fun T hT => ?_)
  iterate 8 (refine wpPlan_takeL (v := ?_) rfl (by rfl) (fun w' hw => ?_) ?_; rotate_left; go_simp; with_reducible rfl; simp only [Act.put, rA, rB, rC])
  refine wpPlan_nil (hT.out _ _ ?_); clear hT T
  intro vw3 hg
  simp only [puts, Act.put, rA, rB, rC, rD, rE, ↓reduceIte, Nat.reduceEqDiff]
  clear lx9
  have HG := Lib.hid (hg)
  clear hg
  replace BX9 := bG BX9 HG
  have r0 := Gr.refl vw3
  go_wp2
  refine hK.out _ _ ?_; clear hK K
  show Code.wp _ _ _ _ _
  clear r0
  refine forgetW (fun w2 => Bx w2 g 45 #[.bool (b0), (.slice ao0 k0 c0), .bool (b1), (.slice ao1 k1 c1), .bool (b2), (.slice ao2 k2 c2)] ∧ Below w.heap.size w w2) ⟨BX9.out, HB.out.trans (HG.out.mono HB.out.size)⟩ ?_
  clear HB HG BX9
  rintro Wx4 ⟨bx9, HB⟩
  replace HB := Lib.hid HB
  clear hd1
  refine wp_cond_false (by rfl) ?_
  refine wp_skip ?_
  show Code.wp _ _ _ _ _
  have BX9 := Lib.hid bx9
  clear bx9
  refine wp_last_k fun K hK => ?_
  replace hK := Lib.hid hK
  refine wp_region_seqplan 3 [(true, 0), (true, 1), (true, 2)] (by rfl) (by simp) (fun T hT => ?_)
  iterate 3 (refine wpPlan_takeL (v := ?_) rfl (by rfl) (fun w' hw => ?_) ?_; rotate_left; go_simp; with_reducible rfl; simp only [Act.put, rA, rB, rC])
  refine wpPlan_nil (hT.out _ _ ?_); clear hT T
  intro vw4 hg
  simp only [puts, Act.put, rA, rB, rC, rD, rE, ↓reduceIte, Nat.reduceEqDiff]
  have HG := Lib.hid (hg)
  clear hg
  replace BX9 := bG BX9 HG
  have r0 := Gr.refl vw4
  go_wp2
  refine hK.out _ _ ?_; clear hK K
  show Code.rounds _ _ _ _ _ _
  rw [rounds_succ]
  clear r0
  refine forgetW (fun w2 => Bx w2 g 45 #[.bool (b0), (.slice ao0 k0 c0), .bool (b1), (.slice ao1 k1 c1), .bool (b2), (.slice ao2 k2 c2)] ∧ Below w.heap.size w w2) ⟨BX9.out, HB.out.trans (HG.out.mono HB.out.size)⟩ ?_
  clear HB HG BX9
  rintro Wx3 ⟨bx9, HB⟩
  replace HB := Lib.hid HB
  refine wp_seq ?_
  have BX9 := Lib.hid bx9
  clear bx9
  refine sK fun K hK => ?_
  refine wp_region_seqplan 4 [(true, 0), (true, 1), (true, 2), (true, 3)] (by rfl) (by simp) (fun T hT => ?_)
  iterate 4 (refine wpPlan_takeL (v := ?_) rfl (by rfl) (fun w' hw => ?_) ?_; rotate_left; go_simp; with_reducible rfl; simp only [Act.put, rA, rB, rC])
  refine wpPlan_nil (hT.out _ _ ?_); clear hT T
  intro vw5 hg
  simp only [puts, Act.put, rA, rB, rC, rD, rE, ↓reduceIte, Nat.reduceEqDiff]
  have HG := Lib.hid (hg)
  clear hg
  replace BX9 := bG BX9 HG
  have r0 := Gr.refl vw5
  go_wp2
  refine hK.out _ _ ?_; clear hK K
  show Code.wp _ _ _ _ _
  clear r0
  refine forgetW (fun w2 => Bx w2 g 45 #[.bool (b0), (.slice ao0 k0 c0), .bool (b1), (.slice ao1 k1 c1), .bool (b2), (.slice ao2 k2 c2)] ∧ Below w.heap.size w w2) ⟨BX9.out, HB.out.trans (HG.out.mono HB.out.size)⟩ ?_
  clear HB HG BX9
  rintro Wx2 ⟨bx9, HB⟩
  replace HB := Lib.hid HB
  refine wp_cond_true (by rfl) ?_
  refine wp_skip ?_
  show Code.wp _ _ _ _ _
  refine wp_seq ?_
  refine wp_block ?_
  have hd2 : ¬ (C < ((k1 : Int))) := by omega
  have lx9 := bx9.cells
  have BX9 := Lib.hid bx9
  clear bx9
  refine sK fun K hK => ?_
  refine wp_region_seqplan 8 [(true, 0), (true, 1), (true, 2), (true, 3), (true, 4), (true, 5), (true, 6), (true, 7)] (by rfl) (by simp) (fun T hT => ?_)
  iterate 8 (refine wpPlan_takeL (v := ?_) rfl (by rfl) (fun w' hw => ?_) ?_; rotate_left; go_simp; with_reducible rfl; simp only [Act.put, rA, rB, rC])
  refine wpPlan_nil (hT.out _ _ ?_); clear hT T
  intro vw6 hg
  simp only [puts, Act.put, rA, rB, rC, rD, rE, ↓reduceIte, Nat.reduceEqDiff]
  clear lx9
  have HG := Lib.hid (hg)
  clear hg
  replace BX9 := bG BX9 HG
  have r0 := Gr.refl vw6
  go_wp2
  refine hK.out _ _ ?_; clear hK K
  show Code.wp _ _ _ _ _
  clear r0
  refine forgetW (fun w2 => Bx w2 g 45 #[.bool (b0), (.slice ao0 k0 c0), .bool (b1), (.slice ao1 k1 c1), .bool (b2), (.slice ao2 k2 c2)] ∧ Below w.heap.size w w2) ⟨BX9.out, HB.out.trans (HG.out.mono HB.out.size)⟩ ?_
  clear HB HG BX9
  rintro Wx4 ⟨bx9, HB⟩
  replace HB := Lib.hid HB
  clear hd2
  refine wp_cond_false (by rfl) ?_
  refine wp_skip ?_
  show Code.wp _ _ _ _ _
  have BX9 := Lib.hid bx9
  clear bx9
  refine wp_last_k fun K hK => ?_
  replace hK := Lib.hid hK
  refine wp_region_seqplan 3 [(true, 0), (true, 1), (true, 2)] (by rfl) (by simp) (fun T hT => ?_)
  iterate 3 (refine wpPlan_takeL (v := ?_) rfl (by rfl) (fun w' hw => ?_) ?_; rotate_left; go_simp; with_reducible rfl; simp only [Act.put, rA, rB, rC])
  refine wpPlan_nil (hT.out _ _ ?_); clear hT T
  intro vw7 hg
  simp only [puts, Act.put, rA, rB, rC, rD, rE, ↓reduceIte, Nat.reduceEqDiff]
  have HG := Lib.hid (hg)
  clear hg
  replace BX9 := bG BX9 HG
  have r0 := Gr.refl vw7
  go_wp2
  refine hK.out _ _ ?_; clear hK K
  show Code.rounds _ _ _ _ _ _
  rw [rounds_succ]
  clear r0
  refine forgetW (fun w2 => Bx w2 g 45 #[.bool (b0), (.slice ao0 k0 c0), .bool (b1), (.slice ao1 k1 c1), .bool (b2), (.slice ao2 k2 c2)] ∧ Below w.heap.size w w2) ⟨BX9.out, HB.out.trans (HG.out.mono HB.out.size)⟩ ?_
  clear HB HG BX9
  rintro Wx3 ⟨bx9, HB⟩
  replace HB := Lib.hid HB
  refine wp_seq ?_
  have BX9 := Lib.hid bx9
  clear bx9
  refine sK fun K hK => ?_
  refine wp_region_seqplan 4 [(true, 0), (true, 1), (true, 2), (true, 3)] (by rfl) (by simp) (fun T hT => ?_)
  iterate 4 (refine wpPlan_takeL (v := ?_) rfl (by rfl) (fun w' hw => ?_) ?_; rotate_left; go_simp; with_reducible rfl; simp only [Act.put, rA, rB, rC])
  refine wpPlan_nil (hT.out _ _ ?_); clear hT T
  intro vw8 hg
  simp only [puts, Act.put, rA, rB, rC, rD, rE, ↓reduceIte, Nat.reduceEqDiff]
  have HG := Lib.hid (hg)
  clear hg
  replace BX9 := bG BX9 HG
  have r0 := Gr.refl vw8
  go_wp2
  refine hK.out _ _ ?_; clear hK K
  show Code.wp _ _ _ _ _
  clear r0
  refine forgetW (fun w2 => Bx w2 g 45 #[.bool (b0), (.slice ao0 k0 c0), .bool (b1), (.slice ao1 k1 c1), .bool (b2), (.slice ao2 k2 c2)] ∧ Below w.heap.size w w2) ⟨BX9.out, HB.out.trans (HG.out.mono HB.out.size)⟩ ?_
  clear HB HG BX9
  rintro Wx2 ⟨bx9, HB⟩
  replace HB := Lib.hid HB
  refine wp_cond_true (by rfl) ?_
  refine wp_skip ?_
  show Code.wp _ _ _ _ _
  refine wp_seq ?_
  refine wp_block ?_
  have hd3 : C < ((k2 : Int)) := by omega
  have lx9 := bx9.cells
  have BX9 := Lib.hid bx9
  clear bx9
  refine sK fun K hK => ?_
  refine wp_region_seqplan 8 [(true, 0), (true, 1), (true, 2), (true, 3), (true, 4), (true, 5), (true, 6), (true, 7)] (by rfl) (by simp) (fun T hT => ?_)
  iterate 8 (refine wpPlan_takeL (v := ?_) rfl (by rfl) (fun w' hw => ?_) ?_; rotate_left; go_simp; with_reducible rfl; simp only [Act.put, rA, rB, rC])
  refine wpPlan_nil (hT.out _ _ ?_); clear hT T
  intro vw9 hg
  simp only [puts, Act.put, rA, rB, rC, rD, rE, ↓reduceIte, Nat.reduceEqDiff]
  clear lx9
  have HG := Lib.hid (hg)
  clear hg
  replace BX9 := bG BX9 HG
  have r0 := Gr.refl vw9
  go_wp2
  refine hK.out _ _ ?_; clear hK K
  show Code.wp _ _ _ _ _
  clear r0
  refine forgetW (fun w2 => Bx w2 g 45 #[.bool (b0), (.slice ao0 k0 c0), .bool (b1), (.slice ao1 k1 c1), .bool (b2), (.slice ao2 k2 c2)] ∧ Below w.heap.size w w2) ⟨BX9.out, HB.out.trans (HG.out.mono HB.out.size)⟩ ?_
  clear HB HG BX9
  rintro Wx4 ⟨bx9, HB⟩
  replace HB := Lib.hid HB
  clear hd3
  refine wp_cond_true (by rfl) ?_
  have BX9 := Lib.hid bx9
  clear bx9
  refine sK fun K hK => ?_
  refine wp_region_seqplan 1 [(true, 0)] (by rfl) (by simp) (fun T hT => ?_)
  refine wpPlan_takeL (v := ?_) rfl (by rfl) (fun w' hw => ?_) ?_; rotate_left; go_simp; with_reducible rfl; simp only [Act.put, rA, rB, rC]
  refine wpPlan_nil (hT.out _ _ ?_); clear hT T
  intro vw10 hg
  simp only [puts, Act.put, rA, rB, rC, rD, rE, ↓reduceIte, Nat.reduceEqDiff]
  have HG := Lib.hid (hg)
  clear hg
  replace BX9 := bG BX9 HG
  have r0 := Gr.refl vw10
  go_wp2
  refine hK.out _ _ ?_; clear hK K
  show Code.wp _ _ _ _ _
  clear r0
  refine forgetW (fun w2 => Bx w2 g 45 #[.bool (b0), (.slice ao0 k0 c0), .bool (b1), (.slice ao1 k1 c1), .bool (b2), (.slice ao2 k2 c2)] ∧ Below w.heap.size w w2) ⟨BX9.out, HB.out.trans (HG.out.mono HB.out.size)⟩ ?_
  clear HB HG BX9
  rintro Wx5 ⟨bx9, HB⟩
  replace HB := Lib.hid HB
  refine wp_ret ?_
  try simp only [Exit.then, Exit.inBlock]
  have r0 := Gr.refl Wx5
  exact bodyPost_ret (v := .bool false) (by simp [results, Tryd.results14, go_sem]) rfl ⟨rfl, HB.out⟩

set_option maxRecDepth 20000 in
set_option maxHeartbeats 2000000 in
theorem few3_ok (b0 : Bool) (ao0 : Option Addr) (k0 c0 : Nat) (b1 : Bool) (ao1 : Option Addr) (k1 c1 : Nat) (b2 : Bool) (ao2 : Option Addr) (k2 c2 : Nat) (C : Int) (g : Nat) (w : World) (bx9 : Bx w g 45 #[.bool (b0), (.slice ao0 k0 c0), .bool (b1), (.slice ao1 k1 c1), .bool (b2), (.slice ao2 k2 c2)]) (h0 : (k0 : Int) ≤ C) (h1 : (k1 : Int) ≤ C) (h2 : (k2 : Int) ≤ C) :
    Calls Tryd.prog 14 #[.int .i64 C, .slice (some ⟨g, 0, none⟩) 3 3] w fun e w' => e = .returned (.bool true) ∧ Below w.heap.size w w' := by
  have hw1 : IntKind.i64.wrap 1 = 1 := by decide
  have hw2 : IntKind.i64.wrap 2 = 2 := by decide
  have hw3 : IntKind.i64.wrap 3 = 3 := by decide
  go_enter Tryd.func14, Tryd.ntmps14
  have e9 := bx9.lt
  refine sK fun K hK => ?_
  refine wp_region_lit ?_
  go_wp2
  refine hK.out _ _ ?_; clear hK K
  show Code.wp _ _ _ _ _
  refine forgetW (fun w2 => Bx w2 g 45 #[.bool (b0), (.slice ao0 k0 c0), .bool (b1), (.slice ao1 k1 c1), .bool (b2), (.slice ao2 k2 c2)] ∧ Below w.heap.size w w2) ⟨bx9, Below.refl _ _⟩ ?_
  clear bx9
  rintro Wx ⟨bx9, HB⟩
  replace HB := Lib.hid HB
  refine wp_seq ?_
  have BX9 := Lib.hid bx9
  clear bx9
  refine sK fun K hK => ?_
  refine wp_region_seqplan 1 [(true, 0)] (by rfl) (by simp) (fun T hT => ?_)
  refine wpPlan_takeL (v := ?_) rfl (by rfl) (fun w' hw => ?_) ?_; rotate_left; go_simp; with_reducible rfl; simp only [Act.put, rA, rB, rC]
  refine wpPlan_nil (hT.out _ _ ?_); clear hT T
  intro vw1 hg
  simp only [puts, Act.put, rA, rB, rC, rD, rE, ↓reduceIte, Nat.reduceEqDiff]
  have HG := Lib.hid (hg)
  clear hg
  replace BX9 := bG BX9 HG
  have r0 := Gr.refl vw1
  go_wp2
  refine hK.out _ _ ?_; clear hK K
  show Code.wp _ _ _ _ _
  clear r0
  refine forgetW (fun w2 => Bx w2 g 45 #[.bool (b0), (.slice ao0 k0 c0), .bool (b1), (.slice ao1 k1 c1), .bool (b2), (.slice ao2 k2 c2)] ∧ Below w.heap.size w w2) ⟨BX9.out, HB.out.trans (HG.out.mono HB.out.size)⟩ ?_
  clear HB HG BX9
  rintro Wx1 ⟨bx9, HB⟩
  replace HB := Lib.hid HB
  refine wp_block ?_
  refine wp_loop_rounds 12 ?_
  rw [rounds_succ]
  refine wp_seq ?_
  have BX9 := Lib.hid bx9
  clear bx9
  refine sK fun K hK => ?_
  refine wp_region_seqplan 4 [(true, 0), (true, 1), (true, 2), (true, 3)] (by rfl) (by simp) (fun T hT => ?_)
  iterate 4 (refine wpPlan_takeL (v := ?_) rfl (by rfl) (fun w' hw => ?_) ?_; rotate_left; go_simp; with_reducible rfl; simp only [Act.put, rA, rB, rC])
  refine wpPlan_nil (hT.out _ _ ?_); clear hT T
  intro vw2 hg
  simp only [puts, Act.put, rA, rB, rC, rD, rE, ↓reduceIte, Nat.reduceEqDiff]
  have HG := Lib.hid (hg)
  clear hg
  replace BX9 := bG BX9 HG
  have r0 := Gr.refl vw2
  go_wp2
  refine hK.out _ _ ?_; clear hK K
  show Code.wp _ _ _ _ _
  clear r0
  refine forgetW (fun w2 => Bx w2 g 45 #[.bool (b0), (.slice ao0 k0 c0), .bool (b1), (.slice ao1 k1 c1), .bool (b2), (.slice ao2 k2 c2)] ∧ Below w.heap.size w w2) ⟨BX9.out, HB.out.trans (HG.out.mono HB.out.size)⟩ ?_
  clear HB HG BX9
  rintro Wx2 ⟨bx9, HB⟩
  replace HB := Lib.hid HB
  refine wp_cond_true (by rfl) ?_
  refine wp_skip ?_
  show Code.wp _ _ _ _ _
  refine wp_seq ?_
  refine wp_block ?_
  have hd1 : ¬ (C < ((k0 : Int))) := by omega
  have lx9 := bx9.cells
  have BX9 := Lib.hid bx9
  clear bx9
  refine sK fun K hK => ?_
  refine wp_region_seqplan 8 [(true, 0), (true, 1), (true, 2), (true, 3), (true, 4), (true, 5), (true, 6), (true, 7)] (by rfl) (by simp) (fun T hT => ?_)
  iterate 8 (refine wpPlan_takeL (v := ?_) rfl (by rfl) (fun w' hw => ?_) ?_; rotate_left; go_simp; with_reducible rfl; simp only [Act.put, rA, rB, rC])
  refine wpPlan_nil (hT.out _ _ ?_); clear hT T
  intro vw3 hg
  simp only [puts, Act.put, rA, rB, rC, rD, rE, ↓reduceIte, Nat.reduceEqDiff]
  clear lx9
  have HG := Lib.hid (hg)
  clear hg
  replace BX9 := bG BX9 HG
  have r0 := Gr.refl vw3
  go_wp2
  refine hK.out _ _ ?_; clear hK K
  show Code.wp _ _ _ _ _
  clear r0
  refine forgetW (fun w2 => Bx w2 g 45 #[.bool (b0), (.slice ao0 k0 c0), .bool (b1), (.slice ao1 k1 c1), .bool (b2), (.slice ao2 k2 c2)] ∧ Below w.heap.size w w2) ⟨BX9.out, HB.out.trans (HG.out.mono HB.out.size)⟩ ?_
  clear HB HG BX9
  rintro Wx4 ⟨bx9, HB⟩
  replace HB := Lib.hid HB
  clear hd1
  refine wp_cond_false (by rfl) ?_
  refine wp_skip ?_
  show Code.wp _ _ _ _ _
  have BX9 := Lib.hid bx9
  clear bx9
  refine wp_last_k fun K hK => ?_
  replace hK := Lib.hid hK
  refine wp_region_seqplan 3 [(true, 0), (true, 1), (true, 2)] (by rfl) (by simp) (fun T hT => ?_)
  iterate 3 (refine wpPlan_takeL (v := ?_) rfl (by rfl) (fun w' hw => ?_) ?_; rotate_left; go_simp; with_reducible rfl; simp only [Act.put, rA, rB, rC])
  refine wpPlan_nil (hT.out _ _ ?_); clear hT T
  intro vw4 hg
  simp only [puts, Act.put, rA, rB, rC, rD, rE, ↓reduceIte, Nat.reduceEqDiff]
  have HG := Lib.hid (hg)
  clear hg
  replace BX9 := bG BX9 HG
  have r0 := Gr.refl vw4
  go_wp2
  refine hK.out _ _ ?_; clear hK K
  show Code.rounds _ _ _ _ _ _
  rw [rounds_succ]
  clear r0
  refine forgetW (fun w2 => Bx w2 g 45 #[.bool (b0), (.slice ao0 k0 c0), .bool (b1), (.slice ao1 k1 c1), .bool (b2), (.slice ao2 k2 c2)] ∧ Below w.heap.size w w2) ⟨BX9.out, HB.out.trans (HG.out.mono HB.out.size)⟩ ?_
  clear HB HG BX9
  rintro Wx3 ⟨bx9, HB⟩
  replace HB := Lib.hid HB
  refine wp_seq ?_
  have BX9 := Lib.hid bx9
  clear bx9
  refine sK fun K hK => ?_
  refine wp_region_seqplan 4 [(true, 0), (true, 1), (true, 2), (true, 3)] (by rfl) (by simp) (fun T hT => ?_)
  iterate 4 (refine wpPlan_takeL (v := ?_) rfl (by rfl) (fun w' hw => ?_) ?_; rotate_left; go_simp; with_reducible rfl; simp only [Act.put, rA, rB, rC])
  refine wpPlan_nil (hT.out _ _ ?_); clear hT T
  intro vw5 hg
  simp only [puts, Act.put, rA, rB, rC, rD, rE, ↓reduceIte, Nat.reduceEqDiff]
  have HG := Lib.hid (hg)
  clear hg
  replace BX9 := bG BX9 HG
  have r0 := Gr.refl vw5
  go_wp2
  refine hK.out _ _ ?_; clear hK K
  show Code.wp _ _ _ _ _
  clear r0
  refine forgetW (fun w2 => Bx w2 g 45 #[.bool (b0), (.slice ao0 k0 c0), .bool (b1), (.slice ao1 k1 c1), .bool (b2), (.slice ao2 k2 c2)] ∧ Below w.heap.size w w2) ⟨BX9.out, HB.out.trans (HG.out.mono HB.out.size)⟩ ?_
  clear HB HG BX9
  rintro Wx2 ⟨bx9, HB⟩
  replace HB := Lib.hid HB
  refine wp_cond_true (by rfl) ?_
  refine wp_skip ?_
  show Code.wp _ _ _ _ _
  refine wp_seq ?_
  refine wp_block ?_
  have hd2 : ¬ (C < ((k1 : Int))) := by omega
  have lx9 := bx9.cells
  have BX9 := Lib.hid bx9
  clear bx9
  refine sK fun K hK => ?_
  refine wp_region_seqplan 8 [(true, 0), (true, 1), (true, 2), (true, 3), (true, 4), (true, 5), (true, 6), (true, 7)] (by rfl) (by simp) (fun T hT => ?_)
  iterate 8 (refine wpPlan_takeL (v := ?_) rfl (by rfl) (fun w' hw => ?_) ?_; rotate_left; go_simp; with_reducible rfl; simp only [Act.put, rA, rB, rC])
  refine wpPlan_nil (hT.out _ _ ?_); clear hT T
  intro vw6 hg
  simp only [puts, Act.put, rA, rB, rC, rD, rE, ↓reduceIte, Nat.reduceEqDiff]
  clear lx9
  have HG := Lib.hid (hg)
  clear hg
  replace BX9 := bG BX9 HG
  have r0 := Gr.refl vw6
  go_wp2
  refine hK.out _ _ ?_; clear hK K
  show Code.wp _ _ _ _ _
  clear r0
  refine forgetW (fun w2 => Bx w2 g 45 #[.bool (b0), (.slice ao0 k0 c0), .bool (b1), (.slice ao1 k1 c1), .bool (b2), (.slice ao2 k2 c2)] ∧ Below w.heap.size w w2) ⟨BX9.out, HB.out.trans (HG.out.mono HB.out.size)⟩ ?_
  clear HB HG BX9
  rintro Wx4 ⟨bx9, HB⟩
  replace HB := Lib.hid HB
  clear hd2
  refine wp_cond_false (by rfl) ?_
  refine wp_skip ?_
  show Code.wp _ _ _ _ _
  have BX9 := Lib.hid bx9
  clear bx9
  refine wp_last_k fun K hK => ?_
  replace hK := Lib.hid hK
  refine wp_region_seqplan 3 [(true, 0), (true, 1), (true, 2)] (by rfl) (by simp) (fun T hT => ?_)
  iterate 3 (refine wpPlan_takeL (v := ?_) rfl (by rfl) (fun w' hw => ?_) ?_; rotate_left; go_simp; with_reducible rfl; simp only [Act.put, rA, rB, rC])
  refine wpPlan_nil (hT.out _ _ ?_); clear hT T
  intro vw7 hg
  simp only [puts, Act.put, rA, rB, rC, rD, rE, ↓reduceIte, Nat.reduceEqDiff]
  have HG := Lib.hid (hg)
  clear hg
  replace BX9 := bG BX9 HG
  have r0 := Gr.refl vw7
  go_wp2
  refine hK.out _ _ ?_; clear hK K
  show Code.rounds _ _ _ _ _ _
  rw [rounds_succ]
  clear r0
  refine forgetW (fun w2 => Bx w2 g 45 #[.bool (b0), (.slice ao0 k0 c0), .bool (b1), (.slice ao1 k1 c1), .bool (b2), (.slice ao2 k2 c2)] ∧ Below w.heap.size w w2) ⟨BX9.out, HB.out.trans (HG.out.mono HB.out.size)⟩ ?_
  clear HB HG BX9
  rintro Wx3 ⟨bx9, HB⟩
  replace HB := Lib.hid HB
  refine wp_seq ?_
  have BX9 := Lib.hid bx9
  clear bx9
  refine sK fun K hK => ?_
  refine wp_region_seqplan 4 [(true, 0), (true, 1), (true, 2), (true, 3)] (by rfl) (by simp) (fun T hT => ?_)
  iterate 4 (refine wpPlan_takeL (v := ?_) rfl (by rfl) (fun w' hw => ?_) ?_; rotate_left; go_simp; with_reducible rfl; simp only [Act.put, rA, rB, rC])
  refine wpPlan_nil (hT.out _ _ ?_); clear hT T
  intro vw8 hg
  simp only [puts, Act.put, rA, rB, rC, rD, rE, ↓reduceIte, Nat.reduceEqDiff]
  have HG := Lib.hid (hg)
  clear hg
  replace BX9 := bG BX9 HG
  have r0 := Gr.refl vw8
  go_wp2
  refine hK.out _ _ ?_; clear hK K
  show Code.wp _ _ _ _ _
  clear r0
  refine forgetW (fun w2 => Bx w2 g 45 #[.bool (b0), (.slice ao0 k0 c0), .bool (b1), (.slice ao1 k1 c1), .bool (b2), (.slice ao2 k2 c2)] ∧ Below w.heap.size w w2) ⟨BX9.out, HB.out.trans (HG.out.mono HB.out.size)⟩ ?_
  clear HB HG BX9
  rintro Wx2 ⟨bx9, HB⟩
  replace HB := Lib.hid HB
  refine wp_cond_true (by rfl) ?_
  refine wp_skip ?_
  show Code.wp _ _ _ _ _
  refine wp_seq ?_
  refine wp_block ?_
  have hd3 : ¬ (C < ((k2 : Int))) := by omega
  have lx9 := bx9.cells
  have BX9 := Lib.hid bx9
  clear bx9
  refine sK fun K hK => ?_
  refine wp_region_seqplan 8 [(true, 0), (true, 1), (true, 2), (true, 3), (true, 4), (true, 5), (true, 6), (true, 7)] (by rfl) (by simp) (fun T hT => ?_)
  iterate 8 (refine wpPlan_takeL (v := ?_) rfl (by rfl) (fun w' hw => ?_) ?_; rotate_left; go_simp; with_reducible rfl; simp only [Act.put, rA, rB, rC])
  refine wpPlan_nil (hT.out _ _ ?_); clear hT T
  intro vw9 hg
  simp only [puts, Act.put, rA, rB, rC, rD, rE, ↓reduceIte, Nat.reduceEqDiff]
  clear lx9
  have HG := Lib.hid (hg)
  clear hg
  replace BX9 := bG BX9 HG
  have r0 := Gr.refl vw9
  go_wp2
  refine hK.out _ _ ?_; clear hK K
  show Code.wp _ _ _ _ _
  clear r0
  refine forgetW (fun w2 => Bx w2 g 45 #[.bool (b0), (.slice ao0 k0 c0), .bool (b1), (.slice ao1 k1 c1), .bool (b2), (.slice ao2 k2 c2)] ∧ Below w.heap.size w w2) ⟨BX9.out, HB.out.trans (HG.out.mono HB.out.size)⟩ ?_
  clear HB HG BX9
  rintro Wx4 ⟨bx9, HB⟩
  replace HB := Lib.hid HB
  clear hd3
  refine wp_cond_false (by rfl) ?_
  refine wp_skip ?_
  show Code.wp _ _ _ _ _
  have BX9 := Lib.hid bx9
  clear bx9
  refine wp_last_k fun K hK => ?_
  replace hK := Lib.hid hK
  refine wp_region_seqplan 3 [(true, 0), (true, 1), (true, 2)] (by rfl) (by simp) (fun T hT => ?_)
  iterate 3 (refine wpPlan_takeL (v := ?_) rfl (by rfl) (fun w' hw => ?_) ?_; rotate_left; go_simp; with_reducible rfl; simp only [Act.put, rA, rB, rC])
  refine wpPlan_nil (hT.out _ _ ?_); clear hT T
  intro vw10 hg
  simp only [puts, Act.put, rA, rB, rC, rD, rE, ↓reduceIte, Nat.reduceEqDiff]
  have HG := Lib.hid (hg)
  clear hg
  replace BX9 := bG BX9 HG
  have r0 := Gr.refl vw10
  go_wp2
  refine hK.out _ _ ?_; clear hK K
  show Code.rounds _ _ _ _ _ _
  rw [rounds_succ]
  clear r0
  refine forgetW (fun w2 => Bx w2 g 45 #[.bool (b0), (.slice ao0 k0 c0), .bool (b1), (.slice ao1 k1 c1), .bool (b2), (.slice ao2 k2 c2)] ∧ Below w.heap.size w w2) ⟨BX9.out, HB.out.trans (HG.out.mono HB.out.size)⟩ ?_
  clear HB HG BX9
  rintro Wx3 ⟨bx9, HB⟩
  replace HB := Lib.hid HB
  refine wp_seq ?_
  have BX9 := Lib.hid bx9
  clear bx9
  refine sK fun K hK => ?_
  refine wp_region_seqplan 4 [(true, 0), (true, 1), (true, 2), (true, 3)] (by rfl) (by simp) (fun T hT => ?_)
  iterate 4 (refine wpPlan_takeL (v := ?_) rfl (by rfl) (fun w' hw => ?_) ?_; rotate_left; go_simp; with_reducible rfl; simp only [Act.put, rA, rB, rC])
  refine wpPlan_nil (hT.out _ _ ?_); clear hT T
  intro vw11 hg
  simp only [puts, Act.put, rA, rB, rC, rD, rE, ↓reduceIte, Nat.reduceEqDiff]
  have HG := Lib.hid (hg)
  clear hg
  replace BX9 := bG BX9 HG
  have r0 := Gr.refl vw11
  go_wp2
  refine hK.out _ _ ?_; clear hK K
  show Code.wp _ _ _ _ _
  clear r0
  refine forgetW (fun w2 => Bx w2 g 45 #[.bool (b0), (.slice ao0 k0 c0), .bool (b1), (.slice ao1 k1 c1), .bool (b2), (.slice ao2 k2 c2)] ∧ Below w.heap.size w w2) ⟨BX9.out, HB.out.trans (HG.out.mono HB.out.size)⟩ ?_
  clear HB HG BX9
  rintro Wx2 ⟨bx9, HB⟩
  replace HB := Lib.hid HB
  refine wp_cond_false (by rfl) ?_
  refine wp_exit ?_
  show Code.wp _ _ _ _ _
  have BX9 := Lib.hid bx9
  clear bx9
  refine sK fun K hK => ?_
  refine wp_region_seqplan 1 [(true, 0)] (by rfl) (by simp) (fun T hT => ?_)
  refine wpPlan_takeL (v := ?_) rfl (by rfl) (fun w' hw => ?_) ?_; rotate_left; go_simp; with_reducible rfl; simp only [Act.put, rA, rB, rC]
  refine wpPlan_nil (hT.out _ _ ?_); clear hT T
  intro vw12 hg
  simp only [puts, Act.put, rA, rB, rC, rD, rE, ↓reduceIte, Nat.reduceEqDiff]
  have HG := Lib.hid (hg)
  clear hg
  replace BX9 := bG BX9 HG
  have r0 := Gr.refl vw12
  go_wp2
  refine hK.out _ _ ?_; clear hK K
  show Code.wp _ _ _ _ _
  clear r0
  refine forgetW (fun w2 => Below w.heap.size w w2) (HB.out.trans (HG.out.mono HB.out.size)) ?_
  clear HB HG BX9
  rintro Wx6 HB
  replace HB := Lib.hid HB
  refine wp_ret ?_
  try simp only [Exit.then, Exit.inBlock]
  have r0 := Gr.refl Wx6
  exact bodyPost_ret (v := .bool true) (by simp [results, Tryd.results14, go_sem]) rfl ⟨rfl, HB.out⟩

end Go.Proofs.YtflhpdlecpehkaaDoor
