/- Parts of the row's proof: 3 texts in one. No condition but those stated. -/
import Derived.Test.YtenpbnmmadbkdaaGreatG4

/- points: least, greatest. -/
namespace Go.Proofs.YtenpbnmmadbkdaaGreat
open Go.RowKit
set_option linter.unusedSimpArgs false
set_option linter.unusedVariables false
attribute [local go_sem ↓] Go.wp_at_zero Go.wp_at_succ
set_option maxHeartbeats 1000000 in
theorem pleast_true (a1 a2 b1 b2 : Rat) (g : Nat) (w : World) (bx9 : Bx w g 38 #[.int .u64 (lo b1.num.natAbs), .string (bg b1.num.natAbs), .bool (decide (b1.num < 0)), .int .u64 (lo (b1.den - 1)), .string (bg (b1.den - 1)), .int .u64 (lo b2.num.natAbs), .string (bg b2.num.natAbs), .bool (decide (b2.num < 0)), .int .u64 (lo (b2.den - 1)), .string (bg (b2.den - 1))]) (h : Hid (plt b1 b2 a1 a2 = true)) (hs_a1 : sz a1 ≤ 10000000000) (hs_a2 : sz a2 ≤ 10000000000) (hs_b1 : sz b1 ≤ 10000000000) (hs_b2 : sz b2 ≤ 10000000000) :
    Calls Tryz.prog 22 #[(Value.agg #[.int .u64 (lo a1.num.natAbs), .string (bg a1.num.natAbs), .bool (decide (a1.num < 0)), .int .u64 (lo (a1.den - 1)), .string (bg (a1.den - 1)), .int .u64 (lo a2.num.natAbs), .string (bg a2.num.natAbs), .bool (decide (a2.num < 0)), .int .u64 (lo (a2.den - 1)), .string (bg (a2.den - 1))]), (Value.slice (some ⟨g, 0, none⟩) 1 1)] w fun e w' => e = .returned (.agg #[.int .u64 (lo b1.num.natAbs), .string (bg b1.num.natAbs), .bool (decide (b1.num < 0)), .int .u64 (lo (b1.den - 1)), .string (bg (b1.den - 1)), .int .u64 (lo b2.num.natAbs), .string (bg b2.num.natAbs), .bool (decide (b2.num < 0)), .int .u64 (lo (b2.den - 1)), .string (bg (b2.den - 1))]) ∧ Below w.heap.size w w' := by
  go_enter Tryz.func22, Tryz.ntmps22
  have e9 := bx9.lt
  -- region 0
  refine wp_seq_k fun K hK => ?_
  replace hK := Lib.hid hK
  refine wp_region_lit ?_
  go_wp2
  refine hK.out _ _ ?_; clear hK K
  show Code.wp _ _ _ _ _
  refine forgetW (fun w2 => Bx w2 g 38 #[.int .u64 (lo b1.num.natAbs), .string (bg b1.num.natAbs), .bool (decide (b1.num < 0)), .int .u64 (lo (b1.den - 1)), .string (bg (b1.den - 1)), .int .u64 (lo b2.num.natAbs), .string (bg b2.num.natAbs), .bool (decide (b2.num < 0)), .int .u64 (lo (b2.den - 1)), .string (bg (b2.den - 1))] ∧ Bx w2 (w.heap.size) 38 #[.int .u64 (lo a1.num.natAbs), .string (bg a1.num.natAbs), .bool (decide (a1.num < 0)), .int .u64 (lo (a1.den - 1)), .string (bg (a1.den - 1)), .int .u64 (lo a2.num.natAbs), .string (bg a2.num.natAbs), .bool (decide (a2.num < 0)), .int .u64 (lo (a2.den - 1)), .string (bg (a2.den - 1))] ∧ Bx w2 (w.heap.size + 1) 38 #[.int .u64 0, .string ⟨#[]⟩, .bool false, .int .u64 0, .string ⟨#[]⟩, .int .u64 0, .string ⟨#[]⟩, .bool false, .int .u64 0, .string ⟨#[]⟩] ∧ Below w.heap.size w w2) ⟨((bx9).alloc _).alloc _, (Bx.at rfl).alloc _, Bx.at (by simp), ((Below.refl _ _).alloc (Nat.le_refl _) _).alloc (by simp) _⟩ ?_
  clear bx9
  rintro Wx ⟨bx9, bx10, bx11, HB⟩
  replace HB := Lib.hid HB
  refine wp_seq ?_
  -- region 1
  have BX9 := Lib.hid bx9
  have BX10 := Lib.hid bx10
  have BX11 := Lib.hid bx11
  clear bx9 bx10 bx11
  refine wp_seq_k fun K hK => ?_
  replace hK := Lib.hid hK
  refine wp_region_seqplan 3 [(true, 0), (true, 1), (true, 2)] (by rfl) (by simp) (fun T hT => ?_)
  iterate 3
    refine wpPlan_takeL (v := ?_) rfl (by rfl) (fun w' hw => ?_) ?_
    rotate_left
    · go_simp
      with_reducible rfl
    simp only [Act.put, rA, rB, rC]
  refine wpPlan_nil (hT.out _ _ ?_); clear hT T
  intro vw1 hg
  simp only [puts, Act.put, rA, rB, rC, rD, rE, ↓reduceIte, Nat.reduceEqDiff]
  have HG := Lib.hid (hg)
  clear hg
  replace BX9 := bG BX9 HG
  replace BX10 := bG BX10 HG
  replace BX11 := bG BX11 HG
  have r0 := Gr.refl vw1
  go_wp2
  refine hK.out _ _ ?_; clear hK K
  show Code.wp _ _ _ _ _
  clear r0
  refine forgetW (fun w2 => Bx w2 g 38 #[.int .u64 (lo b1.num.natAbs), .string (bg b1.num.natAbs), .bool (decide (b1.num < 0)), .int .u64 (lo (b1.den - 1)), .string (bg (b1.den - 1)), .int .u64 (lo b2.num.natAbs), .string (bg b2.num.natAbs), .bool (decide (b2.num < 0)), .int .u64 (lo (b2.den - 1)), .string (bg (b2.den - 1))] ∧ Bx w2 (w.heap.size) 38 #[.int .u64 (lo a1.num.natAbs), .string (bg a1.num.natAbs), .bool (decide (a1.num < 0)), .int .u64 (lo (a1.den - 1)), .string (bg (a1.den - 1)), .int .u64 (lo a2.num.natAbs), .string (bg a2.num.natAbs), .bool (decide (a2.num < 0)), .int .u64 (lo (a2.den - 1)), .string (bg (a2.den - 1))] ∧ Bx w2 (w.heap.size + 1) 38 #[.int .u64 0, .string ⟨#[]⟩, .bool false, .int .u64 0, .string ⟨#[]⟩, .int .u64 0, .string ⟨#[]⟩, .bool false, .int .u64 0, .string ⟨#[]⟩] ∧ Below w.heap.size w w2) ⟨BX9.out, BX10.out, BX11.out, HB.out.trans (HG.out.mono HB.out.size)⟩ ?_
  clear HB HG BX9 BX10 BX11
  rintro Wx1 ⟨bx9, bx10, bx11, HB⟩
  replace HB := Lib.hid HB
  refine wp_block ?_
  refine wp_loop_rounds 12 ?_
  rw [rounds_succ]
  -- region 2
  have BX9 := Lib.hid bx9
  have BX10 := Lib.hid bx10
  have BX11 := Lib.hid bx11
  clear bx9 bx10 bx11
  refine wp_seq_k fun K hK => ?_
  replace hK := Lib.hid hK
  refine wp_region_seqplan 1 [(true, 0)] (by rfl) (by simp) (fun T hT => ?_)
  iterate 1
    refine wpPlan_takeL (v := ?_) rfl (by rfl) (fun w' hw => ?_) ?_
    rotate_left
    · go_simp
      with_reducible rfl
    simp only [Act.put, rA, rB, rC]
  refine wpPlan_nil (hT.out _ _ ?_); clear hT T
  intro vw2 hg
  simp only [puts, Act.put, rA, rB, rC, rD, rE, ↓reduceIte, Nat.reduceEqDiff]
  have HG := Lib.hid (hg)
  clear hg
  replace BX9 := bG BX9 HG
  replace BX10 := bG BX10 HG
  replace BX11 := bG BX11 HG
  have r0 := Gr.refl vw2
  go_wp2
  refine hK.out _ _ ?_; clear hK K
  show Code.wp _ _ _ _ _
  clear r0
  refine forgetW (fun w2 => Bx w2 g 38 #[.int .u64 (lo b1.num.natAbs), .string (bg b1.num.natAbs), .bool (decide (b1.num < 0)), .int .u64 (lo (b1.den - 1)), .string (bg (b1.den - 1)), .int .u64 (lo b2.num.natAbs), .string (bg b2.num.natAbs), .bool (decide (b2.num < 0)), .int .u64 (lo (b2.den - 1)), .string (bg (b2.den - 1))] ∧ Bx w2 (w.heap.size) 38 #[.int .u64 (lo a1.num.natAbs), .string (bg a1.num.natAbs), .bool (decide (a1.num < 0)), .int .u64 (lo (a1.den - 1)), .string (bg (a1.den - 1)), .int .u64 (lo a2.num.natAbs), .string (bg a2.num.natAbs), .bool (decide (a2.num < 0)), .int .u64 (lo (a2.den - 1)), .string (bg (a2.den - 1))] ∧ Bx w2 (w.heap.size + 1) 38 #[.int .u64 0, .string ⟨#[]⟩, .bool false, .int .u64 0, .string ⟨#[]⟩, .int .u64 0, .string ⟨#[]⟩, .bool false, .int .u64 0, .string ⟨#[]⟩] ∧ Below w.heap.size w w2) ⟨BX9.out, BX10.out, BX11.out, HB.out.trans (HG.out.mono HB.out.size)⟩ ?_
  clear HB HG BX9 BX10 BX11
  rintro Wx2 ⟨bx9, bx10, bx11, HB⟩
  replace HB := Lib.hid HB
  refine wp_seq ?_
  refine wp_cond_true (by rfl) ?_
  refine wp_skip ?_
  show Code.wp _ _ _ _ _
  refine wp_seq ?_
  refine wp_block ?_
  -- region 3
  have lx9 := bx9.cells
  have BX9 := Lib.hid bx9
  have BX10 := Lib.hid bx10
  have BX11 := Lib.hid bx11
  clear bx9 bx10 bx11
  refine wp_seq_k fun K hK => ?_
  replace hK := Lib.hid hK
  refine wp_region_seqplan 2 [(true, 0), (true, 1)] (by rfl) (by simp) (fun T hT => ?_)
  iterate 2
    refine wpPlan_takeL (v := ?_) rfl (by rfl) (fun w' hw => ?_) ?_
    rotate_left
    · go_simp
      with_reducible rfl
    simp only [Act.put, rA, rB, rC]
  refine wpPlan_nil (hT.out _ _ ?_); clear hT T
  intro vw3 hg
  simp only [puts, Act.put, rA, rB, rC, rD, rE, ↓reduceIte, Nat.reduceEqDiff]
  clear lx9
  have HG := Lib.hid (hg)
  clear hg
  replace BX9 := bG BX9 HG
  replace BX10 := bG BX10 HG
  replace BX11 := bG BX11 HG
  have r0 := Gr.refl vw3
  go_wp2
  refine hK.out _ _ ?_; clear hK K
  show Code.wp _ _ _ _ _
  clear r0
  have hsz : w.heap.size ≤ vw3.heap.size := Nat.le_trans HB.out.size HG.out.size
  have mx9 : g < vw3.heap.size := BX9.out.lt
  have mx10 : w.heap.size < vw3.heap.size := BX10.out.lt
  have mx11 : w.heap.size + 1 < vw3.heap.size := BX11.out.lt
  refine forgetW (fun w2 => Bx w2 g 38 #[.int .u64 (lo b1.num.natAbs), .string (bg b1.num.natAbs), .bool (decide (b1.num < 0)), .int .u64 (lo (b1.den - 1)), .string (bg (b1.den - 1)), .int .u64 (lo b2.num.natAbs), .string (bg b2.num.natAbs), .bool (decide (b2.num < 0)), .int .u64 (lo (b2.den - 1)), .string (bg (b2.den - 1))] ∧ Bx w2 (w.heap.size) 38 #[.int .u64 (lo a1.num.natAbs), .string (bg a1.num.natAbs), .bool (decide (a1.num < 0)), .int .u64 (lo (a1.den - 1)), .string (bg (a1.den - 1)), .int .u64 (lo a2.num.natAbs), .string (bg a2.num.natAbs), .bool (decide (a2.num < 0)), .int .u64 (lo (a2.den - 1)), .string (bg (a2.den - 1))] ∧ Bx w2 (w.heap.size + 1) 38 #[.int .u64 0, .string ⟨#[]⟩, .bool false, .int .u64 0, .string ⟨#[]⟩, .int .u64 0, .string ⟨#[]⟩, .bool false, .int .u64 0, .string ⟨#[]⟩] ∧ Bx w2 (vw3.heap.size) 38 #[.int .u64 (lo b1.num.natAbs), .string (bg b1.num.natAbs), .bool (decide (b1.num < 0)), .int .u64 (lo (b1.den - 1)), .string (bg (b1.den - 1)), .int .u64 (lo b2.num.natAbs), .string (bg b2.num.natAbs), .bool (decide (b2.num < 0)), .int .u64 (lo (b2.den - 1)), .string (bg (b2.den - 1))] ∧ Below w.heap.size w w2) ⟨(BX9.out).alloc _, (BX10.out).alloc _, (BX11.out).alloc _, (Bx.at (by simp) : Bx _ (vw3.heap.size) _ _), (HB.out.trans (HG.out.mono HB.out.size)).alloc (by first | omega | (simp; omega)) _⟩ ?_
  clear HB HG BX9 BX10 BX11
  rintro Wx3 ⟨bx9, bx10, bx11, bx12, HB⟩
  replace HB := Lib.hid HB
  have yx12 : w.heap.size ≤ vw3.heap.size := by omega
  have qx9_12 : g < vw3.heap.size := by omega
  have qx10_12 : w.heap.size < vw3.heap.size := by omega
  have qx11_12 : w.heap.size + 1 < vw3.heap.size := by omega
  generalize hx12 : vw3.heap.size = gx12 at *
  clear hx12
  clear hsz mx9 mx10 mx11
  -- region 4
  have lx10 := bx10.cells
  have lx12 := bx12.cells
  have BX9 := Lib.hid bx9
  have BX10 := Lib.hid bx10
  have BX11 := Lib.hid bx11
  have BX12 := Lib.hid bx12
  clear bx9 bx10 bx11 bx12
  refine wp_seq_k fun K hK => ?_
  replace hK := Lib.hid hK
  refine wp_region_seqplan 3 [(true, 0), (true, 1), (true, 2)] (by rfl) (by simp) (fun T hT => ?_)
  iterate 2
    refine wpPlan_takeL (v := ?_) rfl (by rfl) (fun w' hw => ?_) ?_
    rotate_left
    · go_simp
      with_reducible rfl
    simp only [Act.put, rA, rB, rC]
  refine wpPlan_callL rfl (by rfl) Tryz.call21 (fun w' hw => pless_any (b1) (b2) (a1) (a2) true _ (h.out) (by omega) (by omega) (by omega) (by omega)) (by rfl) ?_
  simp only [Act.put, rA, rB, rC]
  refine wpPlan_nil (hT.out _ _ ?_); clear hT T
  intro vw4 hg
  simp only [puts, Act.put, rA, rB, rC, rD, rE, ↓reduceIte, Nat.reduceEqDiff]
  clear lx10 lx12
  have HG := Lib.hid (hg)
  clear hg
  replace BX9 := bG BX9 HG
  replace BX10 := bG BX10 HG
  replace BX11 := bG BX11 HG
  replace BX12 := bG BX12 HG
  have r0 := Gr.refl vw4
  go_wp2
  refine hK.out _ _ ?_; clear hK K
  show Code.wp _ _ _ _ _
  clear r0
  refine forgetW (fun w2 => Bx w2 g 38 #[.int .u64 (lo b1.num.natAbs), .string (bg b1.num.natAbs), .bool (decide (b1.num < 0)), .int .u64 (lo (b1.den - 1)), .string (bg (b1.den - 1)), .int .u64 (lo b2.num.natAbs), .string (bg b2.num.natAbs), .bool (decide (b2.num < 0)), .int .u64 (lo (b2.den - 1)), .string (bg (b2.den - 1))] ∧ Bx w2 (w.heap.size) 38 #[.int .u64 (lo a1.num.natAbs), .string (bg a1.num.natAbs), .bool (decide (a1.num < 0)), .int .u64 (lo (a1.den - 1)), .string (bg (a1.den - 1)), .int .u64 (lo a2.num.natAbs), .string (bg a2.num.natAbs), .bool (decide (a2.num < 0)), .int .u64 (lo (a2.den - 1)), .string (bg (a2.den - 1))] ∧ Bx w2 (w.heap.size + 1) 38 #[.int .u64 0, .string ⟨#[]⟩, .bool false, .int .u64 0, .string ⟨#[]⟩, .int .u64 0, .string ⟨#[]⟩, .bool false, .int .u64 0, .string ⟨#[]⟩] ∧ Bx w2 gx12 38 #[.int .u64 (lo b1.num.natAbs), .string (bg b1.num.natAbs), .bool (decide (b1.num < 0)), .int .u64 (lo (b1.den - 1)), .string (bg (b1.den - 1)), .int .u64 (lo b2.num.natAbs), .string (bg b2.num.natAbs), .bool (decide (b2.num < 0)), .int .u64 (lo (b2.den - 1)), .string (bg (b2.den - 1))] ∧ Below w.heap.size w w2) ⟨BX9.out, BX10.out, BX11.out, BX12.out, HB.out.trans (HG.out.mono HB.out.size)⟩ ?_
  clear HB HG BX9 BX10 BX11 BX12
  rintro Wx4 ⟨bx9, bx10, bx11, bx12, HB⟩
  replace HB := Lib.hid HB
  refine wp_cond_true (by rfl) ?_
  -- region 5
  have lx12 := bx12.cells
  have BX9 := Lib.hid bx9
  have BX10 := Lib.hid bx10
  have BX11 := Lib.hid bx11
  have BX12 := Lib.hid bx12
  clear bx9 bx10 bx11 bx12
  refine wp_last_k fun K hK => ?_
  replace hK := Lib.hid hK
  refine wp_region_seqplan 1 [(true, 0)] (by rfl) (by simp) (fun T hT => ?_)
  iterate 1
    refine wpPlan_takeL (v := ?_) rfl (by rfl) (fun w' hw => ?_) ?_
    rotate_left
    · go_simp
      with_reducible rfl
    simp only [Act.put, rA, rB, rC]
  refine wpPlan_nil (hT.out _ _ ?_); clear hT T
  intro vw5 hg
  simp only [puts, Act.put, rA, rB, rC, rD, rE, ↓reduceIte, Nat.reduceEqDiff]
  clear lx12
  have HG := Lib.hid (hg)
  clear hg
  replace BX9 := bG BX9 HG
  replace BX10 := bG BX10 HG
  replace BX11 := bG BX11 HG
  replace BX12 := bG BX12 HG
  have lx10 := BX10.out.cells; have fx10 := BX10.out.free
  have r0 := Gr.refl vw5
  go_wp2
  refine hK.out _ _ ?_; clear hK K
  show Code.wp _ _ _ _ _
  clear lx10 fx10
  clear r0
  refine forgetW (fun w2 => Bx w2 g 38 #[.int .u64 (lo b1.num.natAbs), .string (bg b1.num.natAbs), .bool (decide (b1.num < 0)), .int .u64 (lo (b1.den - 1)), .string (bg (b1.den - 1)), .int .u64 (lo b2.num.natAbs), .string (bg b2.num.natAbs), .bool (decide (b2.num < 0)), .int .u64 (lo (b2.den - 1)), .string (bg (b2.den - 1))] ∧ Bx w2 (w.heap.size) 38 #[.int .u64 (lo b1.num.natAbs), .string (bg b1.num.natAbs), .bool (decide (b1.num < 0)), .int .u64 (lo (b1.den - 1)), .string (bg (b1.den - 1)), .int .u64 (lo b2.num.natAbs), .string (bg b2.num.natAbs), .bool (decide (b2.num < 0)), .int .u64 (lo (b2.den - 1)), .string (bg (b2.den - 1))] ∧ Bx w2 (w.heap.size + 1) 38 #[.int .u64 0, .string ⟨#[]⟩, .bool false, .int .u64 0, .string ⟨#[]⟩, .int .u64 0, .string ⟨#[]⟩, .bool false, .int .u64 0, .string ⟨#[]⟩] ∧ Bx w2 gx12 38 #[.int .u64 (lo b1.num.natAbs), .string (bg b1.num.natAbs), .bool (decide (b1.num < 0)), .int .u64 (lo (b1.den - 1)), .string (bg (b1.den - 1)), .int .u64 (lo b2.num.natAbs), .string (bg b2.num.natAbs), .bool (decide (b2.num < 0)), .int .u64 (lo (b2.den - 1)), .string (bg (b2.den - 1))] ∧ Below w.heap.size w w2) ⟨so10 (BX9.out) (by show g ≠ w.heap.size; omega), (((((((((((BX10.out).set 0 _).set 1 _).set 2 _).set 3 _).set 4 _).set 5 _).set 6 _).set 7 _).set 8 _).set 9 _).eq (by simp only [rA, rB, rC]), so10 (BX11.out) (by show w.heap.size + 1 ≠ w.heap.size; omega), so10 (BX12.out) (by show gx12 ≠ w.heap.size; omega), sc10 (HB.out.trans (HG.out.mono HB.out.size)) (by show w.heap.size ≤ w.heap.size; omega)⟩ ?_
  clear HB HG BX9 BX10 BX11 BX12
  rintro Wx5 ⟨bx9, bx10, bx11, bx12, HB⟩
  replace HB := Lib.hid HB
  -- region 6
  have BX9 := Lib.hid bx9
  have BX10 := Lib.hid bx10
  have BX11 := Lib.hid bx11
  have BX12 := Lib.hid bx12
  clear bx9 bx10 bx11 bx12
  refine wp_last_k fun K hK => ?_
  replace hK := Lib.hid hK
  refine wp_region_seqplan 2 [(true, 0), (true, 1)] (by rfl) (by simp) (fun T hT => ?_)
  iterate 2
    refine wpPlan_takeL (v := ?_) rfl (by rfl) (fun w' hw => ?_) ?_
    rotate_left
    · go_simp
      with_reducible rfl
    simp only [Act.put, rA, rB, rC]
  refine wpPlan_nil (hT.out _ _ ?_); clear hT T
  intro vw6 hg
  simp only [puts, Act.put, rA, rB, rC, rD, rE, ↓reduceIte, Nat.reduceEqDiff]
  have HG := Lib.hid (hg)
  clear hg
  replace BX9 := bG BX9 HG
  replace BX10 := bG BX10 HG
  replace BX11 := bG BX11 HG
  replace BX12 := bG BX12 HG
  have r0 := Gr.refl vw6
  go_wp2
  refine hK.out _ _ ?_; clear hK K
  show Code.rounds _ _ _ _ _ _
  rw [rounds_succ]
  clear r0
  refine forgetW (fun w2 => Bx w2 g 38 #[.int .u64 (lo b1.num.natAbs), .string (bg b1.num.natAbs), .bool (decide (b1.num < 0)), .int .u64 (lo (b1.den - 1)), .string (bg (b1.den - 1)), .int .u64 (lo b2.num.natAbs), .string (bg b2.num.natAbs), .bool (decide (b2.num < 0)), .int .u64 (lo (b2.den - 1)), .string (bg (b2.den - 1))] ∧ Bx w2 (w.heap.size) 38 #[.int .u64 (lo b1.num.natAbs), .string (bg b1.num.natAbs), .bool (decide (b1.num < 0)), .int .u64 (lo (b1.den - 1)), .string (bg (b1.den - 1)), .int .u64 (lo b2.num.natAbs), .string (bg b2.num.natAbs), .bool (decide (b2.num < 0)), .int .u64 (lo (b2.den - 1)), .string (bg (b2.den - 1))] ∧ Bx w2 (w.heap.size + 1) 38 #[.int .u64 0, .string ⟨#[]⟩, .bool false, .int .u64 0, .string ⟨#[]⟩, .int .u64 0, .string ⟨#[]⟩, .bool false, .int .u64 0, .string ⟨#[]⟩] ∧ Bx w2 gx12 38 #[.int .u64 (lo b1.num.natAbs), .string (bg b1.num.natAbs), .bool (decide (b1.num < 0)), .int .u64 (lo (b1.den - 1)), .string (bg (b1.den - 1)), .int .u64 (lo b2.num.natAbs), .string (bg b2.num.natAbs), .bool (decide (b2.num < 0)), .int .u64 (lo (b2.den - 1)), .string (bg (b2.den - 1))] ∧ Below w.heap.size w w2) ⟨BX9.out, BX10.out, BX11.out, BX12.out, HB.out.trans (HG.out.mono HB.out.size)⟩ ?_
  clear HB HG BX9 BX10 BX11 BX12
  rintro Wx6 ⟨bx9, bx10, bx11, bx12, HB⟩
  replace HB := Lib.hid HB
  -- region 2
  have BX9 := Lib.hid bx9
  have BX10 := Lib.hid bx10
  have BX11 := Lib.hid bx11
  have BX12 := Lib.hid bx12
  clear bx9 bx10 bx11 bx12
  refine wp_seq_k fun K hK => ?_
  replace hK := Lib.hid hK
  refine wp_region_seqplan 1 [(true, 0)] (by rfl) (by simp) (fun T hT => ?_)
  iterate 1
    refine wpPlan_takeL (v := ?_) rfl (by rfl) (fun w' hw => ?_) ?_
    rotate_left
    · go_simp
      with_reducible rfl
    simp only [Act.put, rA, rB, rC]
  refine wpPlan_nil (hT.out _ _ ?_); clear hT T
  intro vw7 hg
  simp only [puts, Act.put, rA, rB, rC, rD, rE, ↓reduceIte, Nat.reduceEqDiff]
  have HG := Lib.hid (hg)
  clear hg
  replace BX9 := bG BX9 HG
  replace BX10 := bG BX10 HG
  replace BX11 := bG BX11 HG
  replace BX12 := bG BX12 HG
  have r0 := Gr.refl vw7
  go_wp2
  refine hK.out _ _ ?_; clear hK K
  show Code.wp _ _ _ _ _
  clear r0
  refine forgetW (fun w2 => Bx w2 g 38 #[.int .u64 (lo b1.num.natAbs), .string (bg b1.num.natAbs), .bool (decide (b1.num < 0)), .int .u64 (lo (b1.den - 1)), .string (bg (b1.den - 1)), .int .u64 (lo b2.num.natAbs), .string (bg b2.num.natAbs), .bool (decide (b2.num < 0)), .int .u64 (lo (b2.den - 1)), .string (bg (b2.den - 1))] ∧ Bx w2 (w.heap.size) 38 #[.int .u64 (lo b1.num.natAbs), .string (bg b1.num.natAbs), .bool (decide (b1.num < 0)), .int .u64 (lo (b1.den - 1)), .string (bg (b1.den - 1)), .int .u64 (lo b2.num.natAbs), .string (bg b2.num.natAbs), .bool (decide (b2.num < 0)), .int .u64 (lo (b2.den - 1)), .string (bg (b2.den - 1))] ∧ Bx w2 (w.heap.size + 1) 38 #[.int .u64 0, .string ⟨#[]⟩, .bool false, .int .u64 0, .string ⟨#[]⟩, .int .u64 0, .string ⟨#[]⟩, .bool false, .int .u64 0, .string ⟨#[]⟩] ∧ Bx w2 gx12 38 #[.int .u64 (lo b1.num.natAbs), .string (bg b1.num.natAbs), .bool (decide (b1.num < 0)), .int .u64 (lo (b1.den - 1)), .string (bg (b1.den - 1)), .int .u64 (lo b2.num.natAbs), .string (bg b2.num.natAbs), .bool (decide (b2.num < 0)), .int .u64 (lo (b2.den - 1)), .string (bg (b2.den - 1))] ∧ Below w.heap.size w w2) ⟨BX9.out, BX10.out, BX11.out, BX12.out, HB.out.trans (HG.out.mono HB.out.size)⟩ ?_
  clear HB HG BX9 BX10 BX11 BX12
  rintro Wx2 ⟨bx9, bx10, bx11, bx12, HB⟩
  replace HB := Lib.hid HB
  refine wp_seq ?_
  refine wp_cond_false (by rfl) ?_
  refine wp_exit ?_
  show Code.wp _ _ _ _ _
  -- region 7
  have lx10 := bx10.cells
  have BX9 := Lib.hid bx9
  have BX10 := Lib.hid bx10
  have BX11 := Lib.hid bx11
  have BX12 := Lib.hid bx12
  clear bx9 bx10 bx11 bx12
  refine wp_seq_k fun K hK => ?_
  replace hK := Lib.hid hK
  refine wp_region_seqplan 1 [(true, 0)] (by rfl) (by simp) (fun T hT => ?_)
  iterate 1
    refine wpPlan_takeL (v := ?_) rfl (by rfl) (fun w' hw => ?_) ?_
    rotate_left
    · go_simp
      with_reducible rfl
    simp only [Act.put, rA, rB, rC]
  refine wpPlan_nil (hT.out _ _ ?_); clear hT T
  intro vw8 hg
  simp only [puts, Act.put, rA, rB, rC, rD, rE, ↓reduceIte, Nat.reduceEqDiff]
  clear lx10
  have HG := Lib.hid (hg)
  clear hg
  replace BX9 := bG BX9 HG
  replace BX10 := bG BX10 HG
  replace BX11 := bG BX11 HG
  replace BX12 := bG BX12 HG
  have lx11 := BX11.out.cells; have fx11 := BX11.out.free
  have r0 := Gr.refl vw8
  go_wp2
  refine hK.out _ _ ?_; clear hK K
  show Code.wp _ _ _ _ _
  clear lx11 fx11
  clear r0
  refine forgetW (fun w2 => Bx w2 (w.heap.size + 1) 38 #[.int .u64 (lo b1.num.natAbs), .string (bg b1.num.natAbs), .bool (decide (b1.num < 0)), .int .u64 (lo (b1.den - 1)), .string (bg (b1.den - 1)), .int .u64 (lo b2.num.natAbs), .string (bg b2.num.natAbs), .bool (decide (b2.num < 0)), .int .u64 (lo (b2.den - 1)), .string (bg (b2.den - 1))] ∧ Below w.heap.size w w2) ⟨(((((((((((BX11.out).set 0 _).set 1 _).set 2 _).set 3 _).set 4 _).set 5 _).set 6 _).set 7 _).set 8 _).set 9 _).eq (by simp only [rA, rB, rC]), sc10 (HB.out.trans (HG.out.mono HB.out.size)) (by show w.heap.size ≤ w.heap.size + 1; omega)⟩ ?_
  clear HB HG BX9 BX10 BX11 BX12
  rintro Wx7 ⟨bx11, HB⟩
  replace HB := Lib.hid HB
  refine wp_ret ?_
  try simp only [Exit.then, Exit.inBlock]
  have lx11 := bx11.cells
  have r0 := Gr.refl Wx7
  exact bodyPost_ret (v := .agg #[.int .u64 (lo b1.num.natAbs), .string (bg b1.num.natAbs), .bool (decide (b1.num < 0)), .int .u64 (lo (b1.den - 1)), .string (bg (b1.den - 1)), .int .u64 (lo b2.num.natAbs), .string (bg b2.num.natAbs), .bool (decide (b2.num < 0)), .int .u64 (lo (b2.den - 1)), .string (bg (b2.den - 1))]) (by simp [results, Tryz.results22, go_sem, lx11 _ r0]) rfl ⟨rfl, HB.out⟩

set_option maxHeartbeats 1000000 in
theorem pleast_false (a1 a2 b1 b2 : Rat) (g : Nat) (w : World) (bx9 : Bx w g 38 #[.int .u64 (lo b1.num.natAbs), .string (bg b1.num.natAbs), .bool (decide (b1.num < 0)), .int .u64 (lo (b1.den - 1)), .string (bg (b1.den - 1)), .int .u64 (lo b2.num.natAbs), .string (bg b2.num.natAbs), .bool (decide (b2.num < 0)), .int .u64 (lo (b2.den - 1)), .string (bg (b2.den - 1))]) (h : Hid (plt b1 b2 a1 a2 = false)) (hs_a1 : sz a1 ≤ 10000000000) (hs_a2 : sz a2 ≤ 10000000000) (hs_b1 : sz b1 ≤ 10000000000) (hs_b2 : sz b2 ≤ 10000000000) :
    Calls Tryz.prog 22 #[(Value.agg #[.int .u64 (lo a1.num.natAbs), .string (bg a1.num.natAbs), .bool (decide (a1.num < 0)), .int .u64 (lo (a1.den - 1)), .string (bg (a1.den - 1)), .int .u64 (lo a2.num.natAbs), .string (bg a2.num.natAbs), .bool (decide (a2.num < 0)), .int .u64 (lo (a2.den - 1)), .string (bg (a2.den - 1))]), (Value.slice (some ⟨g, 0, none⟩) 1 1)] w fun e w' => e = .returned (.agg #[.int .u64 (lo a1.num.natAbs), .string (bg a1.num.natAbs), .bool (decide (a1.num < 0)), .int .u64 (lo (a1.den - 1)), .string (bg (a1.den - 1)), .int .u64 (lo a2.num.natAbs), .string (bg a2.num.natAbs), .bool (decide (a2.num < 0)), .int .u64 (lo (a2.den - 1)), .string (bg (a2.den - 1))]) ∧ Below w.heap.size w w' := by
  go_enter Tryz.func22, Tryz.ntmps22
  have e9 := bx9.lt
  -- region 0
  refine wp_seq_k fun K hK => ?_
  replace hK := Lib.hid hK
  refine wp_region_lit ?_
  go_wp2
  refine hK.out _ _ ?_; clear hK K
  show Code.wp _ _ _ _ _
  refine forgetW (fun w2 => Bx w2 g 38 #[.int .u64 (lo b1.num.natAbs), .string (bg b1.num.natAbs), .bool (decide (b1.num < 0)), .int .u64 (lo (b1.den - 1)), .string (bg (b1.den - 1)), .int .u64 (lo b2.num.natAbs), .string (bg b2.num.natAbs), .bool (decide (b2.num < 0)), .int .u64 (lo (b2.den - 1)), .string (bg (b2.den - 1))] ∧ Bx w2 (w.heap.size) 38 #[.int .u64 (lo a1.num.natAbs), .string (bg a1.num.natAbs), .bool (decide (a1.num < 0)), .int .u64 (lo (a1.den - 1)), .string (bg (a1.den - 1)), .int .u64 (lo a2.num.natAbs), .string (bg a2.num.natAbs), .bool (decide (a2.num < 0)), .int .u64 (lo (a2.den - 1)), .string (bg (a2.den - 1))] ∧ Bx w2 (w.heap.size + 1) 38 #[.int .u64 0, .string ⟨#[]⟩, .bool false, .int .u64 0, .string ⟨#[]⟩, .int .u64 0, .string ⟨#[]⟩, .bool false, .int .u64 0, .string ⟨#[]⟩] ∧ Below w.heap.size w w2) ⟨((bx9).alloc _).alloc _, (Bx.at rfl).alloc _, Bx.at (by simp), ((Below.refl _ _).alloc (Nat.le_refl _) _).alloc (by simp) _⟩ ?_
  clear bx9
  rintro Wx ⟨bx9, bx10, bx11, HB⟩
  replace HB := Lib.hid HB
  refine wp_seq ?_
  -- region 1
  have BX9 := Lib.hid bx9
  have BX10 := Lib.hid bx10
  have BX11 := Lib.hid bx11
  clear bx9 bx10 bx11
  refine wp_seq_k fun K hK => ?_
  replace hK := Lib.hid hK
  refine wp_region_seqplan 3 [(true, 0), (true, 1), (true, 2)] (by rfl) (by simp) (fun T hT => ?_)
  iterate 3
    refine wpPlan_takeL (v := ?_) rfl (by rfl) (fun w' hw => ?_) ?_
    rotate_left
    · go_simp
      with_reducible rfl
    simp only [Act.put, rA, rB, rC]
  refine wpPlan_nil (hT.out _ _ ?_); clear hT T
  intro vw1 hg
  simp only [puts, Act.put, rA, rB, rC, rD, rE, ↓reduceIte, Nat.reduceEqDiff]
  have HG := Lib.hid (hg)
  clear hg
  replace BX9 := bG BX9 HG
  replace BX10 := bG BX10 HG
  replace BX11 := bG BX11 HG
  have r0 := Gr.refl vw1
  go_wp2
  refine hK.out _ _ ?_; clear hK K
  show Code.wp _ _ _ _ _
  clear r0
  refine forgetW (fun w2 => Bx w2 g 38 #[.int .u64 (lo b1.num.natAbs), .string (bg b1.num.natAbs), .bool (decide (b1.num < 0)), .int .u64 (lo (b1.den - 1)), .string (bg (b1.den - 1)), .int .u64 (lo b2.num.natAbs), .string (bg b2.num.natAbs), .bool (decide (b2.num < 0)), .int .u64 (lo (b2.den - 1)), .string (bg (b2.den - 1))] ∧ Bx w2 (w.heap.size) 38 #[.int .u64 (lo a1.num.natAbs), .string (bg a1.num.natAbs), .bool (decide (a1.num < 0)), .int .u64 (lo (a1.den - 1)), .string (bg (a1.den - 1)), .int .u64 (lo a2.num.natAbs), .string (bg a2.num.natAbs), .bool (decide (a2.num < 0)), .int .u64 (lo (a2.den - 1)), .string (bg (a2.den - 1))] ∧ Bx w2 (w.heap.size + 1) 38 #[.int .u64 0, .string ⟨#[]⟩, .bool false, .int .u64 0, .string ⟨#[]⟩, .int .u64 0, .string ⟨#[]⟩, .bool false, .int .u64 0, .string ⟨#[]⟩] ∧ Below w.heap.size w w2) ⟨BX9.out, BX10.out, BX11.out, HB.out.trans (HG.out.mono HB.out.size)⟩ ?_
  clear HB HG BX9 BX10 BX11
  rintro Wx1 ⟨bx9, bx10, bx11, HB⟩
  replace HB := Lib.hid HB
  refine wp_block ?_
  refine wp_loop_rounds 12 ?_
  rw [rounds_succ]
  -- region 2
  have BX9 := Lib.hid bx9
  have BX10 := Lib.hid bx10
  have BX11 := Lib.hid bx11
  clear bx9 bx10 bx11
  refine wp_seq_k fun K hK => ?_
  replace hK := Lib.hid hK
  refine wp_region_seqplan 1 [(true, 0)] (by rfl) (by simp) (fun T hT => ?_)
  iterate 1
    refine wpPlan_takeL (v := ?_) rfl (by rfl) (fun w' hw => ?_) ?_
    rotate_left
    · go_simp
      with_reducible rfl
    simp only [Act.put, rA, rB, rC]
  refine wpPlan_nil (hT.out _ _ ?_); clear hT T
  intro vw2 hg
  simp only [puts, Act.put, rA, rB, rC, rD, rE, ↓reduceIte, Nat.reduceEqDiff]
  have HG := Lib.hid (hg)
  clear hg
  replace BX9 := bG BX9 HG
  replace BX10 := bG BX10 HG
  replace BX11 := bG BX11 HG
  have r0 := Gr.refl vw2
  go_wp2
  refine hK.out _ _ ?_; clear hK K
  show Code.wp _ _ _ _ _
  clear r0
  refine forgetW (fun w2 => Bx w2 g 38 #[.int .u64 (lo b1.num.natAbs), .string (bg b1.num.natAbs), .bool (decide (b1.num < 0)), .int .u64 (lo (b1.den - 1)), .string (bg (b1.den - 1)), .int .u64 (lo b2.num.natAbs), .string (bg b2.num.natAbs), .bool (decide (b2.num < 0)), .int .u64 (lo (b2.den - 1)), .string (bg (b2.den - 1))] ∧ Bx w2 (w.heap.size) 38 #[.int .u64 (lo a1.num.natAbs), .string (bg a1.num.natAbs), .bool (decide (a1.num < 0)), .int .u64 (lo (a1.den - 1)), .string (bg (a1.den - 1)), .int .u64 (lo a2.num.natAbs), .string (bg a2.num.natAbs), .bool (decide (a2.num < 0)), .int .u64 (lo (a2.den - 1)), .string (bg (a2.den - 1))] ∧ Bx w2 (w.heap.size + 1) 38 #[.int .u64 0, .string ⟨#[]⟩, .bool false, .int .u64 0, .string ⟨#[]⟩, .int .u64 0, .string ⟨#[]⟩, .bool false, .int .u64 0, .string ⟨#[]⟩] ∧ Below w.heap.size w w2) ⟨BX9.out, BX10.out, BX11.out, HB.out.trans (HG.out.mono HB.out.size)⟩ ?_
  clear HB HG BX9 BX10 BX11
  rintro Wx2 ⟨bx9, bx10, bx11, HB⟩
  replace HB := Lib.hid HB
  refine wp_seq ?_
  refine wp_cond_true (by rfl) ?_
  refine wp_skip ?_
  show Code.wp _ _ _ _ _
  refine wp_seq ?_
  refine wp_block ?_
  -- region 3
  have lx9 := bx9.cells
  have BX9 := Lib.hid bx9
  have BX10 := Lib.hid bx10
  have BX11 := Lib.hid bx11
  clear bx9 bx10 bx11
  refine wp_seq_k fun K hK => ?_
  replace hK := Lib.hid hK
  refine wp_region_seqplan 2 [(true, 0), (true, 1)] (by rfl) (by simp) (fun T hT => ?_)
  iterate 2
    refine wpPlan_takeL (v := ?_) rfl (by rfl) (fun w' hw => ?_) ?_
    rotate_left
    · go_simp
      with_reducible rfl
    simp only [Act.put, rA, rB, rC]
  refine wpPlan_nil (hT.out _ _ ?_); clear hT T
  intro vw3 hg
  simp only [puts, Act.put, rA, rB, rC, rD, rE, ↓reduceIte, Nat.reduceEqDiff]
  clear lx9
  have HG := Lib.hid (hg)
  clear hg
  replace BX9 := bG BX9 HG
  replace BX10 := bG BX10 HG
  replace BX11 := bG BX11 HG
  have r0 := Gr.refl vw3
  go_wp2
  refine hK.out _ _ ?_; clear hK K
  show Code.wp _ _ _ _ _
  clear r0
  have hsz : w.heap.size ≤ vw3.heap.size := Nat.le_trans HB.out.size HG.out.size
  have mx9 : g < vw3.heap.size := BX9.out.lt
  have mx10 : w.heap.size < vw3.heap.size := BX10.out.lt
  have mx11 : w.heap.size + 1 < vw3.heap.size := BX11.out.lt
  refine forgetW (fun w2 => Bx w2 g 38 #[.int .u64 (lo b1.num.natAbs), .string (bg b1.num.natAbs), .bool (decide (b1.num < 0)), .int .u64 (lo (b1.den - 1)), .string (bg (b1.den - 1)), .int .u64 (lo b2.num.natAbs), .string (bg b2.num.natAbs), .bool (decide (b2.num < 0)), .int .u64 (lo (b2.den - 1)), .string (bg (b2.den - 1))] ∧ Bx w2 (w.heap.size) 38 #[.int .u64 (lo a1.num.natAbs), .string (bg a1.num.natAbs), .bool (decide (a1.num < 0)), .int .u64 (lo (a1.den - 1)), .string (bg (a1.den - 1)), .int .u64 (lo a2.num.natAbs), .string (bg a2.num.natAbs), .bool (decide (a2.num < 0)), .int .u64 (lo (a2.den - 1)), .string (bg (a2.den - 1))] ∧ Bx w2 (w.heap.size + 1) 38 #[.int .u64 0, .string ⟨#[]⟩, .bool false, .int .u64 0, .string ⟨#[]⟩, .int .u64 0, .string ⟨#[]⟩, .bool false, .int .u64 0, .string ⟨#[]⟩] ∧ Bx w2 (vw3.heap.size) 38 #[.int .u64 (lo b1.num.natAbs), .string (bg b1.num.natAbs), .bool (decide (b1.num < 0)), .int .u64 (lo (b1.den - 1)), .string (bg (b1.den - 1)), .int .u64 (lo b2.num.natAbs), .string (bg b2.num.natAbs), .bool (decide (b2.num < 0)), .int .u64 (lo (b2.den - 1)), .string (bg (b2.den - 1))] ∧ Below w.heap.size w w2) ⟨(BX9.out).alloc _, (BX10.out).alloc _, (BX11.out).alloc _, (Bx.at (by simp) : Bx _ (vw3.heap.size) _ _), (HB.out.trans (HG.out.mono HB.out.size)).alloc (by first | omega | (simp; omega)) _⟩ ?_
  clear HB HG BX9 BX10 BX11
  rintro Wx3 ⟨bx9, bx10, bx11, bx12, HB⟩
  replace HB := Lib.hid HB
  have yx12 : w.heap.size ≤ vw3.heap.size := by omega
  have qx9_12 : g < vw3.heap.size := by omega
  have qx10_12 : w.heap.size < vw3.heap.size := by omega
  have qx11_12 : w.heap.size + 1 < vw3.heap.size := by omega
  generalize hx12 : vw3.heap.size = gx12 at *
  clear hx12
  clear hsz mx9 mx10 mx11
  -- region 4
  have lx10 := bx10.cells
  have lx12 := bx12.cells
  have BX9 := Lib.hid bx9
  have BX10 := Lib.hid bx10
  have BX11 := Lib.hid bx11
  have BX12 := Lib.hid bx12
  clear bx9 bx10 bx11 bx12
  refine wp_seq_k fun K hK => ?_
  replace hK := Lib.hid hK
  refine wp_region_seqplan 3 [(true, 0), (true, 1), (true, 2)] (by rfl) (by simp) (fun T hT => ?_)
  iterate 2
    refine wpPlan_takeL (v := ?_) rfl (by rfl) (fun w' hw => ?_) ?_
    rotate_left
    · go_simp
      with_reducible rfl
    simp only [Act.put, rA, rB, rC]
  refine wpPlan_callL rfl (by rfl) Tryz.call21 (fun w' hw => pless_any (b1) (b2) (a1) (a2) false _ (h.out) (by omega) (by omega) (by omega) (by omega)) (by rfl) ?_
  simp only [Act.put, rA, rB, rC]
  refine wpPlan_nil (hT.out _ _ ?_); clear hT T
  intro vw4 hg
  simp only [puts, Act.put, rA, rB, rC, rD, rE, ↓reduceIte, Nat.reduceEqDiff]
  clear lx10 lx12
  have HG := Lib.hid (hg)
  clear hg
  replace BX9 := bG BX9 HG
  replace BX10 := bG BX10 HG
  replace BX11 := bG BX11 HG
  replace BX12 := bG BX12 HG
  have r0 := Gr.refl vw4
  go_wp2
  refine hK.out _ _ ?_; clear hK K
  show Code.wp _ _ _ _ _
  clear r0
  refine forgetW (fun w2 => Bx w2 g 38 #[.int .u64 (lo b1.num.natAbs), .string (bg b1.num.natAbs), .bool (decide (b1.num < 0)), .int .u64 (lo (b1.den - 1)), .string (bg (b1.den - 1)), .int .u64 (lo b2.num.natAbs), .string (bg b2.num.natAbs), .bool (decide (b2.num < 0)), .int .u64 (lo (b2.den - 1)), .string (bg (b2.den - 1))] ∧ Bx w2 (w.heap.size) 38 #[.int .u64 (lo a1.num.natAbs), .string (bg a1.num.natAbs), .bool (decide (a1.num < 0)), .int .u64 (lo (a1.den - 1)), .string (bg (a1.den - 1)), .int .u64 (lo a2.num.natAbs), .string (bg a2.num.natAbs), .bool (decide (a2.num < 0)), .int .u64 (lo (a2.den - 1)), .string (bg (a2.den - 1))] ∧ Bx w2 (w.heap.size + 1) 38 #[.int .u64 0, .string ⟨#[]⟩, .bool false, .int .u64 0, .string ⟨#[]⟩, .int .u64 0, .string ⟨#[]⟩, .bool false, .int .u64 0, .string ⟨#[]⟩] ∧ Bx w2 gx12 38 #[.int .u64 (lo b1.num.natAbs), .string (bg b1.num.natAbs), .bool (decide (b1.num < 0)), .int .u64 (lo (b1.den - 1)), .string (bg (b1.den - 1)), .int .u64 (lo b2.num.natAbs), .string (bg b2.num.natAbs), .bool (decide (b2.num < 0)), .int .u64 (lo (b2.den - 1)), .string (bg (b2.den - 1))] ∧ Below w.heap.size w w2) ⟨BX9.out, BX10.out, BX11.out, BX12.out, HB.out.trans (HG.out.mono HB.out.size)⟩ ?_
  clear HB HG BX9 BX10 BX11 BX12
  rintro Wx4 ⟨bx9, bx10, bx11, bx12, HB⟩
  replace HB := Lib.hid HB
  refine wp_cond_false (by rfl) ?_
  refine wp_skip ?_
  show Code.wp _ _ _ _ _
  -- region 6
  have BX9 := Lib.hid bx9
  have BX10 := Lib.hid bx10
  have BX11 := Lib.hid bx11
  have BX12 := Lib.hid bx12
  clear bx9 bx10 bx11 bx12
  refine wp_last_k fun K hK => ?_
  replace hK := Lib.hid hK
  refine wp_region_seqplan 2 [(true, 0), (true, 1)] (by rfl) (by simp) (fun T hT => ?_)
  iterate 2
    refine wpPlan_takeL (v := ?_) rfl (by rfl) (fun w' hw => ?_) ?_
    rotate_left
    · go_simp
      with_reducible rfl
    simp only [Act.put, rA, rB, rC]
  refine wpPlan_nil (hT.out _ _ ?_); clear hT T
  intro vw5 hg
  simp only [puts, Act.put, rA, rB, rC, rD, rE, ↓reduceIte, Nat.reduceEqDiff]
  have HG := Lib.hid (hg)
  clear hg
  replace BX9 := bG BX9 HG
  replace BX10 := bG BX10 HG
  replace BX11 := bG BX11 HG
  replace BX12 := bG BX12 HG
  have r0 := Gr.refl vw5
  go_wp2
  refine hK.out _ _ ?_; clear hK K
  show Code.rounds _ _ _ _ _ _
  rw [rounds_succ]
  clear r0
  refine forgetW (fun w2 => Bx w2 g 38 #[.int .u64 (lo b1.num.natAbs), .string (bg b1.num.natAbs), .bool (decide (b1.num < 0)), .int .u64 (lo (b1.den - 1)), .string (bg (b1.den - 1)), .int .u64 (lo b2.num.natAbs), .string (bg b2.num.natAbs), .bool (decide (b2.num < 0)), .int .u64 (lo (b2.den - 1)), .string (bg (b2.den - 1))] ∧ Bx w2 (w.heap.size) 38 #[.int .u64 (lo a1.num.natAbs), .string (bg a1.num.natAbs), .bool (decide (a1.num < 0)), .int .u64 (lo (a1.den - 1)), .string (bg (a1.den - 1)), .int .u64 (lo a2.num.natAbs), .string (bg a2.num.natAbs), .bool (decide (a2.num < 0)), .int .u64 (lo (a2.den - 1)), .string (bg (a2.den - 1))] ∧ Bx w2 (w.heap.size + 1) 38 #[.int .u64 0, .string ⟨#[]⟩, .bool false, .int .u64 0, .string ⟨#[]⟩, .int .u64 0, .string ⟨#[]⟩, .bool false, .int .u64 0, .string ⟨#[]⟩] ∧ Bx w2 gx12 38 #[.int .u64 (lo b1.num.natAbs), .string (bg b1.num.natAbs), .bool (decide (b1.num < 0)), .int .u64 (lo (b1.den - 1)), .string (bg (b1.den - 1)), .int .u64 (lo b2.num.natAbs), .string (bg b2.num.natAbs), .bool (decide (b2.num < 0)), .int .u64 (lo (b2.den - 1)), .string (bg (b2.den - 1))] ∧ Below w.heap.size w w2) ⟨BX9.out, BX10.out, BX11.out, BX12.out, HB.out.trans (HG.out.mono HB.out.size)⟩ ?_
  clear HB HG BX9 BX10 BX11 BX12
  rintro Wx6 ⟨bx9, bx10, bx11, bx12, HB⟩
  replace HB := Lib.hid HB
  -- region 2
  have BX9 := Lib.hid bx9
  have BX10 := Lib.hid bx10
  have BX11 := Lib.hid bx11
  have BX12 := Lib.hid bx12
  clear bx9 bx10 bx11 bx12
  refine wp_seq_k fun K hK => ?_
  replace hK := Lib.hid hK
  refine wp_region_seqplan 1 [(true, 0)] (by rfl) (by simp) (fun T hT => ?_)
  iterate 1
    refine wpPlan_takeL (v := ?_) rfl (by rfl) (fun w' hw => ?_) ?_
    rotate_left
    · go_simp
      with_reducible rfl
    simp only [Act.put, rA, rB, rC]
  refine wpPlan_nil (hT.out _ _ ?_); clear hT T
  intro vw6 hg
  simp only [puts, Act.put, rA, rB, rC, rD, rE, ↓reduceIte, Nat.reduceEqDiff]
  have HG := Lib.hid (hg)
  clear hg
  replace BX9 := bG BX9 HG
  replace BX10 := bG BX10 HG
  replace BX11 := bG BX11 HG
  replace BX12 := bG BX12 HG
  have r0 := Gr.refl vw6
  go_wp2
  refine hK.out _ _ ?_; clear hK K
  show Code.wp _ _ _ _ _
  clear r0
  refine forgetW (fun w2 => Bx w2 g 38 #[.int .u64 (lo b1.num.natAbs), .string (bg b1.num.natAbs), .bool (decide (b1.num < 0)), .int .u64 (lo (b1.den - 1)), .string (bg (b1.den - 1)), .int .u64 (lo b2.num.natAbs), .string (bg b2.num.natAbs), .bool (decide (b2.num < 0)), .int .u64 (lo (b2.den - 1)), .string (bg (b2.den - 1))] ∧ Bx w2 (w.heap.size) 38 #[.int .u64 (lo a1.num.natAbs), .string (bg a1.num.natAbs), .bool (decide (a1.num < 0)), .int .u64 (lo (a1.den - 1)), .string (bg (a1.den - 1)), .int .u64 (lo a2.num.natAbs), .string (bg a2.num.natAbs), .bool (decide (a2.num < 0)), .int .u64 (lo (a2.den - 1)), .string (bg (a2.den - 1))] ∧ Bx w2 (w.heap.size + 1) 38 #[.int .u64 0, .string ⟨#[]⟩, .bool false, .int .u64 0, .string ⟨#[]⟩, .int .u64 0, .string ⟨#[]⟩, .bool false, .int .u64 0, .string ⟨#[]⟩] ∧ Bx w2 gx12 38 #[.int .u64 (lo b1.num.natAbs), .string (bg b1.num.natAbs), .bool (decide (b1.num < 0)), .int .u64 (lo (b1.den - 1)), .string (bg (b1.den - 1)), .int .u64 (lo b2.num.natAbs), .string (bg b2.num.natAbs), .bool (decide (b2.num < 0)), .int .u64 (lo (b2.den - 1)), .string (bg (b2.den - 1))] ∧ Below w.heap.size w w2) ⟨BX9.out, BX10.out, BX11.out, BX12.out, HB.out.trans (HG.out.mono HB.out.size)⟩ ?_
  clear HB HG BX9 BX10 BX11 BX12
  rintro Wx2 ⟨bx9, bx10, bx11, bx12, HB⟩
  replace HB := Lib.hid HB
  refine wp_seq ?_
  refine wp_cond_false (by rfl) ?_
  refine wp_exit ?_
  show Code.wp _ _ _ _ _
  -- region 7
  have lx10 := bx10.cells
  have BX9 := Lib.hid bx9
  have BX10 := Lib.hid bx10
  have BX11 := Lib.hid bx11
  have BX12 := Lib.hid bx12
  clear bx9 bx10 bx11 bx12
  refine wp_seq_k fun K hK => ?_
  replace hK := Lib.hid hK
  refine wp_region_seqplan 1 [(true, 0)] (by rfl) (by simp) (fun T hT => ?_)
  iterate 1
    refine wpPlan_takeL (v := ?_) rfl (by rfl) (fun w' hw => ?_) ?_
    rotate_left
    · go_simp
      with_reducible rfl
    simp only [Act.put, rA, rB, rC]
  refine wpPlan_nil (hT.out _ _ ?_); clear hT T
  intro vw7 hg
  simp only [puts, Act.put, rA, rB, rC, rD, rE, ↓reduceIte, Nat.reduceEqDiff]
  clear lx10
  have HG := Lib.hid (hg)
  clear hg
  replace BX9 := bG BX9 HG
  replace BX10 := bG BX10 HG
  replace BX11 := bG BX11 HG
  replace BX12 := bG BX12 HG
  have lx11 := BX11.out.cells; have fx11 := BX11.out.free
  have r0 := Gr.refl vw7
  go_wp2
  refine hK.out _ _ ?_; clear hK K
  show Code.wp _ _ _ _ _
  clear lx11 fx11
  clear r0
  refine forgetW (fun w2 => Bx w2 (w.heap.size + 1) 38 #[.int .u64 (lo a1.num.natAbs), .string (bg a1.num.natAbs), .bool (decide (a1.num < 0)), .int .u64 (lo (a1.den - 1)), .string (bg (a1.den - 1)), .int .u64 (lo a2.num.natAbs), .string (bg a2.num.natAbs), .bool (decide (a2.num < 0)), .int .u64 (lo (a2.den - 1)), .string (bg (a2.den - 1))] ∧ Below w.heap.size w w2) ⟨(((((((((((BX11.out).set 0 _).set 1 _).set 2 _).set 3 _).set 4 _).set 5 _).set 6 _).set 7 _).set 8 _).set 9 _).eq (by simp only [rA, rB, rC]), sc10 (HB.out.trans (HG.out.mono HB.out.size)) (by show w.heap.size ≤ w.heap.size + 1; omega)⟩ ?_
  clear HB HG BX9 BX10 BX11 BX12
  rintro Wx7 ⟨bx11, HB⟩
  replace HB := Lib.hid HB
  refine wp_ret ?_
  try simp only [Exit.then, Exit.inBlock]
  have lx11 := bx11.cells
  have r0 := Gr.refl Wx7
  exact bodyPost_ret (v := .agg #[.int .u64 (lo a1.num.natAbs), .string (bg a1.num.natAbs), .bool (decide (a1.num < 0)), .int .u64 (lo (a1.den - 1)), .string (bg (a1.den - 1)), .int .u64 (lo a2.num.natAbs), .string (bg a2.num.natAbs), .bool (decide (a2.num < 0)), .int .u64 (lo (a2.den - 1)), .string (bg (a2.den - 1))]) (by simp [results, Tryz.results22, go_sem, lx11 _ r0]) rfl ⟨rfl, HB.out⟩

theorem pleast_any (a1 a2 b1 b2 m1 m2 : Rat) (g : Nat) (w : World) (bx9 : Bx w g 38 #[.int .u64 (lo b1.num.natAbs), .string (bg b1.num.natAbs), .bool (decide (b1.num < 0)), .int .u64 (lo (b1.den - 1)), .string (bg (b1.den - 1)), .int .u64 (lo b2.num.natAbs), .string (bg b2.num.natAbs), .bool (decide (b2.num < 0)), .int .u64 (lo (b2.den - 1)), .string (bg (b2.den - 1))]) (r : Bool) (h : plt b1 b2 a1 a2 = r) (hm1 : (if r then b1 else a1) = m1) (hm2 : (if r then b2 else a2) = m2) (hs_a1 : sz a1 ≤ 10000000000) (hs_a2 : sz a2 ≤ 10000000000) (hs_b1 : sz b1 ≤ 10000000000) (hs_b2 : sz b2 ≤ 10000000000) :
    Calls Tryz.prog 22 #[(Value.agg #[.int .u64 (lo a1.num.natAbs), .string (bg a1.num.natAbs), .bool (decide (a1.num < 0)), .int .u64 (lo (a1.den - 1)), .string (bg (a1.den - 1)), .int .u64 (lo a2.num.natAbs), .string (bg a2.num.natAbs), .bool (decide (a2.num < 0)), .int .u64 (lo (a2.den - 1)), .string (bg (a2.den - 1))]), .slice (some ⟨g, 0, none⟩) 1 1] w fun e w' => e = .returned (.agg #[.int .u64 (lo m1.num.natAbs), .string (bg m1.num.natAbs), .bool (decide (m1.num < 0)), .int .u64 (lo (m1.den - 1)), .string (bg (m1.den - 1)), .int .u64 (lo m2.num.natAbs), .string (bg m2.num.natAbs), .bool (decide (m2.num < 0)), .int .u64 (lo (m2.den - 1)), .string (bg (m2.den - 1))]) ∧ Below w.heap.size w w' := by
  subst hm1 hm2
  cases r
  · exact pleast_false a1 a2 b1 b2 g w bx9 (Lib.hid h) hs_a1 hs_a2 hs_b1 hs_b2
  · exact pleast_true a1 a2 b1 b2 g w bx9 (Lib.hid h) hs_a1 hs_a2 hs_b1 hs_b2

set_option maxHeartbeats 1000000 in
theorem pgreatest_true (a1 a2 b1 b2 : Rat) (g : Nat) (w : World) (bx9 : Bx w g 38 #[.int .u64 (lo b1.num.natAbs), .string (bg b1.num.natAbs), .bool (decide (b1.num < 0)), .int .u64 (lo (b1.den - 1)), .string (bg (b1.den - 1)), .int .u64 (lo b2.num.natAbs), .string (bg b2.num.natAbs), .bool (decide (b2.num < 0)), .int .u64 (lo (b2.den - 1)), .string (bg (b2.den - 1))]) (h : Hid (plt a1 a2 b1 b2 = true)) (hs_a1 : sz a1 ≤ 10000000000) (hs_a2 : sz a2 ≤ 10000000000) (hs_b1 : sz b1 ≤ 10000000000) (hs_b2 : sz b2 ≤ 10000000000) :
    Calls Tryz.prog 23 #[(Value.agg #[.int .u64 (lo a1.num.natAbs), .string (bg a1.num.natAbs), .bool (decide (a1.num < 0)), .int .u64 (lo (a1.den - 1)), .string (bg (a1.den - 1)), .int .u64 (lo a2.num.natAbs), .string (bg a2.num.natAbs), .bool (decide (a2.num < 0)), .int .u64 (lo (a2.den - 1)), .string (bg (a2.den - 1))]), (Value.slice (some ⟨g, 0, none⟩) 1 1)] w fun e w' => e = .returned (.agg #[.int .u64 (lo b1.num.natAbs), .string (bg b1.num.natAbs), .bool (decide (b1.num < 0)), .int .u64 (lo (b1.den - 1)), .string (bg (b1.den - 1)), .int .u64 (lo b2.num.natAbs), .string (bg b2.num.natAbs), .bool (decide (b2.num < 0)), .int .u64 (lo (b2.den - 1)), .string (bg (b2.den - 1))]) ∧ Below w.heap.size w w' := by
  go_enter Tryz.func23, Tryz.ntmps23
  have e9 := bx9.lt
  -- region 0
  refine wp_seq_k fun K hK => ?_
  replace hK := Lib.hid hK
  refine wp_region_lit ?_
  go_wp2
  refine hK.out _ _ ?_; clear hK K
  show Code.wp _ _ _ _ _
  refine forgetW (fun w2 => Bx w2 g 38 #[.int .u64 (lo b1.num.natAbs), .string (bg b1.num.natAbs), .bool (decide (b1.num < 0)), .int .u64 (lo (b1.den - 1)), .string (bg (b1.den - 1)), .int .u64 (lo b2.num.natAbs), .string (bg b2.num.natAbs), .bool (decide (b2.num < 0)), .int .u64 (lo (b2.den - 1)), .string (bg (b2.den - 1))] ∧ Bx w2 (w.heap.size) 38 #[.int .u64 (lo a1.num.natAbs), .string (bg a1.num.natAbs), .bool (decide (a1.num < 0)), .int .u64 (lo (a1.den - 1)), .string (bg (a1.den - 1)), .int .u64 (lo a2.num.natAbs), .string (bg a2.num.natAbs), .bool (decide (a2.num < 0)), .int .u64 (lo (a2.den - 1)), .string (bg (a2.den - 1))] ∧ Bx w2 (w.heap.size + 1) 38 #[.int .u64 0, .string ⟨#[]⟩, .bool false, .int .u64 0, .string ⟨#[]⟩, .int .u64 0, .string ⟨#[]⟩, .bool false, .int .u64 0, .string ⟨#[]⟩] ∧ Below w.heap.size w w2) ⟨((bx9).alloc _).alloc _, (Bx.at rfl).alloc _, Bx.at (by simp), ((Below.refl _ _).alloc (Nat.le_refl _) _).alloc (by simp) _⟩ ?_
  clear bx9
  rintro Wx ⟨bx9, bx10, bx11, HB⟩
  replace HB := Lib.hid HB
  refine wp_seq ?_
  -- region 1
  have BX9 := Lib.hid bx9
  have BX10 := Lib.hid bx10
  have BX11 := Lib.hid bx11
  clear bx9 bx10 bx11
  refine wp_seq_k fun K hK => ?_
  replace hK := Lib.hid hK
  refine wp_region_seqplan 3 [(true, 0), (true, 1), (true, 2)] (by rfl) (by simp) (fun T hT => ?_)
  iterate 3
    refine wpPlan_takeL (v := ?_) rfl (by rfl) (fun w' hw => ?_) ?_
    rotate_left
    · go_simp
      with_reducible rfl
    simp only [Act.put, rA, rB, rC]
  refine wpPlan_nil (hT.out _ _ ?_); clear hT T
  intro vw1 hg
  simp only [puts, Act.put, rA, rB, rC, rD, rE, ↓reduceIte, Nat.reduceEqDiff]
  have HG := Lib.hid (hg)
  clear hg
  replace BX9 := bG BX9 HG
  replace BX10 := bG BX10 HG
  replace BX11 := bG BX11 HG
  have r0 := Gr.refl vw1
  go_wp2
  refine hK.out _ _ ?_; clear hK K
  show Code.wp _ _ _ _ _
  clear r0
  refine forgetW (fun w2 => Bx w2 g 38 #[.int .u64 (lo b1.num.natAbs), .string (bg b1.num.natAbs), .bool (decide (b1.num < 0)), .int .u64 (lo (b1.den - 1)), .string (bg (b1.den - 1)), .int .u64 (lo b2.num.natAbs), .string (bg b2.num.natAbs), .bool (decide (b2.num < 0)), .int .u64 (lo (b2.den - 1)), .string (bg (b2.den - 1))] ∧ Bx w2 (w.heap.size) 38 #[.int .u64 (lo a1.num.natAbs), .string (bg a1.num.natAbs), .bool (decide (a1.num < 0)), .int .u64 (lo (a1.den - 1)), .string (bg (a1.den - 1)), .int .u64 (lo a2.num.natAbs), .string (bg a2.num.natAbs), .bool (decide (a2.num < 0)), .int .u64 (lo (a2.den - 1)), .string (bg (a2.den - 1))] ∧ Bx w2 (w.heap.size + 1) 38 #[.int .u64 0, .string ⟨#[]⟩, .bool false, .int .u64 0, .string ⟨#[]⟩, .int .u64 0, .string ⟨#[]⟩, .bool false, .int .u64 0, .string ⟨#[]⟩] ∧ Below w.heap.size w w2) ⟨BX9.out, BX10.out, BX11.out, HB.out.trans (HG.out.mono HB.out.size)⟩ ?_
  clear HB HG BX9 BX10 BX11
  rintro Wx1 ⟨bx9, bx10, bx11, HB⟩
  replace HB := Lib.hid HB
  refine wp_block ?_
  refine wp_loop_rounds 12 ?_
  rw [rounds_succ]
  -- region 2
  have BX9 := Lib.hid bx9
  have BX10 := Lib.hid bx10
  have BX11 := Lib.hid bx11
  clear bx9 bx10 bx11
  refine wp_seq_k fun K hK => ?_
  replace hK := Lib.hid hK
  refine wp_region_seqplan 1 [(true, 0)] (by rfl) (by simp) (fun T hT => ?_)
  iterate 1
    refine wpPlan_takeL (v := ?_) rfl (by rfl) (fun w' hw => ?_) ?_
    rotate_left
    · go_simp
      with_reducible rfl
    simp only [Act.put, rA, rB, rC]
  refine wpPlan_nil (hT.out _ _ ?_); clear hT T
  intro vw2 hg
  simp only [puts, Act.put, rA, rB, rC, rD, rE, ↓reduceIte, Nat.reduceEqDiff]
  have HG := Lib.hid (hg)
  clear hg
  replace BX9 := bG BX9 HG
  replace BX10 := bG BX10 HG
  replace BX11 := bG BX11 HG
  have r0 := Gr.refl vw2
  go_wp2
  refine hK.out _ _ ?_; clear hK K
  show Code.wp _ _ _ _ _
  clear r0
  refine forgetW (fun w2 => Bx w2 g 38 #[.int .u64 (lo b1.num.natAbs), .string (bg b1.num.natAbs), .bool (decide (b1.num < 0)), .int .u64 (lo (b1.den - 1)), .string (bg (b1.den - 1)), .int .u64 (lo b2.num.natAbs), .string (bg b2.num.natAbs), .bool (decide (b2.num < 0)), .int .u64 (lo (b2.den - 1)), .string (bg (b2.den - 1))] ∧ Bx w2 (w.heap.size) 38 #[.int .u64 (lo a1.num.natAbs), .string (bg a1.num.natAbs), .bool (decide (a1.num < 0)), .int .u64 (lo (a1.den - 1)), .string (bg (a1.den - 1)), .int .u64 (lo a2.num.natAbs), .string (bg a2.num.natAbs), .bool (decide (a2.num < 0)), .int .u64 (lo (a2.den - 1)), .string (bg (a2.den - 1))] ∧ Bx w2 (w.heap.size + 1) 38 #[.int .u64 0, .string ⟨#[]⟩, .bool false, .int .u64 0, .string ⟨#[]⟩, .int .u64 0, .string ⟨#[]⟩, .bool false, .int .u64 0, .string ⟨#[]⟩] ∧ Below w.heap.size w w2) ⟨BX9.out, BX10.out, BX11.out, HB.out.trans (HG.out.mono HB.out.size)⟩ ?_
  clear HB HG BX9 BX10 BX11
  rintro Wx2 ⟨bx9, bx10, bx11, HB⟩
  replace HB := Lib.hid HB
  refine wp_seq ?_
  refine wp_cond_true (by rfl) ?_
  refine wp_skip ?_
  show Code.wp _ _ _ _ _
  refine wp_seq ?_
  refine wp_block ?_
  -- region 3
  have lx9 := bx9.cells
  have BX9 := Lib.hid bx9
  have BX10 := Lib.hid bx10
  have BX11 := Lib.hid bx11
  clear bx9 bx10 bx11
  refine wp_seq_k fun K hK => ?_
  replace hK := Lib.hid hK
  refine wp_region_seqplan 2 [(true, 0), (true, 1)] (by rfl) (by simp) (fun T hT => ?_)
  iterate 2
    refine wpPlan_takeL (v := ?_) rfl (by rfl) (fun w' hw => ?_) ?_
    rotate_left
    · go_simp
      with_reducible rfl
    simp only [Act.put, rA, rB, rC]
  refine wpPlan_nil (hT.out _ _ ?_); clear hT T
  intro vw3 hg
  simp only [puts, Act.put, rA, rB, rC, rD, rE, ↓reduceIte, Nat.reduceEqDiff]
  clear lx9
  have HG := Lib.hid (hg)
  clear hg
  replace BX9 := bG BX9 HG
  replace BX10 := bG BX10 HG
  replace BX11 := bG BX11 HG
  have r0 := Gr.refl vw3
  go_wp2
  refine hK.out _ _ ?_; clear hK K
  show Code.wp _ _ _ _ _
  clear r0
  have hsz : w.heap.size ≤ vw3.heap.size := Nat.le_trans HB.out.size HG.out.size
  have mx9 : g < vw3.heap.size := BX9.out.lt
  have mx10 : w.heap.size < vw3.heap.size := BX10.out.lt
  have mx11 : w.heap.size + 1 < vw3.heap.size := BX11.out.lt
  refine forgetW (fun w2 => Bx w2 g 38 #[.int .u64 (lo b1.num.natAbs), .string (bg b1.num.natAbs), .bool (decide (b1.num < 0)), .int .u64 (lo (b1.den - 1)), .string (bg (b1.den - 1)), .int .u64 (lo b2.num.natAbs), .string (bg b2.num.natAbs), .bool (decide (b2.num < 0)), .int .u64 (lo (b2.den - 1)), .string (bg (b2.den - 1))] ∧ Bx w2 (w.heap.size) 38 #[.int .u64 (lo a1.num.natAbs), .string (bg a1.num.natAbs), .bool (decide (a1.num < 0)), .int .u64 (lo (a1.den - 1)), .string (bg (a1.den - 1)), .int .u64 (lo a2.num.natAbs), .string (bg a2.num.natAbs), .bool (decide (a2.num < 0)), .int .u64 (lo (a2.den - 1)), .string (bg (a2.den - 1))] ∧ Bx w2 (w.heap.size + 1) 38 #[.int .u64 0, .string ⟨#[]⟩, .bool false, .int .u64 0, .string ⟨#[]⟩, .int .u64 0, .string ⟨#[]⟩, .bool false, .int .u64 0, .string ⟨#[]⟩] ∧ Bx w2 (vw3.heap.size) 38 #[.int .u64 (lo b1.num.natAbs), .string (bg b1.num.natAbs), .bool (decide (b1.num < 0)), .int .u64 (lo (b1.den - 1)), .string (bg (b1.den - 1)), .int .u64 (lo b2.num.natAbs), .string (bg b2.num.natAbs), .bool (decide (b2.num < 0)), .int .u64 (lo (b2.den - 1)), .string (bg (b2.den - 1))] ∧ Below w.heap.size w w2) ⟨(BX9.out).alloc _, (BX10.out).alloc _, (BX11.out).alloc _, (Bx.at (by simp) : Bx _ (vw3.heap.size) _ _), (HB.out.trans (HG.out.mono HB.out.size)).alloc (by first | omega | (simp; omega)) _⟩ ?_
  clear HB HG BX9 BX10 BX11
  rintro Wx3 ⟨bx9, bx10, bx11, bx12, HB⟩
  replace HB := Lib.hid HB
  have yx12 : w.heap.size ≤ vw3.heap.size := by omega
  have qx9_12 : g < vw3.heap.size := by omega
  have qx10_12 : w.heap.size < vw3.heap.size := by omega
  have qx11_12 : w.heap.size + 1 < vw3.heap.size := by omega
  generalize hx12 : vw3.heap.size = gx12 at *
  clear hx12
  clear hsz mx9 mx10 mx11
  -- region 4
  have lx10 := bx10.cells
  have lx12 := bx12.cells
  have BX9 := Lib.hid bx9
  have BX10 := Lib.hid bx10
  have BX11 := Lib.hid bx11
  have BX12 := Lib.hid bx12
  clear bx9 bx10 bx11 bx12
  refine wp_seq_k fun K hK => ?_
  replace hK := Lib.hid hK
  refine wp_region_seqplan 3 [(true, 0), (true, 1), (true, 2)] (by rfl) (by simp) (fun T hT => ?_)
  iterate 2
    refine wpPlan_takeL (v := ?_) rfl (by rfl) (fun w' hw => ?_) ?_
    rotate_left
    · go_simp
      with_reducible rfl
    simp only [Act.put, rA, rB, rC]
  refine wpPlan_callL rfl (by rfl) Tryz.call21 (fun w' hw => pless_any (a1) (a2) (b1) (b2) true _ (h.out) (by omega) (by omega) (by omega) (by omega)) (by rfl) ?_
  simp only [Act.put, rA, rB, rC]
  refine wpPlan_nil (hT.out _ _ ?_); clear hT T
  intro vw4 hg
  simp only [puts, Act.put, rA, rB, rC, rD, rE, ↓reduceIte, Nat.reduceEqDiff]
  clear lx10 lx12
  have HG := Lib.hid (hg)
  clear hg
  replace BX9 := bG BX9 HG
  replace BX10 := bG BX10 HG
  replace BX11 := bG BX11 HG
  replace BX12 := bG BX12 HG
  have r0 := Gr.refl vw4
  go_wp2
  refine hK.out _ _ ?_; clear hK K
  show Code.wp _ _ _ _ _
  clear r0
  refine forgetW (fun w2 => Bx w2 g 38 #[.int .u64 (lo b1.num.natAbs), .string (bg b1.num.natAbs), .bool (decide (b1.num < 0)), .int .u64 (lo (b1.den - 1)), .string (bg (b1.den - 1)), .int .u64 (lo b2.num.natAbs), .string (bg b2.num.natAbs), .bool (decide (b2.num < 0)), .int .u64 (lo (b2.den - 1)), .string (bg (b2.den - 1))] ∧ Bx w2 (w.heap.size) 38 #[.int .u64 (lo a1.num.natAbs), .string (bg a1.num.natAbs), .bool (decide (a1.num < 0)), .int .u64 (lo (a1.den - 1)), .string (bg (a1.den - 1)), .int .u64 (lo a2.num.natAbs), .string (bg a2.num.natAbs), .bool (decide (a2.num < 0)), .int .u64 (lo (a2.den - 1)), .string (bg (a2.den - 1))] ∧ Bx w2 (w.heap.size + 1) 38 #[.int .u64 0, .string ⟨#[]⟩, .bool false, .int .u64 0, .string ⟨#[]⟩, .int .u64 0, .string ⟨#[]⟩, .bool false, .int .u64 0, .string ⟨#[]⟩] ∧ Bx w2 gx12 38 #[.int .u64 (lo b1.num.natAbs), .string (bg b1.num.natAbs), .bool (decide (b1.num < 0)), .int .u64 (lo (b1.den - 1)), .string (bg (b1.den - 1)), .int .u64 (lo b2.num.natAbs), .string (bg b2.num.natAbs), .bool (decide (b2.num < 0)), .int .u64 (lo (b2.den - 1)), .string (bg (b2.den - 1))] ∧ Below w.heap.size w w2) ⟨BX9.out, BX10.out, BX11.out, BX12.out, HB.out.trans (HG.out.mono HB.out.size)⟩ ?_
  clear HB HG BX9 BX10 BX11 BX12
  rintro Wx4 ⟨bx9, bx10, bx11, bx12, HB⟩
  replace HB := Lib.hid HB
  refine wp_cond_true (by rfl) ?_
  -- region 5
  have lx12 := bx12.cells
  have BX9 := Lib.hid bx9
  have BX10 := Lib.hid bx10
  have BX11 := Lib.hid bx11
  have BX12 := Lib.hid bx12
  clear bx9 bx10 bx11 bx12
  refine wp_last_k fun K hK => ?_
  replace hK := Lib.hid hK
  refine wp_region_seqplan 1 [(true, 0)] (by rfl) (by simp) (fun T hT => ?_)
  iterate 1
    refine wpPlan_takeL (v := ?_) rfl (by rfl) (fun w' hw => ?_) ?_
    rotate_left
    · go_simp
      with_reducible rfl
    simp only [Act.put, rA, rB, rC]
  refine wpPlan_nil (hT.out _ _ ?_); clear hT T
  intro vw5 hg
  simp only [puts, Act.put, rA, rB, rC, rD, rE, ↓reduceIte, Nat.reduceEqDiff]
  clear lx12
  have HG := Lib.hid (hg)
  clear hg
  replace BX9 := bG BX9 HG
  replace BX10 := bG BX10 HG
  replace BX11 := bG BX11 HG
  replace BX12 := bG BX12 HG
  have lx10 := BX10.out.cells; have fx10 := BX10.out.free
  have r0 := Gr.refl vw5
  go_wp2
  refine hK.out _ _ ?_; clear hK K
  show Code.wp _ _ _ _ _
  clear lx10 fx10
  clear r0
  refine forgetW (fun w2 => Bx w2 g 38 #[.int .u64 (lo b1.num.natAbs), .string (bg b1.num.natAbs), .bool (decide (b1.num < 0)), .int .u64 (lo (b1.den - 1)), .string (bg (b1.den - 1)), .int .u64 (lo b2.num.natAbs), .string (bg b2.num.natAbs), .bool (decide (b2.num < 0)), .int .u64 (lo (b2.den - 1)), .string (bg (b2.den - 1))] ∧ Bx w2 (w.heap.size) 38 #[.int .u64 (lo b1.num.natAbs), .string (bg b1.num.natAbs), .bool (decide (b1.num < 0)), .int .u64 (lo (b1.den - 1)), .string (bg (b1.den - 1)), .int .u64 (lo b2.num.natAbs), .string (bg b2.num.natAbs), .bool (decide (b2.num < 0)), .int .u64 (lo (b2.den - 1)), .string (bg (b2.den - 1))] ∧ Bx w2 (w.heap.size + 1) 38 #[.int .u64 0, .string ⟨#[]⟩, .bool false, .int .u64 0, .string ⟨#[]⟩, .int .u64 0, .string ⟨#[]⟩, .bool false, .int .u64 0, .string ⟨#[]⟩] ∧ Bx w2 gx12 38 #[.int .u64 (lo b1.num.natAbs), .string (bg b1.num.natAbs), .bool (decide (b1.num < 0)), .int .u64 (lo (b1.den - 1)), .string (bg (b1.den - 1)), .int .u64 (lo b2.num.natAbs), .string (bg b2.num.natAbs), .bool (decide (b2.num < 0)), .int .u64 (lo (b2.den - 1)), .string (bg (b2.den - 1))] ∧ Below w.heap.size w w2) ⟨so10 (BX9.out) (by show g ≠ w.heap.size; omega), (((((((((((BX10.out).set 0 _).set 1 _).set 2 _).set 3 _).set 4 _).set 5 _).set 6 _).set 7 _).set 8 _).set 9 _).eq (by simp only [rA, rB, rC]), so10 (BX11.out) (by show w.heap.size + 1 ≠ w.heap.size; omega), so10 (BX12.out) (by show gx12 ≠ w.heap.size; omega), sc10 (HB.out.trans (HG.out.mono HB.out.size)) (by show w.heap.size ≤ w.heap.size; omega)⟩ ?_
  clear HB HG BX9 BX10 BX11 BX12
  rintro Wx5 ⟨bx9, bx10, bx11, bx12, HB⟩
  replace HB := Lib.hid HB
  -- region 6
  have BX9 := Lib.hid bx9
  have BX10 := Lib.hid bx10
  have BX11 := Lib.hid bx11
  have BX12 := Lib.hid bx12
  clear bx9 bx10 bx11 bx12
  refine wp_last_k fun K hK => ?_
  replace hK := Lib.hid hK
  refine wp_region_seqplan 2 [(true, 0), (true, 1)] (by rfl) (by simp) (fun T hT => ?_)
  iterate 2
    refine wpPlan_takeL (v := ?_) rfl (by rfl) (fun w' hw => ?_) ?_
    rotate_left
    · go_simp
      with_reducible rfl
    simp only [Act.put, rA, rB, rC]
  refine wpPlan_nil (hT.out _ _ ?_); clear hT T
  intro vw6 hg
  simp only [puts, Act.put, rA, rB, rC, rD, rE, ↓reduceIte, Nat.reduceEqDiff]
  have HG := Lib.hid (hg)
  clear hg
  replace BX9 := bG BX9 HG
  replace BX10 := bG BX10 HG
  replace BX11 := bG BX11 HG
  replace BX12 := bG BX12 HG
  have r0 := Gr.refl vw6
  go_wp2
  refine hK.out _ _ ?_; clear hK K
  show Code.rounds _ _ _ _ _ _
  rw [rounds_succ]
  clear r0
  refine forgetW (fun w2 => Bx w2 g 38 #[.int .u64 (lo b1.num.natAbs), .string (bg b1.num.natAbs), .bool (decide (b1.num < 0)), .int .u64 (lo (b1.den - 1)), .string (bg (b1.den - 1)), .int .u64 (lo b2.num.natAbs), .string (bg b2.num.natAbs), .bool (decide (b2.num < 0)), .int .u64 (lo (b2.den - 1)), .string (bg (b2.den - 1))] ∧ Bx w2 (w.heap.size) 38 #[.int .u64 (lo b1.num.natAbs), .string (bg b1.num.natAbs), .bool (decide (b1.num < 0)), .int .u64 (lo (b1.den - 1)), .string (bg (b1.den - 1)), .int .u64 (lo b2.num.natAbs), .string (bg b2.num.natAbs), .bool (decide (b2.num < 0)), .int .u64 (lo (b2.den - 1)), .string (bg (b2.den - 1))] ∧ Bx w2 (w.heap.size + 1) 38 #[.int .u64 0, .string ⟨#[]⟩, .bool false, .int .u64 0, .string ⟨#[]⟩, .int .u64 0, .string ⟨#[]⟩, .bool false, .int .u64 0, .string ⟨#[]⟩] ∧ Bx w2 gx12 38 #[.int .u64 (lo b1.num.natAbs), .string (bg b1.num.natAbs), .bool (decide (b1.num < 0)), .int .u64 (lo (b1.den - 1)), .string (bg (b1.den - 1)), .int .u64 (lo b2.num.natAbs), .string (bg b2.num.natAbs), .bool (decide (b2.num < 0)), .int .u64 (lo (b2.den - 1)), .string (bg (b2.den - 1))] ∧ Below w.heap.size w w2) ⟨BX9.out, BX10.out, BX11.out, BX12.out, HB.out.trans (HG.out.mono HB.out.size)⟩ ?_
  clear HB HG BX9 BX10 BX11 BX12
  rintro Wx6 ⟨bx9, bx10, bx11, bx12, HB⟩
  replace HB := Lib.hid HB
  -- region 2
  have BX9 := Lib.hid bx9
  have BX10 := Lib.hid bx10
  have BX11 := Lib.hid bx11
  have BX12 := Lib.hid bx12
  clear bx9 bx10 bx11 bx12
  refine wp_seq_k fun K hK => ?_
  replace hK := Lib.hid hK
  refine wp_region_seqplan 1 [(true, 0)] (by rfl) (by simp) (fun T hT => ?_)
  iterate 1
    refine wpPlan_takeL (v := ?_) rfl (by rfl) (fun w' hw => ?_) ?_
    rotate_left
    · go_simp
      with_reducible rfl
    simp only [Act.put, rA, rB, rC]
  refine wpPlan_nil (hT.out _ _ ?_); clear hT T
  intro vw7 hg
  simp only [puts, Act.put, rA, rB, rC, rD, rE, ↓reduceIte, Nat.reduceEqDiff]
  have HG := Lib.hid (hg)
  clear hg
  replace BX9 := bG BX9 HG
  replace BX10 := bG BX10 HG
  replace BX11 := bG BX11 HG
  replace BX12 := bG BX12 HG
  have r0 := Gr.refl vw7
  go_wp2
  refine hK.out _ _ ?_; clear hK K
  show Code.wp _ _ _ _ _
  clear r0
  refine forgetW (fun w2 => Bx w2 g 38 #[.int .u64 (lo b1.num.natAbs), .string (bg b1.num.natAbs), .bool (decide (b1.num < 0)), .int .u64 (lo (b1.den - 1)), .string (bg (b1.den - 1)), .int .u64 (lo b2.num.natAbs), .string (bg b2.num.natAbs), .bool (decide (b2.num < 0)), .int .u64 (lo (b2.den - 1)), .string (bg (b2.den - 1))] ∧ Bx w2 (w.heap.size) 38 #[.int .u64 (lo b1.num.natAbs), .string (bg b1.num.natAbs), .bool (decide (b1.num < 0)), .int .u64 (lo (b1.den - 1)), .string (bg (b1.den - 1)), .int .u64 (lo b2.num.natAbs), .string (bg b2.num.natAbs), .bool (decide (b2.num < 0)), .int .u64 (lo (b2.den - 1)), .string (bg (b2.den - 1))] ∧ Bx w2 (w.heap.size + 1) 38 #[.int .u64 0, .string ⟨#[]⟩, .bool false, .int .u64 0, .string ⟨#[]⟩, .int .u64 0, .string ⟨#[]⟩, .bool false, .int .u64 0, .string ⟨#[]⟩] ∧ Bx w2 gx12 38 #[.int .u64 (lo b1.num.natAbs), .string (bg b1.num.natAbs), .bool (decide (b1.num < 0)), .int .u64 (lo (b1.den - 1)), .string (bg (b1.den - 1)), .int .u64 (lo b2.num.natAbs), .string (bg b2.num.natAbs), .bool (decide (b2.num < 0)), .int .u64 (lo (b2.den - 1)), .string (bg (b2.den - 1))] ∧ Below w.heap.size w w2) ⟨BX9.out, BX10.out, BX11.out, BX12.out, HB.out.trans (HG.out.mono HB.out.size)⟩ ?_
  clear HB HG BX9 BX10 BX11 BX12
  rintro Wx2 ⟨bx9, bx10, bx11, bx12, HB⟩
  replace HB := Lib.hid HB
  refine wp_seq ?_
  refine wp_cond_false (by rfl) ?_
  refine wp_exit ?_
  show Code.wp _ _ _ _ _
  -- region 7
  have lx10 := bx10.cells
  have BX9 := Lib.hid bx9
  have BX10 := Lib.hid bx10
  have BX11 := Lib.hid bx11
  have BX12 := Lib.hid bx12
  clear bx9 bx10 bx11 bx12
  refine wp_seq_k fun K hK => ?_
  replace hK := Lib.hid hK
  refine wp_region_seqplan 1 [(true, 0)] (by rfl) (by simp) (fun T hT => ?_)
  iterate 1
    refine wpPlan_takeL (v := ?_) rfl (by rfl) (fun w' hw => ?_) ?_
    rotate_left
    · go_simp
      with_reducible rfl
    simp only [Act.put, rA, rB, rC]
  refine wpPlan_nil (hT.out _ _ ?_); clear hT T
  intro vw8 hg
  simp only [puts, Act.put, rA, rB, rC, rD, rE, ↓reduceIte, Nat.reduceEqDiff]
  clear lx10
  have HG := Lib.hid (hg)
  clear hg
  replace BX9 := bG BX9 HG
  replace BX10 := bG BX10 HG
  replace BX11 := bG BX11 HG
  replace BX12 := bG BX12 HG
  have lx11 := BX11.out.cells; have fx11 := BX11.out.free
  have r0 := Gr.refl vw8
  go_wp2
  refine hK.out _ _ ?_; clear hK K
  show Code.wp _ _ _ _ _
  clear lx11 fx11
  clear r0
  refine forgetW (fun w2 => Bx w2 (w.heap.size + 1) 38 #[.int .u64 (lo b1.num.natAbs), .string (bg b1.num.natAbs), .bool (decide (b1.num < 0)), .int .u64 (lo (b1.den - 1)), .string (bg (b1.den - 1)), .int .u64 (lo b2.num.natAbs), .string (bg b2.num.natAbs), .bool (decide (b2.num < 0)), .int .u64 (lo (b2.den - 1)), .string (bg (b2.den - 1))] ∧ Below w.heap.size w w2) ⟨(((((((((((BX11.out).set 0 _).set 1 _).set 2 _).set 3 _).set 4 _).set 5 _).set 6 _).set 7 _).set 8 _).set 9 _).eq (by simp only [rA, rB, rC]), sc10 (HB.out.trans (HG.out.mono HB.out.size)) (by show w.heap.size ≤ w.heap.size + 1; omega)⟩ ?_
  clear HB HG BX9 BX10 BX11 BX12
  rintro Wx7 ⟨bx11, HB⟩
  replace HB := Lib.hid HB
  refine wp_ret ?_
  try simp only [Exit.then, Exit.inBlock]
  have lx11 := bx11.cells
  have r0 := Gr.refl Wx7
  exact bodyPost_ret (v := .agg #[.int .u64 (lo b1.num.natAbs), .string (bg b1.num.natAbs), .bool (decide (b1.num < 0)), .int .u64 (lo (b1.den - 1)), .string (bg (b1.den - 1)), .int .u64 (lo b2.num.natAbs), .string (bg b2.num.natAbs), .bool (decide (b2.num < 0)), .int .u64 (lo (b2.den - 1)), .string (bg (b2.den - 1))]) (by simp [results, Tryz.results23, go_sem, lx11 _ r0]) rfl ⟨rfl, HB.out⟩

set_option maxHeartbeats 1000000 in
theorem pgreatest_false (a1 a2 b1 b2 : Rat) (g : Nat) (w : World) (bx9 : Bx w g 38 #[.int .u64 (lo b1.num.natAbs), .string (bg b1.num.natAbs), .bool (decide (b1.num < 0)), .int .u64 (lo (b1.den - 1)), .string (bg (b1.den - 1)), .int .u64 (lo b2.num.natAbs), .string (bg b2.num.natAbs), .bool (decide (b2.num < 0)), .int .u64 (lo (b2.den - 1)), .string (bg (b2.den - 1))]) (h : Hid (plt a1 a2 b1 b2 = false)) (hs_a1 : sz a1 ≤ 10000000000) (hs_a2 : sz a2 ≤ 10000000000) (hs_b1 : sz b1 ≤ 10000000000) (hs_b2 : sz b2 ≤ 10000000000) :
    Calls Tryz.prog 23 #[(Value.agg #[.int .u64 (lo a1.num.natAbs), .string (bg a1.num.natAbs), .bool (decide (a1.num < 0)), .int .u64 (lo (a1.den - 1)), .string (bg (a1.den - 1)), .int .u64 (lo a2.num.natAbs), .string (bg a2.num.natAbs), .bool (decide (a2.num < 0)), .int .u64 (lo (a2.den - 1)), .string (bg (a2.den - 1))]), (Value.slice (some ⟨g, 0, none⟩) 1 1)] w fun e w' => e = .returned (.agg #[.int .u64 (lo a1.num.natAbs), .string (bg a1.num.natAbs), .bool (decide (a1.num < 0)), .int .u64 (lo (a1.den - 1)), .string (bg (a1.den - 1)), .int .u64 (lo a2.num.natAbs), .string (bg a2.num.natAbs), .bool (decide (a2.num < 0)), .int .u64 (lo (a2.den - 1)), .string (bg (a2.den - 1))]) ∧ Below w.heap.size w w' := by
  go_enter Tryz.func23, Tryz.ntmps23
  have e9 := bx9.lt
  -- region 0
  refine wp_seq_k fun K hK => ?_
  replace hK := Lib.hid hK
  refine wp_region_lit ?_
  go_wp2
  refine hK.out _ _ ?_; clear hK K
  show Code.wp _ _ _ _ _
  refine forgetW (fun w2 => Bx w2 g 38 #[.int .u64 (lo b1.num.natAbs), .string (bg b1.num.natAbs), .bool (decide (b1.num < 0)), .int .u64 (lo (b1.den - 1)), .string (bg (b1.den - 1)), .int .u64 (lo b2.num.natAbs), .string (bg b2.num.natAbs), .bool (decide (b2.num < 0)), .int .u64 (lo (b2.den - 1)), .string (bg (b2.den - 1))] ∧ Bx w2 (w.heap.size) 38 #[.int .u64 (lo a1.num.natAbs), .string (bg a1.num.natAbs), .bool (decide (a1.num < 0)), .int .u64 (lo (a1.den - 1)), .string (bg (a1.den - 1)), .int .u64 (lo a2.num.natAbs), .string (bg a2.num.natAbs), .bool (decide (a2.num < 0)), .int .u64 (lo (a2.den - 1)), .string (bg (a2.den - 1))] ∧ Bx w2 (w.heap.size + 1) 38 #[.int .u64 0, .string ⟨#[]⟩, .bool false, .int .u64 0, .string ⟨#[]⟩, .int .u64 0, .string ⟨#[]⟩, .bool false, .int .u64 0, .string ⟨#[]⟩] ∧ Below w.heap.size w w2) ⟨((bx9).alloc _).alloc _, (Bx.at rfl).alloc _, Bx.at (by simp), ((Below.refl _ _).alloc (Nat.le_refl _) _).alloc (by simp) _⟩ ?_
  clear bx9
  rintro Wx ⟨bx9, bx10, bx11, HB⟩
  replace HB := Lib.hid HB
  refine wp_seq ?_
  -- region 1
  have BX9 := Lib.hid bx9
  have BX10 := Lib.hid bx10
  have BX11 := Lib.hid bx11
  clear bx9 bx10 bx11
  refine wp_seq_k fun K hK => ?_
  replace hK := Lib.hid hK
  refine wp_region_seqplan 3 [(true, 0), (true, 1), (true, 2)] (by rfl) (by simp) (fun T hT => ?_)
  iterate 3
    refine wpPlan_takeL (v := ?_) rfl (by rfl) (fun w' hw => ?_) ?_
    rotate_left
    · go_simp
      with_reducible rfl
    simp only [Act.put, rA, rB, rC]
  refine wpPlan_nil (hT.out _ _ ?_); clear hT T
  intro vw1 hg
  simp only [puts, Act.put, rA, rB, rC, rD, rE, ↓reduceIte, Nat.reduceEqDiff]
  have HG := Lib.hid (hg)
  clear hg
  replace BX9 := bG BX9 HG
  replace BX10 := bG BX10 HG
  replace BX11 := bG BX11 HG
  have r0 := Gr.refl vw1
  go_wp2
  refine hK.out _ _ ?_; clear hK K
  show Code.wp _ _ _ _ _
  clear r0
  refine forgetW (fun w2 => Bx w2 g 38 #[.int .u64 (lo b1.num.natAbs), .string (bg b1.num.natAbs), .bool (decide (b1.num < 0)), .int .u64 (lo (b1.den - 1)), .string (bg (b1.den - 1)), .int .u64 (lo b2.num.natAbs), .string (bg b2.num.natAbs), .bool (decide (b2.num < 0)), .int .u64 (lo (b2.den - 1)), .string (bg (b2.den - 1))] ∧ Bx w2 (w.heap.size) 38 #[.int .u64 (lo a1.num.natAbs), .string (bg a1.num.natAbs), .bool (decide (a1.num < 0)), .int .u64 (lo (a1.den - 1)), .string (bg (a1.den - 1)), .int .u64 (lo a2.num.natAbs), .string (bg a2.num.natAbs), .bool (decide (a2.num < 0)), .int .u64 (lo (a2.den - 1)), .string (bg (a2.den - 1))] ∧ Bx w2 (w.heap.size + 1) 38 #[.int .u64 0, .string ⟨#[]⟩, .bool false, .int .u64 0, .string ⟨#[]⟩, .int .u64 0, .string ⟨#[]⟩, .bool false, .int .u64 0, .string ⟨#[]⟩] ∧ Below w.heap.size w w2) ⟨BX9.out, BX10.out, BX11.out, HB.out.trans (HG.out.mono HB.out.size)⟩ ?_
  clear HB HG BX9 BX10 BX11
  rintro Wx1 ⟨bx9, bx10, bx11, HB⟩
  replace HB := Lib.hid HB
  refine wp_block ?_
  refine wp_loop_rounds 12 ?_
  rw [rounds_succ]
  -- region 2
  have BX9 := Lib.hid bx9
  have BX10 := Lib.hid bx10
  have BX11 := Lib.hid bx11
  clear bx9 bx10 bx11
  refine wp_seq_k fun K hK => ?_
  replace hK := Lib.hid hK
  refine wp_region_seqplan 1 [(true, 0)] (by rfl) (by simp) (fun T hT => ?_)
  iterate 1
    refine wpPlan_takeL (v := ?_) rfl (by rfl) (fun w' hw => ?_) ?_
    rotate_left
    · go_simp
      with_reducible rfl
    simp only [Act.put, rA, rB, rC]
  refine wpPlan_nil (hT.out _ _ ?_); clear hT T
  intro vw2 hg
  simp only [puts, Act.put, rA, rB, rC, rD, rE, ↓reduceIte, Nat.reduceEqDiff]
  have HG := Lib.hid (hg)
  clear hg
  replace BX9 := bG BX9 HG
  replace BX10 := bG BX10 HG
  replace BX11 := bG BX11 HG
  have r0 := Gr.refl vw2
  go_wp2
  refine hK.out _ _ ?_; clear hK K
  show Code.wp _ _ _ _ _
  clear r0
  refine forgetW (fun w2 => Bx w2 g 38 #[.int .u64 (lo b1.num.natAbs), .string (bg b1.num.natAbs), .bool (decide (b1.num < 0)), .int .u64 (lo (b1.den - 1)), .string (bg (b1.den - 1)), .int .u64 (lo b2.num.natAbs), .string (bg b2.num.natAbs), .bool (decide (b2.num < 0)), .int .u64 (lo (b2.den - 1)), .string (bg (b2.den - 1))] ∧ Bx w2 (w.heap.size) 38 #[.int .u64 (lo a1.num.natAbs), .string (bg a1.num.natAbs), .bool (decide (a1.num < 0)), .int .u64 (lo (a1.den - 1)), .string (bg (a1.den - 1)), .int .u64 (lo a2.num.natAbs), .string (bg a2.num.natAbs), .bool (decide (a2.num < 0)), .int .u64 (lo (a2.den - 1)), .string (bg (a2.den - 1))] ∧ Bx w2 (w.heap.size + 1) 38 #[.int .u64 0, .string ⟨#[]⟩, .bool false, .int .u64 0, .string ⟨#[]⟩, .int .u64 0, .string ⟨#[]⟩, .bool false, .int .u64 0, .string ⟨#[]⟩] ∧ Below w.heap.size w w2) ⟨BX9.out, BX10.out, BX11.out, HB.out.trans (HG.out.mono HB.out.size)⟩ ?_
  clear HB HG BX9 BX10 BX11
  rintro Wx2 ⟨bx9, bx10, bx11, HB⟩
  replace HB := Lib.hid HB
  refine wp_seq ?_
  refine wp_cond_true (by rfl) ?_
  refine wp_skip ?_
  show Code.wp _ _ _ _ _
  refine wp_seq ?_
  refine wp_block ?_
  -- region 3
  have lx9 := bx9.cells
  have BX9 := Lib.hid bx9
  have BX10 := Lib.hid bx10
  have BX11 := Lib.hid bx11
  clear bx9 bx10 bx11
  refine wp_seq_k fun K hK => ?_
  replace hK := Lib.hid hK
  refine wp_region_seqplan 2 [(true, 0), (true, 1)] (by rfl) (by simp) (fun T hT => ?_)
  iterate 2
    refine wpPlan_takeL (v := ?_) rfl (by rfl) (fun w' hw => ?_) ?_
    rotate_left
    · go_simp
      with_reducible rfl
    simp only [Act.put, rA, rB, rC]
  refine wpPlan_nil (hT.out _ _ ?_); clear hT T
  intro vw3 hg
  simp only [puts, Act.put, rA, rB, rC, rD, rE, ↓reduceIte, Nat.reduceEqDiff]
  clear lx9
  have HG := Lib.hid (hg)
  clear hg
  replace BX9 := bG BX9 HG
  replace BX10 := bG BX10 HG
  replace BX11 := bG BX11 HG
  have r0 := Gr.refl vw3
  go_wp2
  refine hK.out _ _ ?_; clear hK K
  show Code.wp _ _ _ _ _
  clear r0
  have hsz : w.heap.size ≤ vw3.heap.size := Nat.le_trans HB.out.size HG.out.size
  have mx9 : g < vw3.heap.size := BX9.out.lt
  have mx10 : w.heap.size < vw3.heap.size := BX10.out.lt
  have mx11 : w.heap.size + 1 < vw3.heap.size := BX11.out.lt
  refine forgetW (fun w2 => Bx w2 g 38 #[.int .u64 (lo b1.num.natAbs), .string (bg b1.num.natAbs), .bool (decide (b1.num < 0)), .int .u64 (lo (b1.den - 1)), .string (bg (b1.den - 1)), .int .u64 (lo b2.num.natAbs), .string (bg b2.num.natAbs), .bool (decide (b2.num < 0)), .int .u64 (lo (b2.den - 1)), .string (bg (b2.den - 1))] ∧ Bx w2 (w.heap.size) 38 #[.int .u64 (lo a1.num.natAbs), .string (bg a1.num.natAbs), .bool (decide (a1.num < 0)), .int .u64 (lo (a1.den - 1)), .string (bg (a1.den - 1)), .int .u64 (lo a2.num.natAbs), .string (bg a2.num.natAbs), .bool (decide (a2.num < 0)), .int .u64 (lo (a2.den - 1)), .string (bg (a2.den - 1))] ∧ Bx w2 (w.heap.size + 1) 38 #[.int .u64 0, .string ⟨#[]⟩, .bool false, .int .u64 0, .string ⟨#[]⟩, .int .u64 0, .string ⟨#[]⟩, .bool false, .int .u64 0, .string ⟨#[]⟩] ∧ Bx w2 (vw3.heap.size) 38 #[.int .u64 (lo b1.num.natAbs), .string (bg b1.num.natAbs), .bool (decide (b1.num < 0)), .int .u64 (lo (b1.den - 1)), .string (bg (b1.den - 1)), .int .u64 (lo b2.num.natAbs), .string (bg b2.num.natAbs), .bool (decide (b2.num < 0)), .int .u64 (lo (b2.den - 1)), .string (bg (b2.den - 1))] ∧ Below w.heap.size w w2) ⟨(BX9.out).alloc _, (BX10.out).alloc _, (BX11.out).alloc _, (Bx.at (by simp) : Bx _ (vw3.heap.size) _ _), (HB.out.trans (HG.out.mono HB.out.size)).alloc (by first | omega | (simp; omega)) _⟩ ?_
  clear HB HG BX9 BX10 BX11
  rintro Wx3 ⟨bx9, bx10, bx11, bx12, HB⟩
  replace HB := Lib.hid HB
  have yx12 : w.heap.size ≤ vw3.heap.size := by omega
  have qx9_12 : g < vw3.heap.size := by omega
  have qx10_12 : w.heap.size < vw3.heap.size := by omega
  have qx11_12 : w.heap.size + 1 < vw3.heap.size := by omega
  generalize hx12 : vw3.heap.size = gx12 at *
  clear hx12
  clear hsz mx9 mx10 mx11
  -- region 4
  have lx10 := bx10.cells
  have lx12 := bx12.cells
  have BX9 := Lib.hid bx9
  have BX10 := Lib.hid bx10
  have BX11 := Lib.hid bx11
  have BX12 := Lib.hid bx12
  clear bx9 bx10 bx11 bx12
  refine wp_seq_k fun K hK => ?_
  replace hK := Lib.hid hK
  refine wp_region_seqplan 3 [(true, 0), (true, 1), (true, 2)] (by rfl) (by simp) (fun T hT => ?_)
  iterate 2
    refine wpPlan_takeL (v := ?_) rfl (by rfl) (fun w' hw => ?_) ?_
    rotate_left
    · go_simp
      with_reducible rfl
    simp only [Act.put, rA, rB, rC]
  refine wpPlan_callL rfl (by rfl) Tryz.call21 (fun w' hw => pless_any (a1) (a2) (b1) (b2) false _ (h.out) (by omega) (by omega) (by omega) (by omega)) (by rfl) ?_
  simp only [Act.put, rA, rB, rC]
  refine wpPlan_nil (hT.out _ _ ?_); clear hT T
  intro vw4 hg
  simp only [puts, Act.put, rA, rB, rC, rD, rE, ↓reduceIte, Nat.reduceEqDiff]
  clear lx10 lx12
  have HG := Lib.hid (hg)
  clear hg
  replace BX9 := bG BX9 HG
  replace BX10 := bG BX10 HG
  replace BX11 := bG BX11 HG
  replace BX12 := bG BX12 HG
  have r0 := Gr.refl vw4
  go_wp2
  refine hK.out _ _ ?_; clear hK K
  show Code.wp _ _ _ _ _
  clear r0
  refine forgetW (fun w2 => Bx w2 g 38 #[.int .u64 (lo b1.num.natAbs), .string (bg b1.num.natAbs), .bool (decide (b1.num < 0)), .int .u64 (lo (b1.den - 1)), .string (bg (b1.den - 1)), .int .u64 (lo b2.num.natAbs), .string (bg b2.num.natAbs), .bool (decide (b2.num < 0)), .int .u64 (lo (b2.den - 1)), .string (bg (b2.den - 1))] ∧ Bx w2 (w.heap.size) 38 #[.int .u64 (lo a1.num.natAbs), .string (bg a1.num.natAbs), .bool (decide (a1.num < 0)), .int .u64 (lo (a1.den - 1)), .string (bg (a1.den - 1)), .int .u64 (lo a2.num.natAbs), .string (bg a2.num.natAbs), .bool (decide (a2.num < 0)), .int .u64 (lo (a2.den - 1)), .string (bg (a2.den - 1))] ∧ Bx w2 (w.heap.size + 1) 38 #[.int .u64 0, .string ⟨#[]⟩, .bool false, .int .u64 0, .string ⟨#[]⟩, .int .u64 0, .string ⟨#[]⟩, .bool false, .int .u64 0, .string ⟨#[]⟩] ∧ Bx w2 gx12 38 #[.int .u64 (lo b1.num.natAbs), .string (bg b1.num.natAbs), .bool (decide (b1.num < 0)), .int .u64 (lo (b1.den - 1)), .string (bg (b1.den - 1)), .int .u64 (lo b2.num.natAbs), .string (bg b2.num.natAbs), .bool (decide (b2.num < 0)), .int .u64 (lo (b2.den - 1)), .string (bg (b2.den - 1))] ∧ Below w.heap.size w w2) ⟨BX9.out, BX10.out, BX11.out, BX12.out, HB.out.trans (HG.out.mono HB.out.size)⟩ ?_
  clear HB HG BX9 BX10 BX11 BX12
  rintro Wx4 ⟨bx9, bx10, bx11, bx12, HB⟩
  replace HB := Lib.hid HB
  refine wp_cond_false (by rfl) ?_
  refine wp_skip ?_
  show Code.wp _ _ _ _ _
  -- region 6
  have BX9 := Lib.hid bx9
  have BX10 := Lib.hid bx10
  have BX11 := Lib.hid bx11
  have BX12 := Lib.hid bx12
  clear bx9 bx10 bx11 bx12
  refine wp_last_k fun K hK => ?_
  replace hK := Lib.hid hK
  refine wp_region_seqplan 2 [(true, 0), (true, 1)] (by rfl) (by simp) (fun T hT => ?_)
  iterate 2
    refine wpPlan_takeL (v := ?_) rfl (by rfl) (fun w' hw => ?_) ?_
    rotate_left
    · go_simp
      with_reducible rfl
    simp only [Act.put, rA, rB, rC]
  refine wpPlan_nil (hT.out _ _ ?_); clear hT T
  intro vw5 hg
  simp only [puts, Act.put, rA, rB, rC, rD, rE, ↓reduceIte, Nat.reduceEqDiff]
  have HG := Lib.hid (hg)
  clear hg
  replace BX9 := bG BX9 HG
  replace BX10 := bG BX10 HG
  replace BX11 := bG BX11 HG
  replace BX12 := bG BX12 HG
  have r0 := Gr.refl vw5
  go_wp2
  refine hK.out _ _ ?_; clear hK K
  show Code.rounds _ _ _ _ _ _
  rw [rounds_succ]
  clear r0
  refine forgetW (fun w2 => Bx w2 g 38 #[.int .u64 (lo b1.num.natAbs), .string (bg b1.num.natAbs), .bool (decide (b1.num < 0)), .int .u64 (lo (b1.den - 1)), .string (bg (b1.den - 1)), .int .u64 (lo b2.num.natAbs), .string (bg b2.num.natAbs), .bool (decide (b2.num < 0)), .int .u64 (lo (b2.den - 1)), .string (bg (b2.den - 1))] ∧ Bx w2 (w.heap.size) 38 #[.int .u64 (lo a1.num.natAbs), .string (bg a1.num.natAbs), .bool (decide (a1.num < 0)), .int .u64 (lo (a1.den - 1)), .string (bg (a1.den - 1)), .int .u64 (lo a2.num.natAbs), .string (bg a2.num.natAbs), .bool (decide (a2.num < 0)), .int .u64 (lo (a2.den - 1)), .string (bg (a2.den - 1))] ∧ Bx w2 (w.heap.size + 1) 38 #[.int .u64 0, .string ⟨#[]⟩, .bool false, .int .u64 0, .string ⟨#[]⟩, .int .u64 0, .string ⟨#[]⟩, .bool false, .int .u64 0, .string ⟨#[]⟩] ∧ Bx w2 gx12 38 #[.int .u64 (lo b1.num.natAbs), .string (bg b1.num.natAbs), .bool (decide (b1.num < 0)), .int .u64 (lo (b1.den - 1)), .string (bg (b1.den - 1)), .int .u64 (lo b2.num.natAbs), .string (bg b2.num.natAbs), .bool (decide (b2.num < 0)), .int .u64 (lo (b2.den - 1)), .string (bg (b2.den - 1))] ∧ Below w.heap.size w w2) ⟨BX9.out, BX10.out, BX11.out, BX12.out, HB.out.trans (HG.out.mono HB.out.size)⟩ ?_
  clear HB HG BX9 BX10 BX11 BX12
  rintro Wx6 ⟨bx9, bx10, bx11, bx12, HB⟩
  replace HB := Lib.hid HB
  -- region 2
  have BX9 := Lib.hid bx9
  have BX10 := Lib.hid bx10
  have BX11 := Lib.hid bx11
  have BX12 := Lib.hid bx12
  clear bx9 bx10 bx11 bx12
  refine wp_seq_k fun K hK => ?_
  replace hK := Lib.hid hK
  refine wp_region_seqplan 1 [(true, 0)] (by rfl) (by simp) (fun T hT => ?_)
  iterate 1
    refine wpPlan_takeL (v := ?_) rfl (by rfl) (fun w' hw => ?_) ?_
    rotate_left
    · go_simp
      with_reducible rfl
    simp only [Act.put, rA, rB, rC]
  refine wpPlan_nil (hT.out _ _ ?_); clear hT T
  intro vw6 hg
  simp only [puts, Act.put, rA, rB, rC, rD, rE, ↓reduceIte, Nat.reduceEqDiff]
  have HG := Lib.hid (hg)
  clear hg
  replace BX9 := bG BX9 HG
  replace BX10 := bG BX10 HG
  replace BX11 := bG BX11 HG
  replace BX12 := bG BX12 HG
  have r0 := Gr.refl vw6
  go_wp2
  refine hK.out _ _ ?_; clear hK K
  show Code.wp _ _ _ _ _
  clear r0
  refine forgetW (fun w2 => Bx w2 g 38 #[.int .u64 (lo b1.num.natAbs), .string (bg b1.num.natAbs), .bool (decide (b1.num < 0)), .int .u64 (lo (b1.den - 1)), .string (bg (b1.den - 1)), .int .u64 (lo b2.num.natAbs), .string (bg b2.num.natAbs), .bool (decide (b2.num < 0)), .int .u64 (lo (b2.den - 1)), .string (bg (b2.den - 1))] ∧ Bx w2 (w.heap.size) 38 #[.int .u64 (lo a1.num.natAbs), .string (bg a1.num.natAbs), .bool (decide (a1.num < 0)), .int .u64 (lo (a1.den - 1)), .string (bg (a1.den - 1)), .int .u64 (lo a2.num.natAbs), .string (bg a2.num.natAbs), .bool (decide (a2.num < 0)), .int .u64 (lo (a2.den - 1)), .string (bg (a2.den - 1))] ∧ Bx w2 (w.heap.size + 1) 38 #[.int .u64 0, .string ⟨#[]⟩, .bool false, .int .u64 0, .string ⟨#[]⟩, .int .u64 0, .string ⟨#[]⟩, .bool false, .int .u64 0, .string ⟨#[]⟩] ∧ Bx w2 gx12 38 #[.int .u64 (lo b1.num.natAbs), .string (bg b1.num.natAbs), .bool (decide (b1.num < 0)), .int .u64 (lo (b1.den - 1)), .string (bg (b1.den - 1)), .int .u64 (lo b2.num.natAbs), .string (bg b2.num.natAbs), .bool (decide (b2.num < 0)), .int .u64 (lo (b2.den - 1)), .string (bg (b2.den - 1))] ∧ Below w.heap.size w w2) ⟨BX9.out, BX10.out, BX11.out, BX12.out, HB.out.trans (HG.out.mono HB.out.size)⟩ ?_
  clear HB HG BX9 BX10 BX11 BX12
  rintro Wx2 ⟨bx9, bx10, bx11, bx12, HB⟩
  replace HB := Lib.hid HB
  refine wp_seq ?_
  refine wp_cond_false (by rfl) ?_
  refine wp_exit ?_
  show Code.wp _ _ _ _ _
  -- region 7
  have lx10 := bx10.cells
  have BX9 := Lib.hid bx9
  have BX10 := Lib.hid bx10
  have BX11 := Lib.hid bx11
  have BX12 := Lib.hid bx12
  clear bx9 bx10 bx11 bx12
  refine wp_seq_k fun K hK => ?_
  replace hK := Lib.hid hK
  refine wp_region_seqplan 1 [(true, 0)] (by rfl) (by simp) (fun T hT => ?_)
  iterate 1
    refine wpPlan_takeL (v := ?_) rfl (by rfl) (fun w' hw => ?_) ?_
    rotate_left
    · go_simp
      with_reducible rfl
    simp only [Act.put, rA, rB, rC]
  refine wpPlan_nil (hT.out _ _ ?_); clear hT T
  intro vw7 hg
  simp only [puts, Act.put, rA, rB, rC, rD, rE, ↓reduceIte, Nat.reduceEqDiff]
  clear lx10
  have HG := Lib.hid (hg)
  clear hg
  replace BX9 := bG BX9 HG
  replace BX10 := bG BX10 HG
  replace BX11 := bG BX11 HG
  replace BX12 := bG BX12 HG
  have lx11 := BX11.out.cells; have fx11 := BX11.out.free
  have r0 := Gr.refl vw7
  go_wp2
  refine hK.out _ _ ?_; clear hK K
  show Code.wp _ _ _ _ _
  clear lx11 fx11
  clear r0
  refine forgetW (fun w2 => Bx w2 (w.heap.size + 1) 38 #[.int .u64 (lo a1.num.natAbs), .string (bg a1.num.natAbs), .bool (decide (a1.num < 0)), .int .u64 (lo (a1.den - 1)), .string (bg (a1.den - 1)), .int .u64 (lo a2.num.natAbs), .string (bg a2.num.natAbs), .bool (decide (a2.num < 0)), .int .u64 (lo (a2.den - 1)), .string (bg (a2.den - 1))] ∧ Below w.heap.size w w2) ⟨(((((((((((BX11.out).set 0 _).set 1 _).set 2 _).set 3 _).set 4 _).set 5 _).set 6 _).set 7 _).set 8 _).set 9 _).eq (by simp only [rA, rB, rC]), sc10 (HB.out.trans (HG.out.mono HB.out.size)) (by show w.heap.size ≤ w.heap.size + 1; omega)⟩ ?_
  clear HB HG BX9 BX10 BX11 BX12
  rintro Wx7 ⟨bx11, HB⟩
  replace HB := Lib.hid HB
  refine wp_ret ?_
  try simp only [Exit.then, Exit.inBlock]
  have lx11 := bx11.cells
  have r0 := Gr.refl Wx7
  exact bodyPost_ret (v := .agg #[.int .u64 (lo a1.num.natAbs), .string (bg a1.num.natAbs), .bool (decide (a1.num < 0)), .int .u64 (lo (a1.den - 1)), .string (bg (a1.den - 1)), .int .u64 (lo a2.num.natAbs), .string (bg a2.num.natAbs), .bool (decide (a2.num < 0)), .int .u64 (lo (a2.den - 1)), .string (bg (a2.den - 1))]) (by simp [results, Tryz.results23, go_sem, lx11 _ r0]) rfl ⟨rfl, HB.out⟩

theorem pgreatest_any (a1 a2 b1 b2 m1 m2 : Rat) (g : Nat) (w : World) (bx9 : Bx w g 38 #[.int .u64 (lo b1.num.natAbs), .string (bg b1.num.natAbs), .bool (decide (b1.num < 0)), .int .u64 (lo (b1.den - 1)), .string (bg (b1.den - 1)), .int .u64 (lo b2.num.natAbs), .string (bg b2.num.natAbs), .bool (decide (b2.num < 0)), .int .u64 (lo (b2.den - 1)), .string (bg (b2.den - 1))]) (r : Bool) (h : plt a1 a2 b1 b2 = r) (hm1 : (if r then b1 else a1) = m1) (hm2 : (if r then b2 else a2) = m2) (hs_a1 : sz a1 ≤ 10000000000) (hs_a2 : sz a2 ≤ 10000000000) (hs_b1 : sz b1 ≤ 10000000000) (hs_b2 : sz b2 ≤ 10000000000) :
    Calls Tryz.prog 23 #[(Value.agg #[.int .u64 (lo a1.num.natAbs), .string (bg a1.num.natAbs), .bool (decide (a1.num < 0)), .int .u64 (lo (a1.den - 1)), .string (bg (a1.den - 1)), .int .u64 (lo a2.num.natAbs), .string (bg a2.num.natAbs), .bool (decide (a2.num < 0)), .int .u64 (lo (a2.den - 1)), .string (bg (a2.den - 1))]), .slice (some ⟨g, 0, none⟩) 1 1] w fun e w' => e = .returned (.agg #[.int .u64 (lo m1.num.natAbs), .string (bg m1.num.natAbs), .bool (decide (m1.num < 0)), .int .u64 (lo (m1.den - 1)), .string (bg (m1.den - 1)), .int .u64 (lo m2.num.natAbs), .string (bg m2.num.natAbs), .bool (decide (m2.num < 0)), .int .u64 (lo (m2.den - 1)), .string (bg (m2.den - 1))]) ∧ Below w.heap.size w w' := by
  subst hm1 hm2
  cases r
  · exact pgreatest_false a1 a2 b1 b2 g w bx9 (Lib.hid h) hs_a1 hs_a2 hs_b1 hs_b2
  · exact pgreatest_true a1 a2 b1 b2 g w bx9 (Lib.hid h) hs_a1 hs_a2 hs_b1 hs_b2

end Go.Proofs.YtenpbnmmadbkdaaGreat


/- Regions that draw their order, with slice literals that may be made ahead of their time. Condition: the Bool 'earlyB' of the region's own edges. -/
namespace Go.Proofs.YtenpbnmmadbkdaaGreat
open Go.RowKit

section
variable {P : Program} {ops : Array Oper} {md : Region.Mode} {W0 : World} {Cs : Nat → Nat × Array Value × TypeId}

def slOf (Cs : Nat → Nat × Array Value × TypeId) (g : Nat → Nat) (j : Nat) : Value := .slice (some ⟨g j, 0, none⟩) (Cs j).1 (Cs j).1
def dstOf (ops : Array Oper) (j : Nat) : Option Tmp := (ops[j]?).bind (·.dst)
/-- a slice literal that can be made in whatever world -/
def Makes (P : Program) (ops : Array Oper) (Cs : Nat → Nat × Array Value × TypeId) (j : Nat) (a : Act) : Prop :=
  ∃ o, ops[j]? = some o ∧ Region.wanted o (yielded ops a.tmps) = true ∧ ∀ w', (execOp a.eval o).run P w' = .ok (.value (.slice (some ⟨w'.heap.size, 0, none⟩) (Cs j).1 (Cs j).1)) (w'.alloc (.cells (Cs j).2.1 (Cs j).2.2))

/-- kinds: 0 taken, 1 a slice literal may be made from here on, 2 it is made by now -/
def wpEarly (P : Program) (ops : Array Oper) (W0 : World) (Cs : Nat → Nat × Array Value × TypeId) (T : Act → World → Prop) : List (Nat × Nat) → Act → World → Prop
  | [], a, w => T a w
  | (0, i) :: r, a, w => ∃ o v, ops[i]? = some o ∧ Yg P ops w o v a ∧ wpEarly P ops W0 Cs T r (a.put o.dst v) w
  | (1, i) :: r, a, w => Makes P ops Cs i a ∧ wpEarly P ops W0 Cs T r a w
  | (_ + 2, i) :: r, a, w => ∀ g w1, Gr w w1 → W0.heap.size ≤ g → Bx w1 g (Cs i).2.2 (Cs i).2.1 → wpEarly P ops W0 Cs T r (a.put (dstOf ops i) (.slice (some ⟨g, 0, none⟩) (Cs i).1 (Cs i).1)) w1

def cnt : List (Nat × Nat) → Nat
  | [] => 0
  | (1, _) :: r => cnt r
  | _ :: r => cnt r + 1
def uses : List (Nat × Nat) → Nat
  | [] => 0
  | (0, _) :: r => uses r
  | (1, _) :: r => uses r
  | (_ + 2, _) :: r => uses r + 1
theorem uses_le : ∀ plan : List (Nat × Nat), uses plan ≤ cnt plan
  | [] => Nat.le_refl _
  | (0, _) :: r => Nat.le_succ_of_le (uses_le r)
  | (1, _) :: r => uses_le r
  | (_ + 2, _) :: r => Nat.succ_le_succ (uses_le r)

def apartAt (ops : Array Oper) (i j : Nat) : Bool := match ops[i]?, ops[j]? with | some oi, some oj => oi.apart ops oj | _, _ => false
def markAll : List Nat → Array Bool → Array Bool
  | [], listed => listed
  | j :: js, listed => markAll js (listed.setIfInBounds j true)
def earlyPlanB (md : Region.Mode) (ops : Array Oper) (n : Nat) : List (Nat × Nat) → Array Bool → List Nat → Bool
  | [], listed, mk => decide (listed = canon n ops.size) && mk.isEmpty
  | (0, i) :: r, listed, mk => decide (i < n) && ((Region.ready md ops listed).contains i && (Region.free md ops listed i && (mk.all (fun j => apartAt ops j i) && earlyPlanB md ops n r (listed.setIfInBounds i true) mk)))
  | (1, i) :: r, listed, mk => decide (i < n) && ((Region.ready md ops listed).contains i && (mk.all (fun j => j != i && (apartAt ops j i && apartAt ops i j)) && ((dstOf ops i).isSome && earlyPlanB md ops n r listed (i :: mk))))
  | (_ + 2, i) :: r, listed, mk => mk.contains i && ((Region.ready md ops (markAll (mk.erase i) listed)).all (fun j => mk.contains j) && earlyPlanB md ops n r (listed.setIfInBounds i true) (mk.erase i))

theorem mk_le {n : Nat} : ∀ (plan : List (Nat × Nat)) (listed : Array Bool) (mk : List Nat), earlyPlanB md ops n plan listed mk = true → mk.length ≤ uses plan
  | [], listed, mk, h => by simp [earlyPlanB] at h; simp [h.2]
  | (0, i) :: r, listed, mk, h => by simp only [earlyPlanB, Bool.and_eq_true] at h; exact mk_le r _ mk h.2.2.2.2
  | (1, i) :: r, listed, mk, h => by
    simp only [earlyPlanB, Bool.and_eq_true] at h
    have := mk_le r _ _ h.2.2.2.2
    simp only [List.length_cons] at this
    exact Nat.le_of_succ_le this
  | (_ + 2, i) :: r, listed, mk, h => by
    simp only [earlyPlanB, Bool.and_eq_true] at h
    have h1 := mk_le r _ _ h.2.2
    rw [List.length_erase_of_mem (by simpa using h.1)] at h1
    show mk.length ≤ uses r + 1
    omega

def putE (ops : Array Oper) (Cs : Nat → Nat × Array Value × TypeId) (g : Nat → Nat) : List Nat → Act → Act
  | [], a => a
  | j :: js, a => putE ops Cs g js (a.put (dstOf ops j) (slOf Cs g j))
theorem dstOf_of {j : Nat} {o : Oper} (h : ops[j]? = some o) : dstOf ops j = o.dst := by simp [dstOf, h]
theorem apartAt_spec {i j : Nat} (h : apartAt ops i j = true) : ∃ oi oj, ops[i]? = some oi ∧ ops[j]? = some oj ∧ oi.apart ops oj = true := by
  unfold apartAt at h
  split at h
  · rename_i oi oj hi hj; exact ⟨oi, oj, hi, hj, h⟩
  · cases h
theorem putE_apart (hsel : Region.noSelect ops = true) {g : Nat → Nat} {i : Nat} {o : Oper} (ho : ops[i]? = some o) : ∀ (E : List Nat) (a : Act), (∀ j ∈ E, apartAt ops j i = true) →
    execOp (putE ops Cs g E a).eval o = execOp a.eval o ∧ Region.wanted o (yielded ops (putE ops Cs g E a).tmps) = Region.wanted o (yielded ops a.tmps) ∧ ∀ v, (putE ops Cs g E a).put o.dst v = putE ops Cs g E (a.put o.dst v)
  | [], a, _ => ⟨rfl, rfl, fun _ => rfl⟩
  | j :: E, a, h => by
    obtain ⟨oj, oi, hj, hi, hap⟩ := apartAt_spec (h j (by simp))
    obtain rfl : oi = o := Option.some.inj (hi.symm.trans ho)
    obtain ⟨h1, h2, h3⟩ := Oper.apart_spec hap
    obtain ⟨e1, e2, e3⟩ := putE_apart hsel ho (g := g) E (a.put (dstOf ops j) (slOf Cs g j)) (fun k hk => h k (by simp [hk]))
    have hd := dstOf_of hj
    refine ⟨?_, ?_, fun v => ?_⟩
    · show execOp (putE ops Cs g E _).eval oi = _
      rw [e1, hd]
      exact execOp_put oi (fun cs b => Region.noSelect_spec hsel i oi cs b ho) a oj.dst _ h1
    · show Region.wanted oi (yielded ops (putE ops Cs g E _).tmps) = _
      rw [e2, hd]
      exact wanted_put oi a oj.dst _ h1
    · show (putE ops Cs g E _).put oi.dst v = putE ops Cs g E _
      rw [e3, hd]
      congr 1
      exact Act.put_comm a _ v (fun d hd' => h2 d hd')
theorem putE_put (g : Nat → Nat) {d : Option Tmp} {v : Value} : ∀ (E : List Nat) (a : Act), (∀ j ∈ E, ∀ t, dstOf ops j = some t → d ≠ some t) → putE ops Cs g E (a.put d v) = (putE ops Cs g E a).put d v
  | [], _, _ => rfl
  | j :: E, a, h => by
    unfold putE
    rw [← Act.put_comm a (x := dstOf ops j) (y := d) (slOf Cs g j) v (fun t ht => h j (by simp) t ht)]
    exact putE_put g E _ (fun k hk => h k (by simp [hk]))
theorem putE_congr {g g' : Nat → Nat} : ∀ (E : List Nat) (a : Act), (∀ j ∈ E, g j = g' j) → putE ops Cs g E a = putE ops Cs g' E a
  | [], _, _ => rfl
  | j :: E, a, h => by
    unfold putE
    rw [show slOf Cs g j = slOf Cs g' j by unfold slOf; rw [h j (by simp)]]
    exact putE_congr E _ (fun k hk => h k (by simp [hk]))
theorem putE_erase {g : Nat → Nat} {i : Nat} : ∀ (E : List Nat) (a : Act), i ∈ E → E.Nodup → (∀ j ∈ E, ∀ k ∈ E, j ≠ k → ∀ t, dstOf ops j = some t → dstOf ops k ≠ some t) → putE ops Cs g E a = putE ops Cs g (E.erase i) (a.put (dstOf ops i) (slOf Cs g i))
  | [], _, h, _, _ => by cases h
  | j :: E, a, h, hnd, hD => by
    by_cases e : j = i
    · subst e; rw [List.erase_cons_head]; rfl
    · rw [List.erase_cons_tail (by simpa using e)]
      unfold putE
      have hi : i ∈ E := by
        rcases List.mem_cons.1 h with h | h
        · exact absurd h.symm e
        · exact h
      rw [putE_erase E _ hi (List.nodup_cons.1 hnd).2 (fun j hj k hk => hD j (by simp [hj]) k (by simp [hk]))]
      congr 1
      exact Act.put_comm a _ _ (fun t ht => hD j (by simp) i (by simp [hi]) e t ht)

theorem Yg.to_putE (hsel : Region.noSelect ops = true) {W : World} {g : Nat → Nat} {i : Nat} {o : Oper} {v : Value} {E : List Nat} {a : Act} (ho : ops[i]? = some o) (h : ∀ j ∈ E, apartAt ops j i = true) (hy : Yg P ops W o v a) : Yg P ops W o v (putE ops Cs g E a) := by
  obtain ⟨e1, e2, _⟩ := putE_apart (Cs := Cs) hsel (g := g) ho E a h
  exact hy.of_same e1 e2
theorem Makes.to_putE (hsel : Region.noSelect ops = true) {g : Nat → Nat} {i : Nat} {E : List Nat} {a : Act} (h : ∀ j ∈ E, apartAt ops j i = true) (hy : Makes P ops Cs i a) : Makes P ops Cs i (putE ops Cs g E a) := by
  obtain ⟨o, ho, hw, hr⟩ := hy
  obtain ⟨e1, e2, _⟩ := putE_apart (Cs := Cs) hsel (g := g) ho E a h
  exact ⟨o, ho, by rw [e2]; exact hw, fun w' => by rw [e1]; exact hr w'⟩
theorem Makes.put (hsel : Region.noSelect ops = true) {i j : Nat} {o : Oper} {a : Act} {v : Value} (ho : ops[i]? = some o) (h : apartAt ops i j = true ∨ apartAt ops j i = true) (hy : Makes P ops Cs j a) : Makes P ops Cs j (a.put o.dst v) := by
  obtain ⟨oj, hoj, hw, hr⟩ := hy
  have hl : ∀ d, o.dst = some d → d ∉ oj.looksAt ops := by
    rcases h with h | h
    · obtain ⟨x, y, hx, hy, hap⟩ := apartAt_spec h
      obtain rfl : x = o := Option.some.inj (hx.symm.trans ho)
      obtain rfl : y = oj := Option.some.inj (hy.symm.trans hoj)
      exact (Oper.apart_spec hap).1
    · obtain ⟨x, y, hx, hy, hap⟩ := apartAt_spec h
      obtain rfl : x = oj := Option.some.inj (hx.symm.trans hoj)
      obtain rfl : y = o := Option.some.inj (hy.symm.trans ho)
      exact (Oper.apart_spec hap).2.2
  exact ⟨oj, hoj, by rw [wanted_put oj a o.dst v hl]; exact hw, fun w' => by rw [execOp_put oj (fun cs b => Region.noSelect_spec hsel j oj cs b hoj) a o.dst v hl]; exact hr w'⟩

theorem markAll_getD : ∀ (js : List Nat) (listed : Array Bool) (d : Bool) (i : Nat), (i < listed.size) → (markAll js listed).getD i d = (js.contains i || listed.getD i d)
  | [], _, _, _, _ => by simp [markAll]
  | j :: js, listed, d, i, h => by
    rw [markAll, markAll_getD js _ d i (by simpa using h)]
    by_cases e : j = i
    · subst e; simp [h]
    · rw [getD_set_ne d e]
      have e2 : ¬ i = j := fun e' => e e'.symm
      simp [e2]

theorem wpGL_early {n : Nat} {T : Act → World → Prop} (hsel : Region.noSelect ops = true) (hn : n < ops.size) (hT : ∀ a w w', Gr w w' → T a w → T a w') (hdone : ∀ j ∈ Region.ready md ops (canon n ops.size), n ≤ j) :
    ∀ (plan : List (Nat × Nat)) (f : Nat) (mk E : List Nat) (g : Nat → Nat) (listed listedR : Array Bool) (a aR : Act) (w wR : World), f + E.length = cnt plan → earlyPlanB md ops n plan listed mk = true → E.Nodup → (∀ j ∈ E, j ∈ mk) → mk.Nodup →
      HeadInv md ops n listedR → listed.size = ops.size → (∀ i, listedR.getD i true = false ↔ (listed.getD i true = false ∧ i ∉ E)) → (∀ i, listed.getD i false = true → listedR.getD i false = true) →
      (∀ j ∈ mk, j < n ∧ j ∈ Region.ready md ops listed ∧ (dstOf ops j).isSome = true ∧ (j ∉ E → Makes P ops Cs j aR)) → (∀ j ∈ mk, ∀ k ∈ mk, j ≠ k → apartAt ops j k = true) →
      (∀ j ∈ E, W0.heap.size ≤ g j ∧ Bx wR (g j) (Cs j).2.2 (Cs j).2.1) → Gr W0 w → Gr w wR → aR = putE ops Cs g E a → wpEarly P ops W0 Cs T plan a w →
      wpGL P md ops n (fun listed a w => listed = canon n ops.size ∧ T a w) f listedR aR wR := by
  intro plan
  induction plan with
  | nil =>
    intro f mk E g listed listedR a aR w wR hf hB _ hEm _ inv hsz hl hl2 _ _ _ _ hg hE h
    simp only [earlyPlanB, Bool.and_eq_true, decide_eq_true_eq, List.isEmpty_iff] at hB
    have hE0 : E = [] := by
      cases E with
      | nil => rfl
      | cons j E => have := hEm j (by simp); rw [hB.2] at this; cases this
    subst hE0
    have hf0 : f = 0 := by simpa [cnt] using hf
    subst hf0
    subst hE
    refine ⟨?_, hT _ _ _ hg h⟩
    refine Array.ext (by rw [inv.size]; simp [canon]) fun i h1 h2 => ?_
    have h3 := hl i
    rw [hB.1] at h3
    have h4 : i < (canon n ops.size).size := h2
    simp [h1, h4] at h3
    cases hx : listedR[i] <;> cases hy : (canon n ops.size)[i] <;> simp_all
  | cons s r ih =>
    obtain ⟨k, i⟩ := s
    match k with
    | 0 =>
      intro f mk E g listed listedR a aR w wR hf hB hEn hEm hmn inv hsz hl hl2 hmk hap hEb hW hg hE h
      have hB0 := hB
      simp only [earlyPlanB, Bool.and_eq_true, decide_eq_true_eq, List.all_eq_true] at hB
      obtain ⟨hin, hr, hfr, hma, hB'⟩ := hB
      obtain ⟨o, v, ho, hy, hK⟩ := h
      have hr' : i ∈ Region.ready md ops listed := by simpa using hr
      have hle := mk_le r _ _ hB'
      have hle2 : E.length ≤ mk.length := List.Nodup.length_le_of_subset hEn hEm
      have hle3 := uses_le r
      obtain ⟨f, rfl⟩ : ∃ f', f = f' + 1 := ⟨f - 1, by simp only [cnt] at hf; omega⟩
      have hiE : i ∉ E := fun hi => by
        have h1 := hma i (hEm i hi)
        obtain ⟨x, y, hx, hy2, hap2⟩ := apartAt_spec h1
        obtain rfl : x = o := Option.some.inj (hx.symm.trans ho)
        obtain rfl : y = x := Option.some.inj (hy2.symm.trans ho)
        have h3 := (hmk i (hEm i hi)).2.2.1
        rw [dstOf_of ho] at h3
        obtain ⟨d, hd⟩ := Option.isSome_iff_exists.1 h3
        exact (Oper.apart_spec hap2).2.1 d hd hd
      have hun := (mem_ready.1 hr').1
      have hrR : i ∈ Region.ready md ops listedR := by
        obtain ⟨_, o', ho', hall⟩ := mem_ready.1 hr'
        exact mem_ready.2 ⟨(hl i).2 ⟨hun, hiE⟩, o', ho', fun e he hb => hl2 _ (hall e he hb)⟩
      have hyR : Yg P ops wR o v aR := by
        rw [hE]
        have hy2 : Yg P ops wR o v a := hy.imp (fun h => ⟨h.1, fun w2 hw2 => h.2 w2 (hg.trans hw2)⟩) (fun h => h)
        exact Yg.to_putE hsel ho (fun j hj => hma j (hEm j hj)) hy2
      refine wpGL_first (W := wR) ho (Region.noSelect_spec hsel) hin (fun _ _ _ _ hg h => ⟨h.1, hT _ _ _ hg h.2⟩) (fun listed a w h j hj => by rw [h.1] at hj; exact hdone j hj) f listedR aR wR (Gr.refl _)
        (fun j oj hoj hne hunj hno => Region.free_spec ho hfr j oj hoj hne ((hl j).1 hunj).1 hno) hrR hyR ?_
      refine ih f mk E g _ _ (a.put o.dst v) _ w wR (by simp only [cnt] at hf; omega) hB' hEn hEm hmn (inv.set hrR hin) (by simp [hsz]) (fun j => ?_) (fun j hj => ?_) (fun j hj => ?_) hap hEb hW hg ?_ hK
      · by_cases e : i = j
        · subst e
          have h1 : i < listed.size := by rw [hsz]; omega
          have h2 : i < listedR.size := by rw [inv.size]; omega
          simp [h1, h2]
        · rw [getD_set_ne true e, getD_set_ne true e]; exact hl j
      · by_cases e : i = j
        · subst e
          have h2 : i < listedR.size := by rw [inv.size]; omega
          simp [h2]
        · rw [getD_set_ne false e] at hj ⊢; exact hl2 j hj
      · obtain ⟨h1, h2, h3, h4⟩ := hmk j hj
        have hji : j ≠ i := fun e => by
          subst e
          have h5 := hma j hj
          obtain ⟨x, y, hx, hy2, hap2⟩ := apartAt_spec h5
          obtain rfl : x = o := Option.some.inj (hx.symm.trans ho)
          obtain rfl : y = x := Option.some.inj (hy2.symm.trans ho)
          rw [dstOf_of ho] at h3
          obtain ⟨d, hd⟩ := Option.isSome_iff_exists.1 h3
          exact (Oper.apart_spec hap2).2.1 d hd hd
        exact ⟨h1, ready_mono h2 hji, h3, fun hjE => (h4 hjE).put hsel ho (.inr (hma j hj))⟩
      · rw [hE]
        exact (putE_apart (Cs := Cs) hsel (g := g) ho E a (fun j hj => hma j (hEm j hj))).2.2 v
    | 1 =>
      intro f mk E g listed listedR a aR w wR hf hB hEn hEm hmn inv hsz hl hl2 hmk hap hEb hW hg hE h
      simp only [earlyPlanB, Bool.and_eq_true, decide_eq_true_eq, List.all_eq_true] at hB
      obtain ⟨hin, hr, hma, hds, hB'⟩ := hB
      obtain ⟨hM, hK⟩ := h
      have hr' : i ∈ Region.ready md ops listed := by simpa using hr
      have him : i ∉ mk := fun hi => by have := (hma i hi).1; simp at this
      refine ih f (i :: mk) E g listed listedR a aR w wR hf hB' hEn (fun j hj => by simp [hEm j hj]) (List.nodup_cons.2 ⟨him, hmn⟩) inv hsz hl hl2 (fun j hj => ?_) (fun j hj k hk hne => ?_) hEb hW hg hE hK
      · rcases List.mem_cons.1 hj with rfl | hj
        · exact ⟨hin, hr', hds, fun _ => by rw [hE]; exact hM.to_putE hsel (fun k hk => (hma k (hEm k hk)).2.1)⟩
        · exact hmk j hj
      · rcases List.mem_cons.1 hj with h1 | h1 <;> rcases List.mem_cons.1 hk with h2 | h2
        · exact absurd (h1.trans h2.symm) hne
        · rw [h1]; exact (hma _ h2).2.2
        · rw [h2]; exact (hma _ h1).2.1
        · exact hap j h1 k h2 hne
    | q + 2 =>
      have use : ∀ (f : Nat) (mk E : List Nat) (g : Nat → Nat) (listed listedR : Array Bool) (a aR : Act) (w wR : World), i ∈ E → f + E.length = cnt ((q + 2, i) :: r) → earlyPlanB md ops n ((q + 2, i) :: r) listed mk = true → E.Nodup → (∀ j ∈ E, j ∈ mk) → mk.Nodup →
          HeadInv md ops n listedR → listed.size = ops.size → (∀ i, listedR.getD i true = false ↔ (listed.getD i true = false ∧ i ∉ E)) → (∀ i, listed.getD i false = true → listedR.getD i false = true) →
          (∀ j ∈ mk, j < n ∧ j ∈ Region.ready md ops listed ∧ (dstOf ops j).isSome = true ∧ (j ∉ E → Makes P ops Cs j aR)) → (∀ j ∈ mk, ∀ k ∈ mk, j ≠ k → apartAt ops j k = true) →
          (∀ j ∈ E, W0.heap.size ≤ g j ∧ Bx wR (g j) (Cs j).2.2 (Cs j).2.1) → Gr W0 w → Gr w wR → aR = putE ops Cs g E a → wpEarly P ops W0 Cs T ((q + 2, i) :: r) a w →
          wpGL P md ops n (fun listed a w => listed = canon n ops.size ∧ T a w) f listedR aR wR := by
        intro f mk E g listed listedR a aR w wR hiE hf hB hEn hEm hmn inv hsz hl hl2 hmk hap hEb hW hg hE h
        simp only [earlyPlanB, Bool.and_eq_true, List.all_eq_true] at hB
        obtain ⟨him, hrd, hB'⟩ := hB
        have him' : i ∈ mk := by simpa using him
        have hin := (hmk i him').1
        have hiL : i < listed.size := by rw [hsz]; omega
        have hiR : i < listedR.size := by rw [inv.size]; omega
        have hdd : ∀ j ∈ E, ∀ k ∈ E, j ≠ k → ∀ t, dstOf ops j = some t → dstOf ops k ≠ some t := fun j hj k hk hne t ht => by
          obtain ⟨x, y, hx, hy2, hap2⟩ := apartAt_spec (hap j (hEm j hj) k (hEm k hk) hne)
          rw [dstOf_of hx] at ht
          rw [dstOf_of hy2]
          exact (Oper.apart_spec hap2).2.1 t ht
        refine ih f (mk.erase i) (E.erase i) g (listed.setIfInBounds i true) listedR (a.put (dstOf ops i) (slOf Cs g i)) aR wR wR ?_ hB' (hEn.erase i) (fun j hj => ?_) (hmn.erase i) inv (by simp [hsz]) (fun j => ?_) (fun j hj => ?_) (fun j hj => ?_) (fun j hj k hk => hap j (List.mem_of_mem_erase hj) k (List.mem_of_mem_erase hk)) (fun j hj => hEb j (List.mem_of_mem_erase hj)) (hW.trans hg) (Gr.refl _) ?_ (h (g i) wR hg (hEb i hiE).1 (hEb i hiE).2)
        · have := List.length_pos_of_mem hiE
          rw [List.length_erase_of_mem hiE]
          simp only [cnt] at hf
          omega
        · have h1 := (hEn.mem_erase_iff).1 hj
          exact (hmn.mem_erase_iff).2 ⟨h1.1, hEm j h1.2⟩
        · by_cases e : i = j
          · subst e
            constructor
            · intro h1; exact absurd hiE ((hl i).1 h1).2
            · intro h1; have h2 := h1.1; simp [hiL] at h2
          · rw [getD_set_ne true e, hl j]
            constructor
            · rintro ⟨h1, h2⟩; exact ⟨h1, fun h3 => h2 (List.mem_of_mem_erase h3)⟩
            · rintro ⟨h1, h2⟩; exact ⟨h1, fun h3 => h2 ((hEn.mem_erase_iff).2 ⟨fun e' => e e'.symm, h3⟩)⟩
        · by_cases e : i = j
          · subst e
            cases hx : listedR.getD i false
            · have h3 : listedR.getD i true = false := getD_in hiR hx
              exact absurd hiE ((hl i).1 h3).2
            · rfl
          · rw [getD_set_ne false e] at hj
            exact hl2 j hj
        · have hj1 := (hmn.mem_erase_iff).1 hj
          obtain ⟨h1, h2, h3, h4⟩ := hmk j hj1.2
          exact ⟨h1, ready_mono h2 hj1.1, h3, fun hjE => h4 (fun h5 => hjE ((hEn.mem_erase_iff).2 ⟨hj1.1, h5⟩))⟩
        · rw [hE]; exact putE_erase E a hiE hEn hdd
      intro f
      induction f with
      | zero =>
        intro mk E g listed listedR a aR w wR hf hB hEn hEm hmn inv hsz hl hl2 hmk hap hEb hW hg hE h
        by_cases hiE : i ∈ E
        · exact use 0 mk E g listed listedR a aR w wR hiE hf hB hEn hEm hmn inv hsz hl hl2 hmk hap hEb hW hg hE h
        · simp only [earlyPlanB, Bool.and_eq_true, List.all_eq_true] at hB
          obtain ⟨him, hrd, hB'⟩ := hB
          have him' : i ∈ mk := by simpa using him
          have hle := mk_le r _ _ hB'
          rw [List.length_erase_of_mem him'] at hle
          have hle3 := uses_le r
          have hsub : E.length ≤ (mk.erase i).length := List.Nodup.length_le_of_subset hEn (fun j hj => (hmn.mem_erase_iff).2 ⟨fun e => hiE (by rw [← e]; exact hj), hEm j hj⟩)
          rw [List.length_erase_of_mem him'] at hsub
          simp only [cnt] at hf
          omega
      | succ f ihf =>
        intro mk E g listed listedR a aR w wR hf hB hEn hEm hmn inv hsz hl hl2 hmk hap hEb hW hg hE h
        by_cases hiE : i ∈ E
        · exact use (f + 1) mk E g listed listedR a aR w wR hiE hf hB hEn hEm hmn inv hsz hl hl2 hmk hap hEb hW hg hE h
        · have hB0 := hB
          simp only [earlyPlanB, Bool.and_eq_true, List.all_eq_true] at hB
          obtain ⟨him, hrd, hB'⟩ := hB
          have him' : i ∈ mk := by simpa using him
          obtain ⟨hin, hir, _, _⟩ := hmk i him'
          have hirR : i ∈ Region.ready md ops listedR := by
            obtain ⟨h0, o', ho', hall⟩ := mem_ready.1 hir
            exact mem_ready.2 ⟨(hl i).2 ⟨h0, hiE⟩, o', ho', fun e he hb => hl2 _ (hall e he hb)⟩
          refine ⟨⟨i, hirR, hin⟩, fun j hj hjn w' hw' => ?_⟩
          obtain ⟨hju, oj, hoj, hjall⟩ := mem_ready.1 hj
          have hjL := (hl j).1 hju
          have hjm : j ∈ mk := by
            refine Classical.byContradiction fun hjm => hjm ?_
            have h1 : j ∈ Region.ready md ops (markAll (mk.erase i) listed) := by
              refine mem_ready.2 ⟨?_, oj, hoj, fun e he hb => ?_⟩
              · rw [markAll_getD _ _ _ _ (by rw [hsz]; omega), hjL.1]
                have : j ∉ mk.erase i := fun h => hjm (List.mem_of_mem_erase h)
                simp [this]
              · have h2 := hjall e he hb
                have h3 : e.on < listedR.size := by
                  rcases Nat.lt_or_ge e.on listedR.size with h | h
                  · exact h
                  · simp [Array.getElem?_eq_none h] at h2
                rw [markAll_getD _ _ _ _ (by rw [hsz, ← inv.size]; exact h3)]
                cases hx : listed.getD e.on false
                · have h4 : listed.getD e.on true = false := getD_in (by rw [hsz, ← inv.size]; exact h3) hx
                  have h5 : e.on ∈ E := by
                    refine Classical.byContradiction fun h6 => ?_
                    have h7 := (hl e.on).2 ⟨h4, h6⟩
                    rw [getD_both h7] at h2
                    cases h2
                  have h8 : e.on ∈ mk.erase i := (hmn.mem_erase_iff).2 ⟨fun h9 => hiE (by rw [← h9]; exact h5), hEm _ h5⟩
                  simp [h8]
                · simp
            have := hrd j h1
            simpa using this
          obtain ⟨_, _, hds, hMj⟩ := hmk j hjm
          obtain ⟨o, ho, hwd, hrun⟩ := hMj hjL.2
          obtain rfl : o = oj := Option.some.inj (ho.symm.trans hoj)
          refine ⟨o, ho, ?_⟩
          rw [if_pos hwd, hrun w']
          refine ⟨Gr.alloc _ _, ?_⟩
          have hjLs : j < listed.size := by rw [hsz]; omega
          have hjRs : j < listedR.size := by rw [inv.size]; omega
          refine ihf mk (j :: E) (fun x => if x = j then w'.heap.size else g x) listed (listedR.setIfInBounds j true) a _ w (w'.alloc (.cells (Cs j).2.1 (Cs j).2.2)) (by simp only [List.length_cons]; omega) hB0 (List.nodup_cons.2 ⟨hjL.2, hEn⟩) (fun x hx => ?_) hmn (inv.set hj hjn) hsz (fun x => ?_) (fun x hx => getD_set_true (hl2 x hx)) (fun x hx => ?_) hap (fun x hx => ?_) hW (hg.trans (hw'.trans (Gr.alloc _ _))) ?_ h
          · rcases List.mem_cons.1 hx with rfl | hx
            · exact hjm
            · exact hEm x hx
          · by_cases e : j = x
            · subst e
              constructor
              · intro h1; simp [hjRs] at h1
              · intro h1; exact absurd (List.mem_cons_self) h1.2
            · rw [getD_set_ne true e, hl x]
              constructor
              · rintro ⟨h1, h2⟩; exact ⟨h1, fun h3 => by rcases List.mem_cons.1 h3 with h4 | h4; exact e h4.symm; exact h2 h4⟩
              · rintro ⟨h1, h2⟩; exact ⟨h1, fun h3 => h2 (List.mem_cons_of_mem _ h3)⟩
          · obtain ⟨h1, h2, h3, h4⟩ := hmk x hx
            refine ⟨h1, h2, h3, fun hxE => ?_⟩
            have hxj : x ≠ j := fun e => hxE (by rw [e]; exact List.mem_cons_self)
            exact (h4 (fun h5 => hxE (List.mem_cons_of_mem _ h5))).put hsel ho (.inl (hap j hjm x hx (Ne.symm hxj)))
          · show W0.heap.size ≤ (if x = j then w'.heap.size else g x) ∧ Bx _ (if x = j then w'.heap.size else g x) _ _
            by_cases e : x = j
            · subst e
              rw [if_pos rfl]
              exact ⟨(hW.trans (hg.trans hw')).size, Bx.new _ _ _⟩
            · rw [if_neg e]
              have hxE : x ∈ E := by
                rcases List.mem_cons.1 hx with h1 | h1
                · exact absurd h1 e
                · exact h1
              exact ⟨(hEb x hxE).1, (hEb x hxE).2.gr (hw'.trans (Gr.alloc _ _))⟩
          · have e1 : putE ops Cs (fun x => if x = j then w'.heap.size else g x) E a = putE ops Cs g E a := putE_congr E a (fun x hx => if_neg (fun e => hjL.2 (by rw [← e]; exact hx)))
            show aR.put o.dst _ = putE ops Cs _ E (a.put (dstOf ops j) _)
            rw [putE_put, e1, ← hE, dstOf_of ho]
            · show _ = aR.put o.dst (.slice (some ⟨if j = j then w'.heap.size else g j, 0, none⟩) _ _)
              rw [if_pos rfl]
            · intro x hx t ht
              obtain ⟨p, q2, hp, hq, hap2⟩ := apartAt_spec (hap x (hEm x hx) j hjm (fun e => hjL.2 (by rw [← e]; exact hx)))
              rw [dstOf_of hp] at ht
              rw [dstOf_of hq]
              exact (Oper.apart_spec hap2).2.1 t ht
def earlyB (md : Region.Mode) (ops : Array Oper) (D : Nat → Tmp) (n : Nat) (is X : List Nat) (plan : List (Nat × Nat)) : Bool :=
  Region.noSelect ops && (decide (n < ops.size ∧ cnt plan + is.length = n) && ((headInB md ops n X && (looseB md ops n X && !X.contains n)) && (Region.chainB md ops n && (apartB ops n is && (earlyPlanB md ops n plan (marked is ops.size) [] && (Region.seqB md ops (ops.size - n) n (canon n ops.size) &&
    (decide is.Nodup && (is.all (fun i => decide (i < n) && (is.all fun j => decide (D i = D j → i = j)) && ((ops[i]?).map fun o => o.after.isEmpty).getD false)))))))))
theorem wp_region_early {id : Nat} {Q : Exit → Act → World → Prop} {a : Act} {w : World} {l : List Oper} (n : Nat) (is X : List Nat) (D : Nat → Tmp) (Z : Nat → Obj) (Cs : Nat → Nat × Array Value × TypeId) (plan : List (Nat × Nat)) (hm : P.follows .mixedOrders = true)
    (hB : earlyB .any l.toArray D n is X plan = true) (hA : ∀ i ∈ is, AllocAt P .any l.toArray D Z i) (hX : ∀ x ∈ X, ∃ o, l.toArray[x]? = some o ∧ PureOp P o) (hp : ∀ c a d v w, Q (.panic c) (a.put (some d) v) w → Q (.panic c) a w)
    (h : ∀ T : Act → World → Prop, Hid (∀ a' w', (∀ G w2, Gr w' w2 → Fresh Z is G w w2 → wpList P l.toArray Q (l.drop n) (puts D G is a') w2) → T a' w') → wpEarly P l.toArray w Cs T plan a w) : (Code.region id l.toArray true).wp P Q a w := by
  simp only [earlyB, Bool.and_eq_true, decide_eq_true_eq, List.all_eq_true] at hB
  obtain ⟨hsel, ⟨hn, hcount⟩, ⟨hs, hlo, hnX⟩, hc, hap, hpl, hseq, hnd, hal⟩ := hB
  have hn' : n < l.length := by simpa using hn
  have hdl : (l.drop n).length = l.toArray.size - n := by simp
  have hdone : ∀ j ∈ Region.ready .any l.toArray (canon n l.toArray.size), n ≤ j := fun j hj => seqB_ready hseq j hj
  have inv0 : HeadInv .any l.toArray n (Array.replicate l.toArray.size false) :=
    ⟨by simp, fun j oj _ hl => (by rw [getD_replicate_false] at hl; cases hl), fun t _ ht => getD_in (by simpa using ht) (getD_replicate_false _ _)⟩
  have hmk : ∀ j d, (marked is l.toArray.size).getD j d = if j < l.toArray.size then is.contains j else d := fun j d => by
    by_cases h : j < l.toArray.size
    · rw [if_pos h, Array.getD_eq_getD_getElem?, Array.getElem?_eq_getElem (by simpa [marked] using h)]
      simp [marked]
    · rw [if_neg h, Array.getD_eq_getD_getElem?, Array.getElem?_eq_none (by simpa [marked] using h)]
      rfl
  have inv1 : HeadInv .any l.toArray n (marked is l.toArray.size) := by
    refine ⟨by simp [marked], fun j oj hj hl e he hb => ?_, fun t ht ht' => ?_⟩
    · rw [hmk] at hl
      split at hl
      · have hjs : j ∈ is := by simpa using hl
        have h3 := (hal j hjs).2
        rw [hj] at h3
        simp only [Option.map_some, Option.getD_some] at h3
        have : oj.after = #[] := by simpa using h3
        rw [this] at he
        simp at he
      · cases hl
    · rw [hmk, if_pos ht']
      cases hh : is.contains t
      · rfl
      · have := ((hal t (by simpa using hh)).1).1
        omega
  refine wp_region_any hm ?_
  have H1 := wpGL_early (P := P) (md := .any) (n := n) (W0 := w) (Cs := Cs) (T := fun a' w' => ∀ G w2, Gr w' w2 → Fresh Z is G w w2 → wpList P l.toArray Q (l.drop n) (puts D G is a') w2) hsel hn
    (fun a' w1 w2 hg h G w3 hw3 hf => h G w3 (hg.trans hw3) hf) hdone plan (cnt plan) [] [] (fun _ => 0) _ _ a a w w (by simp) hpl List.nodup_nil (fun j hj => by cases hj) List.nodup_nil inv1 (by simp [marked]) (fun i => by simp) (fun i hi => hi) (fun j hj => by cases hj) (fun j hj => by cases hj) (fun j hj => by cases hj) (Gr.refl _) (Gr.refl _) rfl (h _ (fun _ _ h => h))
  have H2 := wpGL_bg (P := P) (md := .any) (n := n) (is := is) (D := D) (Z := Z) (T := fun a' w' => ∀ w2, Gr w' w2 → wpList P l.toArray Q (l.drop n) a' w2) hsel hn hap hdone hnd
    (fun j hj k hk => by have := (hal j hj).1.2 k hk; simpa using this) (fun i hi => ⟨by simpa using (hal i hi).1.1, hA i hi⟩)
    (cnt plan + is.length) (cnt plan) is (Array.replicate l.toArray.size false) (marked is l.toArray.size) (fun a => a) a w w.drew rfl hnd (fun _ h => h) inv0 inv1
    (fun j hj => ?_) (fun j hj => (by rw [getD_replicate_false] at hj; cases hj)) (fun j hj => ?_) (fun j hj => ?_) (fun _ _ _ _ _ _ => ⟨rfl, rfl, fun _ => rfl⟩) (Gr.drew w) H1
    (fun a2 w2 hw2 hL G w' hg2 hgR hf w3 hw3 => hL G w3 (hg2.trans hw3) ⟨fun i hi => ⟨(hf.1 i hi).1, hw3.block (hf.1 i hi).2⟩, hf.2⟩)
  · have h2 := wpAny_of_GL (X := X) (Q := Q) (g := l.toArray.size - n) hsel hs hlo hc hn (by simpa using hnX) hX (fun listed a w _ hL => by
      have h3 := wpAny_of_seq (md := .any) (Q' := Q) (l.drop n) n listed a w (fun j => by simp [List.getElem?_drop]) (by rw [hdl, hL.1]; exact hseq) (hL.2 w (Gr.refl _))
      rwa [hdl] at h3) hp _ _ _ _ inv0 H2
    have hlen : cnt plan + is.length + (l.toArray.size - n) = l.toArray.size := by
      omega
    rw [hlen] at h2
    exact h2
  · rw [hmk]
    by_cases h3 : j < l.toArray.size
    · rw [if_pos h3, show is.contains j = false by simpa using hj]
      exact getD_in (by simpa using h3) (getD_replicate_false _ _)
    · rw [if_neg h3]; simp at h3; simp [h3]
  · have := (hal j hj).1.1
    exact getD_in (by simp; omega) (getD_replicate_false _ _)
  · have := (hal j hj).1.1
    rw [hmk, if_pos (by simp; omega)]
    simpa using hj

/-! ### the moves of the walk -/
theorem wpEarly_nil {T : Act → World → Prop} {a : Act} {w : World} (h : T a w) : wpEarly P ops W0 Cs T [] a w := h
theorem wpEarly_of {T : Act → World → Prop} {a : Act} {w : World} {i : Nat} {r : List (Nat × Nat)} {o : Oper} {v : Value} (ho : ops[i]? = some o) (hy : Yg P ops w o v a) (h3 : wpEarly P ops W0 Cs T r (a.put o.dst v) w) : wpEarly P ops W0 Cs T ((0, i) :: r) a w := ⟨o, v, ho, hy, h3⟩
theorem wpEarly_takeL {l : List Oper} {T : Act → World → Prop} {a : Act} {w : World} {i : Nat} {o : Oper} {r : List (Nat × Nat)} {v : Value} (ho : l[i]? = some o) (h1 : Region.wanted o (yielded l.toArray a.tmps) = true)
    (h2 : ∀ w', Gr w w' → o.quietAt P a (Gr w') w' v) (h3 : wpEarly P l.toArray W0 Cs T r (a.put o.dst v) w) : wpEarly P l.toArray W0 Cs T ((0, i) :: r) a w := ⟨o, v, by rw [List.getElem?_toArray]; exact ho, .inl ⟨h1, h2⟩, h3⟩
theorem wpEarly_skipL {l : List Oper} {T : Act → World → Prop} {a : Act} {w : World} {i : Nat} {o : Oper} {r : List (Nat × Nat)} (ho : l[i]? = some o) (h1 : Region.wanted o (yielded l.toArray a.tmps) = false)
    (h3 : wpEarly P l.toArray W0 Cs T r (a.put o.dst undef) w) : wpEarly P l.toArray W0 Cs T ((0, i) :: r) a w := ⟨o, undef, by rw [List.getElem?_toArray]; exact ho, .inr ⟨h1, rfl⟩, h3⟩
theorem wpEarly_callL {l : List Oper} {T : Act → World → Prop} {a : Act} {w : World} {i : Nat} {r : List (Nat × Nat)} {v : Value} {f ty : Nat} {xs : Array Operand} {ats : Array TypeId} {pos : String} {af : Array Edge} {g : Option (Nat × Bool)} {d : Option Tmp} {args : Array Value}
    (ho : l[i]? = some { dst := d, op := .call { callee := .value (.func f), args := xs, argTypes := ats }, type := ty, pos := pos, after := af, guard := g })
    (h1 : Region.wanted { dst := d, op := .call { callee := .value (.func f), args := xs, argTypes := ats }, type := ty, pos := pos, after := af, guard := g } (yielded l.toArray a.tmps) = true)
    (hr : ∀ args w, (callFunc f args).run P w = .ok (.enter f args) w)
    (h2 : ∀ w', Gr w w' → Calls P f args w' fun e w'' => e = .returned v ∧ Below w'.heap.size w' w'') (ha : (xs.toList.map a.eval).toArray = args)
    (h3 : wpEarly P l.toArray W0 Cs T r (a.put d v) w) : wpEarly P l.toArray W0 Cs T ((0, i) :: r) a w := by
  refine ⟨_, v, by rw [List.getElem?_toArray]; exact ho, .inl ⟨h1, fun w' hw => ?_⟩, h3⟩
  unfold Oper.quietAt
  have e : (#[] ++ xs.map a.eval ++ #[] : Array Value) = args := by rw [← ha]; cases xs; simp
  rw [execOp_call_go, hr, e]
  exact ⟨rfl, h2 w' hw⟩
theorem wpEarly_mk {l : List Oper} {T : Act → World → Prop} {a : Act} {w : World} {i : Nat} {o : Oper} {r : List (Nat × Nat)} (ho : l[i]? = some o) (h1 : Region.wanted o (yielded l.toArray a.tmps) = true)
    (h2 : ∀ w', (execOp a.eval o).run P w' = .ok (.value (.slice (some ⟨w'.heap.size, 0, none⟩) (Cs i).1 (Cs i).1)) (w'.alloc (.cells (Cs i).2.1 (Cs i).2.2))) (h3 : wpEarly P l.toArray W0 Cs T r a w) : wpEarly P l.toArray W0 Cs T ((1, i) :: r) a w :=
  ⟨⟨o, by rw [List.getElem?_toArray]; exact ho, h1, h2⟩, h3⟩
theorem wpEarly_use {l : List Oper} {T : Act → World → Prop} {a : Act} {w : World} {i : Nat} {o : Oper} {r : List (Nat × Nat)} {n : Nat} {cs : Array Value} {E : TypeId} (ho : l[i]? = some o) (hc : Cs i = (n, cs, E))
    (h : ∀ g w1, Gr w w1 → W0.heap.size ≤ g → Bx w1 g E cs → wpEarly P l.toArray W0 Cs T r (a.put o.dst (.slice (some ⟨g, 0, none⟩) n n)) w1) : wpEarly P l.toArray W0 Cs T ((2, i) :: r) a w := fun g w1 h1 h2 h3 => by
  rw [hc] at h3 ⊢
  have hd : dstOf l.toArray i = o.dst := by simp [dstOf, ho]
  rw [hd]
  exact h g w1 h1 h2 h3
end
end Go.Proofs.YtenpbnmmadbkdaaGreat


/- points: On, Circle. -/
namespace Go.Proofs.YtenpbnmmadbkdaaGreat
open Go.RowKit
set_option linter.unusedSimpArgs false
set_option linter.unusedVariables false
attribute [local go_sem ↓] Go.wp_at_zero Go.wp_at_succ
set_option maxHeartbeats 1000000 in
theorem pon_no (a1 a2 b1 b2 p1 p2 : Rat) (t : Int) (w : World) (ht : Hid (turn a1 a2 b1 b2 p1 p2 = t)) (h0 : (t == 0) = false) (hs_a1 : sz a1 ≤ 1000000000) (hs_a2 : sz a2 ≤ 1000000000) (hs_b1 : sz b1 ≤ 1000000000) (hs_b2 : sz b2 ≤ 1000000000) (hs_p1 : sz p1 ≤ 1000000000) (hs_p2 : sz p2 ≤ 1000000000) :
    Calls Tryz.prog 8 #[(Value.agg #[.int .u64 (lo a1.num.natAbs), .string (bg a1.num.natAbs), .bool (decide (a1.num < 0)), .int .u64 (lo (a1.den - 1)), .string (bg (a1.den - 1)), .int .u64 (lo a2.num.natAbs), .string (bg a2.num.natAbs), .bool (decide (a2.num < 0)), .int .u64 (lo (a2.den - 1)), .string (bg (a2.den - 1))]), (Value.agg #[.int .u64 (lo b1.num.natAbs), .string (bg b1.num.natAbs), .bool (decide (b1.num < 0)), .int .u64 (lo (b1.den - 1)), .string (bg (b1.den - 1)), .int .u64 (lo b2.num.natAbs), .string (bg b2.num.natAbs), .bool (decide (b2.num < 0)), .int .u64 (lo (b2.den - 1)), .string (bg (b2.den - 1))]), (Value.agg #[.int .u64 (lo p1.num.natAbs), .string (bg p1.num.natAbs), .bool (decide (p1.num < 0)), .int .u64 (lo (p1.den - 1)), .string (bg (p1.den - 1)), .int .u64 (lo p2.num.natAbs), .string (bg p2.num.natAbs), .bool (decide (p2.num < 0)), .int .u64 (lo (p2.den - 1)), .string (bg (p2.den - 1))])] w fun e w' => e = .returned (.bool false) ∧ Below w.heap.size w w' := by
  go_enter Tryz.func8, Tryz.ntmps8
  -- region 0
  refine wp_seq_k fun K hK => ?_
  replace hK := Lib.hid hK
  refine wp_region_lit ?_
  go_wp2
  refine hK.out _ _ ?_; clear hK K
  show Code.wp _ _ _ _ _
  refine forgetW (fun w2 => Bx w2 (w.heap.size) 38 #[.int .u64 (lo a1.num.natAbs), .string (bg a1.num.natAbs), .bool (decide (a1.num < 0)), .int .u64 (lo (a1.den - 1)), .string (bg (a1.den - 1)), .int .u64 (lo a2.num.natAbs), .string (bg a2.num.natAbs), .bool (decide (a2.num < 0)), .int .u64 (lo (a2.den - 1)), .string (bg (a2.den - 1))] ∧ Bx w2 (w.heap.size + 1) 38 #[.int .u64 (lo b1.num.natAbs), .string (bg b1.num.natAbs), .bool (decide (b1.num < 0)), .int .u64 (lo (b1.den - 1)), .string (bg (b1.den - 1)), .int .u64 (lo b2.num.natAbs), .string (bg b2.num.natAbs), .bool (decide (b2.num < 0)), .int .u64 (lo (b2.den - 1)), .string (bg (b2.den - 1))] ∧ Bx w2 (w.heap.size + 1 + 1) 38 #[.int .u64 (lo p1.num.natAbs), .string (bg p1.num.natAbs), .bool (decide (p1.num < 0)), .int .u64 (lo (p1.den - 1)), .string (bg (p1.den - 1)), .int .u64 (lo p2.num.natAbs), .string (bg p2.num.natAbs), .bool (decide (p2.num < 0)), .int .u64 (lo (p2.den - 1)), .string (bg (p2.den - 1))] ∧ Below w.heap.size w w2) ⟨((Bx.at rfl).alloc _).alloc _, (Bx.at (by simp)).alloc _, Bx.at (by simp), (((Below.refl _ _).alloc (Nat.le_refl _) _).alloc (by simp) _).alloc (by simp; omega) _⟩ ?_
  rintro Wx ⟨bx0, bx1, bx2, HB⟩
  replace HB := Lib.hid HB
  -- region 1
  have lx0 := bx0.cells
  have lx1 := bx1.cells
  have lx2 := bx2.cells
  have BX0 := Lib.hid bx0
  have BX1 := Lib.hid bx1
  have BX2 := Lib.hid bx2
  clear bx0 bx1 bx2
  refine wp_seq_k fun K hK => ?_
  replace hK := Lib.hid hK
  refine wp_region_early 23 [] [] (fun _ => 0) (fun _ => .cells #[] 0) (fun _ => (0, #[], 0)) [(0, 0), (0, 1), (0, 2), (0, 3), (0, 4), (0, 5), (0, 6), (0, 7), (0, 8), (0, 9), (0, 10), (0, 11), (0, 12), (0, 13), (0, 14), (0, 15), (0, 16), (0, 17), (0, 19), (0, 18), (0, 20), (0, 21), (0, 22)] (by kernel_rfl) (by kernel_rfl) (fun i hi => by cases hi) (fun i hi => by cases hi) (fun _ _ _ _ _ h => h) (fun T hT => ?_)
  iterate 3
    refine wpEarly_takeL (v := ?_) rfl (by rfl) (fun w' hw => ?_) ?_
    rotate_left
    · go_simp
      with_reducible rfl
    simp only [Act.put, rA, rB, rC]
  refine wpEarly_callL rfl (by rfl) Tryz.call6 (fun w' hw => pturn_any (a1) (a2) (b1) (b2) (p1) (p2) (t) _ (ht.out) (by omega) (by omega) (by omega) (by omega) (by omega) (by omega)) (by rfl) ?_
  simp only [Act.put, rA, rB, rC]
  iterate 2
    refine wpEarly_takeL (v := ?_) rfl (by rfl) (fun w' hw => ?_) ?_
    rotate_left
    · go_simp
      with_reducible rfl
    simp only [Act.put, rA, rB, rC]
  refine wpEarly_skipL rfl (by rfl) ?_
  simp only [Act.put, rA, rB, rC]
  refine wpEarly_skipL rfl (by rfl) ?_
  simp only [Act.put, rA, rB, rC]
  refine wpEarly_skipL rfl (by rfl) ?_
  simp only [Act.put, rA, rB, rC]
  refine wpEarly_skipL rfl (by rfl) ?_
  simp only [Act.put, rA, rB, rC]
  refine wpEarly_skipL rfl (by rfl) ?_
  simp only [Act.put, rA, rB, rC]
  refine wpEarly_skipL rfl (by rfl) ?_
  simp only [Act.put, rA, rB, rC]
  refine wpEarly_skipL rfl (by rfl) ?_
  simp only [Act.put, rA, rB, rC]
  iterate 2
    refine wpEarly_takeL (v := ?_) rfl (by rfl) (fun w' hw => ?_) ?_
    rotate_left
    · go_simp
      with_reducible rfl
    simp only [Act.put, rA, rB, rC]
  refine wpEarly_skipL rfl (by rfl) ?_
  simp only [Act.put, rA, rB, rC]
  refine wpEarly_skipL rfl (by rfl) ?_
  simp only [Act.put, rA, rB, rC]
  refine wpEarly_skipL rfl (by rfl) ?_
  simp only [Act.put, rA, rB, rC]
  refine wpEarly_skipL rfl (by rfl) ?_
  simp only [Act.put, rA, rB, rC]
  refine wpEarly_skipL rfl (by rfl) ?_
  simp only [Act.put, rA, rB, rC]
  refine wpEarly_skipL rfl (by rfl) ?_
  simp only [Act.put, rA, rB, rC]
  refine wpEarly_skipL rfl (by rfl) ?_
  simp only [Act.put, rA, rB, rC]
  iterate 1
    refine wpEarly_takeL (v := ?_) rfl (by rfl) (fun w' hw => ?_) ?_
    rotate_left
    · go_simp
      with_reducible rfl
    simp only [Act.put, rA, rB, rC]
  refine wpEarly_nil (hT.out _ _ ?_); clear hT T
  intro G vw1 hg hf
  simp only [puts, Act.put, rA, rB, rC, rD, rE, ↓reduceIte, Nat.reduceEqDiff]
  clear lx0 lx1 lx2
  have HG := Lib.hid (hg)
  clear hg
  replace BX0 := bG BX0 HG
  replace BX1 := bG BX1 HG
  replace BX2 := bG BX2 HG
  have r0 := Gr.refl vw1
  go_wp2
  refine hK.out _ _ ?_; clear hK K
  show Code.wp _ _ _ _ _
  clear r0
  refine forgetW (fun w2 => Below w.heap.size w w2) (HB.out.trans (HG.out.mono HB.out.size)) ?_
  clear HB HG BX0 BX1 BX2
  rintro Wx1 HB
  replace HB := Lib.hid HB
  refine wp_ret ?_
  try simp only [Exit.then, Exit.inBlock]
  have r0 := Gr.refl Wx1
  exact bodyPost_ret (v := .bool false) (by simp [results, Tryz.results8, go_sem]) rfl ⟨rfl, HB.out⟩

set_option maxHeartbeats 1000000 in
theorem pon_low (a1 a2 b1 b2 p1 p2 : Rat) (t : Int) (r : Bool) (lo1 lo2 : Rat) (w : World) (ht : Hid (turn a1 a2 b1 b2 p1 p2 = t)) (h0 : (t == 0) = true) (hr : Hid (plt b1 b2 a1 a2 = r)) (hl1 : Hid ((if r then b1 else a1) = lo1)) (hl2 : Hid ((if r then b2 else a2) = lo2)) (hs_lo1 : sz lo1 ≤ 1000000000) (hs_lo2 : sz lo2 ≤ 1000000000) (h : Hid (plt p1 p2 lo1 lo2 = true)) (hs_a1 : sz a1 ≤ 1000000000) (hs_a2 : sz a2 ≤ 1000000000) (hs_b1 : sz b1 ≤ 1000000000) (hs_b2 : sz b2 ≤ 1000000000) (hs_p1 : sz p1 ≤ 1000000000) (hs_p2 : sz p2 ≤ 1000000000) :
    Calls Tryz.prog 8 #[(Value.agg #[.int .u64 (lo a1.num.natAbs), .string (bg a1.num.natAbs), .bool (decide (a1.num < 0)), .int .u64 (lo (a1.den - 1)), .string (bg (a1.den - 1)), .int .u64 (lo a2.num.natAbs), .string (bg a2.num.natAbs), .bool (decide (a2.num < 0)), .int .u64 (lo (a2.den - 1)), .string (bg (a2.den - 1))]), (Value.agg #[.int .u64 (lo b1.num.natAbs), .string (bg b1.num.natAbs), .bool (decide (b1.num < 0)), .int .u64 (lo (b1.den - 1)), .string (bg (b1.den - 1)), .int .u64 (lo b2.num.natAbs), .string (bg b2.num.natAbs), .bool (decide (b2.num < 0)), .int .u64 (lo (b2.den - 1)), .string (bg (b2.den - 1))]), (Value.agg #[.int .u64 (lo p1.num.natAbs), .string (bg p1.num.natAbs), .bool (decide (p1.num < 0)), .int .u64 (lo (p1.den - 1)), .string (bg (p1.den - 1)), .int .u64 (lo p2.num.natAbs), .string (bg p2.num.natAbs), .bool (decide (p2.num < 0)), .int .u64 (lo (p2.den - 1)), .string (bg (p2.den - 1))])] w fun e w' => e = .returned (.bool false) ∧ Below w.heap.size w w' := by
  go_enter Tryz.func8, Tryz.ntmps8
  -- region 0
  refine wp_seq_k fun K hK => ?_
  replace hK := Lib.hid hK
  refine wp_region_lit ?_
  go_wp2
  refine hK.out _ _ ?_; clear hK K
  show Code.wp _ _ _ _ _
  refine forgetW (fun w2 => Bx w2 (w.heap.size) 38 #[.int .u64 (lo a1.num.natAbs), .string (bg a1.num.natAbs), .bool (decide (a1.num < 0)), .int .u64 (lo (a1.den - 1)), .string (bg (a1.den - 1)), .int .u64 (lo a2.num.natAbs), .string (bg a2.num.natAbs), .bool (decide (a2.num < 0)), .int .u64 (lo (a2.den - 1)), .string (bg (a2.den - 1))] ∧ Bx w2 (w.heap.size + 1) 38 #[.int .u64 (lo b1.num.natAbs), .string (bg b1.num.natAbs), .bool (decide (b1.num < 0)), .int .u64 (lo (b1.den - 1)), .string (bg (b1.den - 1)), .int .u64 (lo b2.num.natAbs), .string (bg b2.num.natAbs), .bool (decide (b2.num < 0)), .int .u64 (lo (b2.den - 1)), .string (bg (b2.den - 1))] ∧ Bx w2 (w.heap.size + 1 + 1) 38 #[.int .u64 (lo p1.num.natAbs), .string (bg p1.num.natAbs), .bool (decide (p1.num < 0)), .int .u64 (lo (p1.den - 1)), .string (bg (p1.den - 1)), .int .u64 (lo p2.num.natAbs), .string (bg p2.num.natAbs), .bool (decide (p2.num < 0)), .int .u64 (lo (p2.den - 1)), .string (bg (p2.den - 1))] ∧ Below w.heap.size w w2) ⟨((Bx.at rfl).alloc _).alloc _, (Bx.at (by simp)).alloc _, Bx.at (by simp), (((Below.refl _ _).alloc (Nat.le_refl _) _).alloc (by simp) _).alloc (by simp; omega) _⟩ ?_
  rintro Wx ⟨bx0, bx1, bx2, HB⟩
  replace HB := Lib.hid HB
  -- region 1
  have lx0 := bx0.cells
  have lx1 := bx1.cells
  have lx2 := bx2.cells
  have BX0 := Lib.hid bx0
  have BX1 := Lib.hid bx1
  have BX2 := Lib.hid bx2
  clear bx0 bx1 bx2
  refine wp_seq_k fun K hK => ?_
  replace hK := Lib.hid hK
  have HS0 := Lib.hid (HB.out.size)
  have MX0 : w.heap.size < Wx.heap.size := BX0.out.lt
  have MX1 : w.heap.size + 1 < Wx.heap.size := BX1.out.lt
  have MX2 : w.heap.size + 1 + 1 < Wx.heap.size := BX2.out.lt
  refine wp_region_early 23 [] [] (fun _ => 0) (fun _ => .cells #[] 0) (fun i => (1, #[.int .u64 (lo b1.num.natAbs), .string (bg b1.num.natAbs), .bool (decide (b1.num < 0)), .int .u64 (lo (b1.den - 1)), .string (bg (b1.den - 1)), .int .u64 (lo b2.num.natAbs), .string (bg b2.num.natAbs), .bool (decide (b2.num < 0)), .int .u64 (lo (b2.den - 1)), .string (bg (b2.den - 1))], 38)) [(0, 0), (0, 1), (0, 2), (0, 3), (0, 4), (0, 5), (0, 6), (0, 7), (0, 8), (1, 9), (2, 9), (0, 10), (0, 11), (0, 12), (0, 13), (0, 14), (0, 15), (0, 16), (0, 17), (0, 19), (0, 18), (0, 20), (0, 21), (0, 22)] (by kernel_rfl) (by kernel_rfl) (fun i hi => by cases hi) (fun i hi => by cases hi) (fun _ _ _ _ _ h => h) (fun T hT => ?_)
  iterate 3
    refine wpEarly_takeL (v := ?_) rfl (by rfl) (fun w' hw => ?_) ?_
    rotate_left
    · go_simp
      with_reducible rfl
    simp only [Act.put, rA, rB, rC]
  refine wpEarly_callL rfl (by rfl) Tryz.call6 (fun w' hw => pturn_any (a1) (a2) (b1) (b2) (p1) (p2) (t) _ (ht.out) (by omega) (by omega) (by omega) (by omega) (by omega) (by omega)) (by rfl) ?_
  simp only [Act.put, rA, rB, rC]
  iterate 5
    refine wpEarly_takeL (v := ?_) rfl (by rfl) (fun w' hw => ?_) ?_
    rotate_left
    · go_simp
      with_reducible rfl
    simp only [Act.put, rA, rB, rC]
  refine wpEarly_mk rfl (by rfl) (fun w' => ?_) ?_
  · go_simp
  refine wpEarly_use rfl (by rfl) (fun gx3 vv1 hg0 yx3 bx3 => ?_)
  have HG0 := Lib.hid hg0; clear hg0
  replace yx3 : w.heap.size ≤ gx3 := by first | exact Nat.le_trans HS0.out yx3 | exact Nat.le_trans HB.out.size yx3
  have BX3 := Lib.hid bx3; clear bx3
  replace BX0 := bG BX0 HG0
  replace BX1 := bG BX1 HG0
  replace BX2 := bG BX2 HG0
  replace HB := Lib.hid (HB.out.trans (HG0.out.mono HB.out.size))
  clear HG0
  clear lx0; have lx0 := BX0.out.cells
  clear lx1; have lx1 := BX1.out.cells
  clear lx2; have lx2 := BX2.out.cells
  simp only [Act.put, rA, rB, rC]
  refine wpEarly_callL rfl (by rfl) Tryz.call22 (fun w' hw => pleast_any (a1) (a2) (b1) (b2) lo1 lo2 (gx3) _ (BX3.out.gr hw) (r) (hr.out) (hl1.out) (hl2.out) (by omega) (by omega) (by omega) (by omega)) (by rfl) ?_
  simp only [Act.put, rA, rB, rC]
  refine wpEarly_callL rfl (by rfl) Tryz.call21 (fun w' hw => pless_any (p1) (p2) (lo1) (lo2) true _ (h.out) (by omega) (by omega) (by omega) (by omega)) (by rfl) ?_
  simp only [Act.put, rA, rB, rC]
  iterate 3
    refine wpEarly_takeL (v := ?_) rfl (by rfl) (fun w' hw => ?_) ?_
    rotate_left
    · go_simp
      with_reducible rfl
    simp only [Act.put, rA, rB, rC]
  refine wpEarly_skipL rfl (by rfl) ?_
  simp only [Act.put, rA, rB, rC]
  refine wpEarly_skipL rfl (by rfl) ?_
  simp only [Act.put, rA, rB, rC]
  refine wpEarly_skipL rfl (by rfl) ?_
  simp only [Act.put, rA, rB, rC]
  refine wpEarly_skipL rfl (by rfl) ?_
  simp only [Act.put, rA, rB, rC]
  refine wpEarly_skipL rfl (by rfl) ?_
  simp only [Act.put, rA, rB, rC]
  refine wpEarly_skipL rfl (by rfl) ?_
  simp only [Act.put, rA, rB, rC]
  refine wpEarly_skipL rfl (by rfl) ?_
  simp only [Act.put, rA, rB, rC]
  iterate 1
    refine wpEarly_takeL (v := ?_) rfl (by rfl) (fun w' hw => ?_) ?_
    rotate_left
    · go_simp
      with_reducible rfl
    simp only [Act.put, rA, rB, rC]
  refine wpEarly_nil (hT.out _ _ ?_); clear hT T
  intro G vw1 hg hf
  simp only [puts, Act.put, rA, rB, rC, rD, rE, ↓reduceIte, Nat.reduceEqDiff]
  clear lx0 lx1 lx2
  clear BX3
  have HG := Lib.hid (hg)
  clear hg
  replace BX0 := bG BX0 HG
  replace BX1 := bG BX1 HG
  replace BX2 := bG BX2 HG
  have r0 := Gr.refl vw1
  go_wp2
  refine hK.out _ _ ?_; clear hK K
  show Code.wp _ _ _ _ _
  clear r0
  refine forgetW (fun w2 => Below w.heap.size w w2) (HB.out.trans (HG.out.mono HB.out.size)) ?_
  clear HB HG BX0 BX1 BX2
  rintro Wx1 HB
  replace HB := Lib.hid HB
  refine wp_ret ?_
  try simp only [Exit.then, Exit.inBlock]
  have r0 := Gr.refl Wx1
  exact bodyPost_ret (v := .bool false) (by simp [results, Tryz.results8, go_sem]) rfl ⟨rfl, HB.out⟩

set_option maxHeartbeats 1000000 in
theorem pon_high (a1 a2 b1 b2 p1 p2 : Rat) (t : Int) (r : Bool) (lo1 lo2 : Rat) (q : Bool) (hi1 hi2 : Rat) (r2 : Bool) (w : World) (ht : Hid (turn a1 a2 b1 b2 p1 p2 = t)) (h0 : (t == 0) = true) (hr : Hid (plt b1 b2 a1 a2 = r)) (hl1 : Hid ((if r then b1 else a1) = lo1)) (hl2 : Hid ((if r then b2 else a2) = lo2)) (hs_lo1 : sz lo1 ≤ 1000000000) (hs_lo2 : sz lo2 ≤ 1000000000) (h : Hid (plt p1 p2 lo1 lo2 = false)) (hq : Hid (plt a1 a2 b1 b2 = q)) (hh1 : Hid ((if q then b1 else a1) = hi1)) (hh2 : Hid ((if q then b2 else a2) = hi2)) (hs_hi1 : sz hi1 ≤ 1000000000) (hs_hi2 : sz hi2 ≤ 1000000000) (h2 : Hid (plt hi1 hi2 p1 p2 = r2)) (hs_a1 : sz a1 ≤ 1000000000) (hs_a2 : sz a2 ≤ 1000000000) (hs_b1 : sz b1 ≤ 1000000000) (hs_b2 : sz b2 ≤ 1000000000) (hs_p1 : sz p1 ≤ 1000000000) (hs_p2 : sz p2 ≤ 1000000000) :
    Calls Tryz.prog 8 #[(Value.agg #[.int .u64 (lo a1.num.natAbs), .string (bg a1.num.natAbs), .bool (decide (a1.num < 0)), .int .u64 (lo (a1.den - 1)), .string (bg (a1.den - 1)), .int .u64 (lo a2.num.natAbs), .string (bg a2.num.natAbs), .bool (decide (a2.num < 0)), .int .u64 (lo (a2.den - 1)), .string (bg (a2.den - 1))]), (Value.agg #[.int .u64 (lo b1.num.natAbs), .string (bg b1.num.natAbs), .bool (decide (b1.num < 0)), .int .u64 (lo (b1.den - 1)), .string (bg (b1.den - 1)), .int .u64 (lo b2.num.natAbs), .string (bg b2.num.natAbs), .bool (decide (b2.num < 0)), .int .u64 (lo (b2.den - 1)), .string (bg (b2.den - 1))]), (Value.agg #[.int .u64 (lo p1.num.natAbs), .string (bg p1.num.natAbs), .bool (decide (p1.num < 0)), .int .u64 (lo (p1.den - 1)), .string (bg (p1.den - 1)), .int .u64 (lo p2.num.natAbs), .string (bg p2.num.natAbs), .bool (decide (p2.num < 0)), .int .u64 (lo (p2.den - 1)), .string (bg (p2.den - 1))])] w fun e w' => e = .returned (.bool (!r2)) ∧ Below w.heap.size w w' := by
  go_enter Tryz.func8, Tryz.ntmps8
  -- region 0
  refine wp_seq_k fun K hK => ?_
  replace hK := Lib.hid hK
  refine wp_region_lit ?_
  go_wp2
  refine hK.out _ _ ?_; clear hK K
  show Code.wp _ _ _ _ _
  refine forgetW (fun w2 => Bx w2 (w.heap.size) 38 #[.int .u64 (lo a1.num.natAbs), .string (bg a1.num.natAbs), .bool (decide (a1.num < 0)), .int .u64 (lo (a1.den - 1)), .string (bg (a1.den - 1)), .int .u64 (lo a2.num.natAbs), .string (bg a2.num.natAbs), .bool (decide (a2.num < 0)), .int .u64 (lo (a2.den - 1)), .string (bg (a2.den - 1))] ∧ Bx w2 (w.heap.size + 1) 38 #[.int .u64 (lo b1.num.natAbs), .string (bg b1.num.natAbs), .bool (decide (b1.num < 0)), .int .u64 (lo (b1.den - 1)), .string (bg (b1.den - 1)), .int .u64 (lo b2.num.natAbs), .string (bg b2.num.natAbs), .bool (decide (b2.num < 0)), .int .u64 (lo (b2.den - 1)), .string (bg (b2.den - 1))] ∧ Bx w2 (w.heap.size + 1 + 1) 38 #[.int .u64 (lo p1.num.natAbs), .string (bg p1.num.natAbs), .bool (decide (p1.num < 0)), .int .u64 (lo (p1.den - 1)), .string (bg (p1.den - 1)), .int .u64 (lo p2.num.natAbs), .string (bg p2.num.natAbs), .bool (decide (p2.num < 0)), .int .u64 (lo (p2.den - 1)), .string (bg (p2.den - 1))] ∧ Below w.heap.size w w2) ⟨((Bx.at rfl).alloc _).alloc _, (Bx.at (by simp)).alloc _, Bx.at (by simp), (((Below.refl _ _).alloc (Nat.le_refl _) _).alloc (by simp) _).alloc (by simp; omega) _⟩ ?_
  rintro Wx ⟨bx0, bx1, bx2, HB⟩
  replace HB := Lib.hid HB
  -- region 1
  have lx0 := bx0.cells
  have lx1 := bx1.cells
  have lx2 := bx2.cells
  have BX0 := Lib.hid bx0
  have BX1 := Lib.hid bx1
  have BX2 := Lib.hid bx2
  clear bx0 bx1 bx2
  refine wp_seq_k fun K hK => ?_
  replace hK := Lib.hid hK
  have HS0 := Lib.hid (HB.out.size)
  have MX0 : w.heap.size < Wx.heap.size := BX0.out.lt
  have MX1 : w.heap.size + 1 < Wx.heap.size := BX1.out.lt
  have MX2 : w.heap.size + 1 + 1 < Wx.heap.size := BX2.out.lt
  refine wp_region_early 23 [] [] (fun _ => 0) (fun _ => .cells #[] 0) (fun i => if i = 9 then (1, #[.int .u64 (lo b1.num.natAbs), .string (bg b1.num.natAbs), .bool (decide (b1.num < 0)), .int .u64 (lo (b1.den - 1)), .string (bg (b1.den - 1)), .int .u64 (lo b2.num.natAbs), .string (bg b2.num.natAbs), .bool (decide (b2.num < 0)), .int .u64 (lo (b2.den - 1)), .string (bg (b2.den - 1))], 38) else (1, #[.int .u64 (lo b1.num.natAbs), .string (bg b1.num.natAbs), .bool (decide (b1.num < 0)), .int .u64 (lo (b1.den - 1)), .string (bg (b1.den - 1)), .int .u64 (lo b2.num.natAbs), .string (bg b2.num.natAbs), .bool (decide (b2.num < 0)), .int .u64 (lo (b2.den - 1)), .string (bg (b2.den - 1))], 38)) [(0, 0), (0, 1), (0, 2), (0, 3), (0, 4), (0, 5), (0, 6), (0, 7), (0, 8), (1, 9), (2, 9), (0, 10), (0, 11), (0, 12), (0, 13), (0, 14), (0, 15), (0, 16), (1, 17), (0, 19), (2, 17), (0, 18), (0, 20), (0, 21), (0, 22)] (by kernel_rfl) (by kernel_rfl) (fun i hi => by cases hi) (fun i hi => by cases hi) (fun _ _ _ _ _ h => h) (fun T hT => ?_)
  iterate 3
    refine wpEarly_takeL (v := ?_) rfl (by rfl) (fun w' hw => ?_) ?_
    rotate_left
    · go_simp
      with_reducible rfl
    simp only [Act.put, rA, rB, rC]
  refine wpEarly_callL rfl (by rfl) Tryz.call6 (fun w' hw => pturn_any (a1) (a2) (b1) (b2) (p1) (p2) (t) _ (ht.out) (by omega) (by omega) (by omega) (by omega) (by omega) (by omega)) (by rfl) ?_
  simp only [Act.put, rA, rB, rC]
  iterate 5
    refine wpEarly_takeL (v := ?_) rfl (by rfl) (fun w' hw => ?_) ?_
    rotate_left
    · go_simp
      with_reducible rfl
    simp only [Act.put, rA, rB, rC]
  refine wpEarly_mk rfl (by rfl) (fun w' => ?_) ?_
  · go_simp
  refine wpEarly_use rfl (by rfl) (fun gx3 vv1 hg0 yx3 bx3 => ?_)
  have HG0 := Lib.hid hg0; clear hg0
  replace yx3 : w.heap.size ≤ gx3 := by first | exact Nat.le_trans HS0.out yx3 | exact Nat.le_trans HB.out.size yx3
  have BX3 := Lib.hid bx3; clear bx3
  replace BX0 := bG BX0 HG0
  replace BX1 := bG BX1 HG0
  replace BX2 := bG BX2 HG0
  replace HB := Lib.hid (HB.out.trans (HG0.out.mono HB.out.size))
  clear HG0
  clear lx0; have lx0 := BX0.out.cells
  clear lx1; have lx1 := BX1.out.cells
  clear lx2; have lx2 := BX2.out.cells
  simp only [Act.put, rA, rB, rC]
  refine wpEarly_callL rfl (by rfl) Tryz.call22 (fun w' hw => pleast_any (a1) (a2) (b1) (b2) lo1 lo2 (gx3) _ (BX3.out.gr hw) (r) (hr.out) (hl1.out) (hl2.out) (by omega) (by omega) (by omega) (by omega)) (by rfl) ?_
  simp only [Act.put, rA, rB, rC]
  refine wpEarly_callL rfl (by rfl) Tryz.call21 (fun w' hw => pless_any (p1) (p2) (lo1) (lo2) false _ (h.out) (by omega) (by omega) (by omega) (by omega)) (by rfl) ?_
  simp only [Act.put, rA, rB, rC]
  iterate 5
    refine wpEarly_takeL (v := ?_) rfl (by rfl) (fun w' hw => ?_) ?_
    rotate_left
    · go_simp
      with_reducible rfl
    simp only [Act.put, rA, rB, rC]
  refine wpEarly_mk rfl (by rfl) (fun w' => ?_) ?_
  · go_simp
  iterate 1
    refine wpEarly_takeL (v := ?_) rfl (by rfl) (fun w' hw => ?_) ?_
    rotate_left
    · go_simp
      with_reducible rfl
    simp only [Act.put, rA, rB, rC]
  refine wpEarly_use rfl (by rfl) (fun gx4 vv2 hg0 yx4 bx4 => ?_)
  have HG0 := Lib.hid hg0; clear hg0
  replace yx4 : w.heap.size ≤ gx4 := by first | exact Nat.le_trans HS0.out yx4 | exact Nat.le_trans HB.out.size yx4
  have BX4 := Lib.hid bx4; clear bx4
  replace BX0 := bG BX0 HG0
  replace BX1 := bG BX1 HG0
  replace BX2 := bG BX2 HG0
  replace BX3 := bG BX3 HG0
  replace HB := Lib.hid (HB.out.trans (HG0.out.mono HB.out.size))
  clear HG0
  clear lx0; have lx0 := BX0.out.cells
  clear lx1; have lx1 := BX1.out.cells
  clear lx2; have lx2 := BX2.out.cells
  simp only [Act.put, rA, rB, rC]
  refine wpEarly_callL rfl (by rfl) Tryz.call23 (fun w' hw => pgreatest_any (a1) (a2) (b1) (b2) hi1 hi2 (gx4) _ (BX4.out.gr hw) (q) (hq.out) (hh1.out) (hh2.out) (by omega) (by omega) (by omega) (by omega)) (by rfl) ?_
  simp only [Act.put, rA, rB, rC]
  refine wpEarly_callL rfl (by rfl) Tryz.call21 (fun w' hw => pless_any (hi1) (hi2) (p1) (p2) r2 _ (h2.out) (by omega) (by omega) (by omega) (by omega)) (by rfl) ?_
  simp only [Act.put, rA, rB, rC]
  iterate 2
    refine wpEarly_takeL (v := ?_) rfl (by rfl) (fun w' hw => ?_) ?_
    rotate_left
    · go_simp
      with_reducible rfl
    simp only [Act.put, rA, rB, rC]
  refine wpEarly_nil (hT.out _ _ ?_); clear hT T
  intro G vw1 hg hf
  simp only [puts, Act.put, rA, rB, rC, rD, rE, ↓reduceIte, Nat.reduceEqDiff]
  clear lx0 lx1 lx2
  clear BX3
  clear BX4
  have HG := Lib.hid (hg)
  clear hg
  replace BX0 := bG BX0 HG
  replace BX1 := bG BX1 HG
  replace BX2 := bG BX2 HG
  have r0 := Gr.refl vw1
  go_wp2
  refine hK.out _ _ ?_; clear hK K
  show Code.wp _ _ _ _ _
  clear r0
  refine forgetW (fun w2 => Below w.heap.size w w2) (HB.out.trans (HG.out.mono HB.out.size)) ?_
  clear HB HG BX0 BX1 BX2
  rintro Wx1 HB
  replace HB := Lib.hid HB
  refine wp_ret ?_
  try simp only [Exit.then, Exit.inBlock]
  have r0 := Gr.refl Wx1
  exact bodyPost_ret (v := .bool (!r2)) (by simp [results, Tryz.results8, go_sem]) rfl ⟨rfl, HB.out⟩

/-- whether a point lies on a segment -/
def onB (a1 a2 b1 b2 p1 p2 : Rat) : Bool :=
  (turn a1 a2 b1 b2 p1 p2 == 0) && (!plt p1 p2 (if plt b1 b2 a1 a2 then b1 else a1) (if plt b1 b2 a1 a2 then b2 else a2) && !plt (if plt a1 a2 b1 b2 then b1 else a1) (if plt a1 a2 b1 b2 then b2 else a2) p1 p2)
theorem sz_if {r : Bool} {x y : Rat} {M : Nat} (hx : sz x ≤ M) (hy : sz y ≤ M) : sz (if r then x else y) ≤ M := by cases r; exact hy; exact hx
theorem pon_any (a1 a2 b1 b2 p1 p2 : Rat) (r : Bool) (w : World) (hr : onB a1 a2 b1 b2 p1 p2 = r) (hs_a1 : sz a1 ≤ 1000000000) (hs_a2 : sz a2 ≤ 1000000000) (hs_b1 : sz b1 ≤ 1000000000) (hs_b2 : sz b2 ≤ 1000000000) (hs_p1 : sz p1 ≤ 1000000000) (hs_p2 : sz p2 ≤ 1000000000) :
    Calls Tryz.prog 8 #[(Value.agg #[.int .u64 (lo a1.num.natAbs), .string (bg a1.num.natAbs), .bool (decide (a1.num < 0)), .int .u64 (lo (a1.den - 1)), .string (bg (a1.den - 1)), .int .u64 (lo a2.num.natAbs), .string (bg a2.num.natAbs), .bool (decide (a2.num < 0)), .int .u64 (lo (a2.den - 1)), .string (bg (a2.den - 1))]), (Value.agg #[.int .u64 (lo b1.num.natAbs), .string (bg b1.num.natAbs), .bool (decide (b1.num < 0)), .int .u64 (lo (b1.den - 1)), .string (bg (b1.den - 1)), .int .u64 (lo b2.num.natAbs), .string (bg b2.num.natAbs), .bool (decide (b2.num < 0)), .int .u64 (lo (b2.den - 1)), .string (bg (b2.den - 1))]), (Value.agg #[.int .u64 (lo p1.num.natAbs), .string (bg p1.num.natAbs), .bool (decide (p1.num < 0)), .int .u64 (lo (p1.den - 1)), .string (bg (p1.den - 1)), .int .u64 (lo p2.num.natAbs), .string (bg p2.num.natAbs), .bool (decide (p2.num < 0)), .int .u64 (lo (p2.den - 1)), .string (bg (p2.den - 1))])] w fun e w' => e = .returned (.bool r) ∧ Below w.heap.size w w' := by
  unfold onB at hr
  cases h0 : (turn a1 a2 b1 b2 p1 p2 == 0)
  · rw [h0] at hr
    rw [← hr]
    exact pon_no a1 a2 b1 b2 p1 p2 _ w (Lib.hid rfl) h0 hs_a1 hs_a2 hs_b1 hs_b2 hs_p1 hs_p2
  · rw [h0, Bool.true_and] at hr
    cases h1 : plt p1 p2 (if plt b1 b2 a1 a2 then b1 else a1) (if plt b1 b2 a1 a2 then b2 else a2)
    · rw [h1] at hr
      rw [← hr]
      exact pon_high a1 a2 b1 b2 p1 p2 _ _ _ _ _ _ _ _ w (Lib.hid rfl) h0 (Lib.hid rfl) (Lib.hid rfl) (Lib.hid rfl) (sz_if hs_b1 hs_a1) (sz_if hs_b2 hs_a2) (Lib.hid h1) (Lib.hid rfl) (Lib.hid rfl) (Lib.hid rfl) (sz_if hs_b1 hs_a1) (sz_if hs_b2 hs_a2) (Lib.hid rfl) hs_a1 hs_a2 hs_b1 hs_b2 hs_p1 hs_p2
    · rw [h1] at hr
      rw [← hr]
      exact pon_low a1 a2 b1 b2 p1 p2 _ _ _ _ w (Lib.hid rfl) h0 (Lib.hid rfl) (Lib.hid rfl) (Lib.hid rfl) (sz_if hs_b1 hs_a1) (sz_if hs_b2 hs_a2) (Lib.hid h1) hs_a1 hs_a2 hs_b1 hs_b2 hs_p1 hs_p2

/-- the terms of the determinant of Circle -/
def incirc (a1 a2 b1 b2 c1 c2 d1 d2 : Rat) : Rat :=
  psum [((a1 - d1) * (a1 - d1) + (a2 - d2) * (a2 - d2)) * ((b1 - d1) * (c2 - d2) - (b2 - d2) * (c1 - d1)),
    ((b1 - d1) * (b1 - d1) + (b2 - d2) * (b2 - d2)) * ((c1 - d1) * (a2 - d2) - (c2 - d2) * (a1 - d1)),
    ((c1 - d1) * (c1 - d1) + (c2 - d2) * (c2 - d2)) * ((a1 - d1) * (b2 - d2) - (a2 - d2) * (b1 - d1))] 3
set_option maxHeartbeats 1000000 in
theorem pcircle_any (a1 a2 b1 b2 c1 c2 d1 d2 : Rat) (s t r : Int) (w : World) (hsg : sgQ (incirc a1 a2 b1 b2 c1 c2 d1 d2) = s) (ht : turn a1 a2 b1 b2 c1 c2 = t) (hw : IntKind.i64.wrap (s * t) = r) (hs_a1 : sz a1 ≤ 50) (hs_a2 : sz a2 ≤ 50) (hs_b1 : sz b1 ≤ 50) (hs_b2 : sz b2 ≤ 50) (hs_c1 : sz c1 ≤ 50) (hs_c2 : sz c2 ≤ 50) (hs_d1 : sz d1 ≤ 50) (hs_d2 : sz d2 ≤ 50) :
    Calls Tryz.prog 10 #[(Value.agg #[.int .u64 (lo a1.num.natAbs), .string (bg a1.num.natAbs), .bool (decide (a1.num < 0)), .int .u64 (lo (a1.den - 1)), .string (bg (a1.den - 1)), .int .u64 (lo a2.num.natAbs), .string (bg a2.num.natAbs), .bool (decide (a2.num < 0)), .int .u64 (lo (a2.den - 1)), .string (bg (a2.den - 1))]), (Value.agg #[.int .u64 (lo b1.num.natAbs), .string (bg b1.num.natAbs), .bool (decide (b1.num < 0)), .int .u64 (lo (b1.den - 1)), .string (bg (b1.den - 1)), .int .u64 (lo b2.num.natAbs), .string (bg b2.num.natAbs), .bool (decide (b2.num < 0)), .int .u64 (lo (b2.den - 1)), .string (bg (b2.den - 1))]), (Value.agg #[.int .u64 (lo c1.num.natAbs), .string (bg c1.num.natAbs), .bool (decide (c1.num < 0)), .int .u64 (lo (c1.den - 1)), .string (bg (c1.den - 1)), .int .u64 (lo c2.num.natAbs), .string (bg c2.num.natAbs), .bool (decide (c2.num < 0)), .int .u64 (lo (c2.den - 1)), .string (bg (c2.den - 1))]), (Value.agg #[.int .u64 (lo d1.num.natAbs), .string (bg d1.num.natAbs), .bool (decide (d1.num < 0)), .int .u64 (lo (d1.den - 1)), .string (bg (d1.den - 1)), .int .u64 (lo d2.num.natAbs), .string (bg d2.num.natAbs), .bool (decide (d2.num < 0)), .int .u64 (lo (d2.den - 1)), .string (bg (d2.den - 1))])] w fun e w' => e = .returned (.int .i64 (r)) ∧ Below w.heap.size w w' := by
  replace hsg := Lib.hid hsg
  replace ht := Lib.hid ht
  go_enter Tryz.func10, Tryz.ntmps10
  -- region 0
  refine wp_seq_k fun K hK => ?_
  replace hK := Lib.hid hK
  refine wp_region_lit ?_
  go_wp2
  refine hK.out _ _ ?_; clear hK K
  show Code.wp _ _ _ _ _
  refine forgetW (fun w2 => Bx w2 (w.heap.size) 38 #[.int .u64 (lo a1.num.natAbs), .string (bg a1.num.natAbs), .bool (decide (a1.num < 0)), .int .u64 (lo (a1.den - 1)), .string (bg (a1.den - 1)), .int .u64 (lo a2.num.natAbs), .string (bg a2.num.natAbs), .bool (decide (a2.num < 0)), .int .u64 (lo (a2.den - 1)), .string (bg (a2.den - 1))] ∧ Bx w2 (w.heap.size + 1) 38 #[.int .u64 (lo b1.num.natAbs), .string (bg b1.num.natAbs), .bool (decide (b1.num < 0)), .int .u64 (lo (b1.den - 1)), .string (bg (b1.den - 1)), .int .u64 (lo b2.num.natAbs), .string (bg b2.num.natAbs), .bool (decide (b2.num < 0)), .int .u64 (lo (b2.den - 1)), .string (bg (b2.den - 1))] ∧ Bx w2 (w.heap.size + 1 + 1) 38 #[.int .u64 (lo c1.num.natAbs), .string (bg c1.num.natAbs), .bool (decide (c1.num < 0)), .int .u64 (lo (c1.den - 1)), .string (bg (c1.den - 1)), .int .u64 (lo c2.num.natAbs), .string (bg c2.num.natAbs), .bool (decide (c2.num < 0)), .int .u64 (lo (c2.den - 1)), .string (bg (c2.den - 1))] ∧ Bx w2 (w.heap.size + 1 + 1 + 1) 38 #[.int .u64 (lo d1.num.natAbs), .string (bg d1.num.natAbs), .bool (decide (d1.num < 0)), .int .u64 (lo (d1.den - 1)), .string (bg (d1.den - 1)), .int .u64 (lo d2.num.natAbs), .string (bg d2.num.natAbs), .bool (decide (d2.num < 0)), .int .u64 (lo (d2.den - 1)), .string (bg (d2.den - 1))] ∧ Below w.heap.size w w2) ⟨(((Bx.at rfl).alloc _).alloc _).alloc _, ((Bx.at (by simp)).alloc _).alloc _, (Bx.at (by simp)).alloc _, Bx.at (by simp), ((((Below.refl _ _).alloc (Nat.le_refl _) _).alloc (by simp) _).alloc (by simp; omega) _).alloc (by simp; omega) _⟩ ?_
  rintro Wx ⟨bx0, bx1, bx2, bx3, HB⟩
  replace HB := Lib.hid HB
  -- region 1
  obtain ⟨u1, HZ1⟩ : ∃ z, Hid ((a1) - (d1) = z) := ⟨_, Lib.hid rfl⟩
  have su1 : sz u1 ≤ 101 := by rw [← HZ1.out]; have := sz_sub (a1) (d1); omega
  obtain ⟨u2, HZ2⟩ : ∃ z, Hid ((a2) - (d2) = z) := ⟨_, Lib.hid rfl⟩
  have su2 : sz u2 ≤ 101 := by rw [← HZ2.out]; have := sz_sub (a2) (d2); omega
  obtain ⟨u3, HZ3⟩ : ∃ z, Hid ((b1) - (d1) = z) := ⟨_, Lib.hid rfl⟩
  have su3 : sz u3 ≤ 101 := by rw [← HZ3.out]; have := sz_sub (b1) (d1); omega
  obtain ⟨u4, HZ4⟩ : ∃ z, Hid ((b2) - (d2) = z) := ⟨_, Lib.hid rfl⟩
  have su4 : sz u4 ≤ 101 := by rw [← HZ4.out]; have := sz_sub (b2) (d2); omega
  obtain ⟨u5, HZ5⟩ : ∃ z, Hid ((c1) - (d1) = z) := ⟨_, Lib.hid rfl⟩
  have su5 : sz u5 ≤ 101 := by rw [← HZ5.out]; have := sz_sub (c1) (d1); omega
  obtain ⟨u6, HZ6⟩ : ∃ z, Hid ((c2) - (d2) = z) := ⟨_, Lib.hid rfl⟩
  have su6 : sz u6 ≤ 101 := by rw [← HZ6.out]; have := sz_sub (c2) (d2); omega
  have lx0 := bx0.cells
  have lx1 := bx1.cells
  have lx2 := bx2.cells
  have lx3 := bx3.cells
  have BX0 := Lib.hid bx0
  have BX1 := Lib.hid bx1
  have BX2 := Lib.hid bx2
  have BX3 := Lib.hid bx3
  clear bx0 bx1 bx2 bx3
  refine wp_seq_k fun K hK => ?_
  replace hK := Lib.hid hK
  refine wp_region_plan 12 [9, 10, 11] [] (fun i => if i = 9 then 9 else if i = 10 then 10 else 11) (fun i => if i = 9 then .cells #[.int .u64 0, .string ⟨#[]⟩, .bool false, .int .u64 0, .string ⟨#[]⟩, .int .u64 0, .string ⟨#[]⟩, .bool false, .int .u64 0, .string ⟨#[]⟩] 38 else if i = 10 then .cells #[.int .u64 0, .string ⟨#[]⟩, .bool false, .int .u64 0, .string ⟨#[]⟩, .int .u64 0, .string ⟨#[]⟩, .bool false, .int .u64 0, .string ⟨#[]⟩] 38 else .cells #[.int .u64 0, .string ⟨#[]⟩, .bool false, .int .u64 0, .string ⟨#[]⟩, .int .u64 0, .string ⟨#[]⟩, .bool false, .int .u64 0, .string ⟨#[]⟩] 38) [(true, 0), (true, 1), (true, 3), (true, 4), (true, 6), (true, 7), (true, 2), (true, 5), (true, 8)] (by kernel_rfl) (by kernel_rfl) (by intro i hi; simp only [List.mem_cons, List.not_mem_nil, or_false] at hi; rcases hi with rfl | rfl | rfl <;> exact ⟨_, rfl, rfl, rfl, by simp, fun ρ w => by kernel_rfl⟩) (fun i hi => by cases hi) (fun _ _ _ _ _ h => h) (fun T hT => ?_)
  iterate 6
    refine wpPlan_takeL (v := ?_) rfl (by rfl) (fun w' hw => ?_) ?_
    rotate_left
    · go_simp
      with_reducible rfl
    simp only [Act.put, rA, rB, rC]
  refine wpPlan_callL rfl (by rfl) Tryz.call17 (fun w' hw => psub_any (a1) (a2) (d1) (d2) (u1) (u2) _ HZ1.out HZ2.out (by omega) (by omega) (by omega) (by omega)) (by rfl) ?_
  simp only [Act.put, rA, rB, rC]
  refine wpPlan_callL rfl (by rfl) Tryz.call17 (fun w' hw => psub_any (b1) (b2) (d1) (d2) (u3) (u4) _ HZ3.out HZ4.out (by omega) (by omega) (by omega) (by omega)) (by rfl) ?_
  simp only [Act.put, rA, rB, rC]
  refine wpPlan_callL rfl (by rfl) Tryz.call17 (fun w' hw => psub_any (c1) (c2) (d1) (d2) (u5) (u6) _ HZ5.out HZ6.out (by omega) (by omega) (by omega) (by omega)) (by rfl) ?_
  simp only [Act.put, rA, rB, rC]
  refine wpPlan_nil (hT.out _ _ ?_); clear hT T
  intro G vw1 hg hf
  simp only [puts, Act.put, rA, rB, rC, rD, rE, ↓reduceIte, Nat.reduceEqDiff]
  clear lx0 lx1 lx2 lx3
  have HG := Lib.hid (hg)
  clear hg
  have bx4 := Bx.of_fresh hf (i := 9) (by decide) rfl
  have yx4 := (hf.1 9 (by decide)).1
  have bx5 := Bx.of_fresh hf (i := 10) (by decide) rfl
  have yx5 := (hf.1 10 (by decide)).1
  have dx4_5 : G 9 ≠ G 10 := fun e => absurd (hf.2 9 (by decide) 10 (by decide) e) (by decide)
  have bx6 := Bx.of_fresh hf (i := 11) (by decide) rfl
  have yx6 := (hf.1 11 (by decide)).1
  have dx4_6 : G 9 ≠ G 11 := fun e => absurd (hf.2 9 (by decide) 11 (by decide) e) (by decide)
  have dx5_6 : G 10 ≠ G 11 := fun e => absurd (hf.2 10 (by decide) 11 (by decide) e) (by decide)
  clear hf
  generalize G 9 = gx4 at *
  generalize G 10 = gx5 at *
  generalize G 11 = gx6 at *
  have qx0_4 : w.heap.size < gx4 := Nat.lt_of_lt_of_le BX0.out.lt yx4
  have qx0_5 : w.heap.size < gx5 := Nat.lt_of_lt_of_le BX0.out.lt yx5
  have qx0_6 : w.heap.size < gx6 := Nat.lt_of_lt_of_le BX0.out.lt yx6
  have qx1_4 : w.heap.size + 1 < gx4 := Nat.lt_of_lt_of_le BX1.out.lt yx4
  have qx1_5 : w.heap.size + 1 < gx5 := Nat.lt_of_lt_of_le BX1.out.lt yx5
  have qx1_6 : w.heap.size + 1 < gx6 := Nat.lt_of_lt_of_le BX1.out.lt yx6
  have qx2_4 : w.heap.size + 1 + 1 < gx4 := Nat.lt_of_lt_of_le BX2.out.lt yx4
  have qx2_5 : w.heap.size + 1 + 1 < gx5 := Nat.lt_of_lt_of_le BX2.out.lt yx5
  have qx2_6 : w.heap.size + 1 + 1 < gx6 := Nat.lt_of_lt_of_le BX2.out.lt yx6
  have qx3_4 : w.heap.size + 1 + 1 + 1 < gx4 := Nat.lt_of_lt_of_le BX3.out.lt yx4
  have qx3_5 : w.heap.size + 1 + 1 + 1 < gx5 := Nat.lt_of_lt_of_le BX3.out.lt yx5
  have qx3_6 : w.heap.size + 1 + 1 + 1 < gx6 := Nat.lt_of_lt_of_le BX3.out.lt yx6
  replace yx4 : w.heap.size ≤ gx4 := Nat.le_trans HB.out.size yx4
  replace yx5 : w.heap.size ≤ gx5 := Nat.le_trans HB.out.size yx5
  replace yx6 : w.heap.size ≤ gx6 := Nat.le_trans HB.out.size yx6
  replace BX0 := bG BX0 HG
  replace BX1 := bG BX1 HG
  replace BX2 := bG BX2 HG
  replace BX3 := bG BX3 HG
  have lx4 := bx4.cells; have fx4 := bx4.free
  have lx5 := bx5.cells; have fx5 := bx5.free
  have lx6 := bx6.cells; have fx6 := bx6.free
  have r0 := Gr.refl vw1
  have BX4 := Lib.hid bx4; clear bx4
  have BX5 := Lib.hid bx5; clear bx5
  have BX6 := Lib.hid bx6; clear bx6
  go_wp2
  refine hK.out _ _ ?_; clear hK K
  show Code.wp _ _ _ _ _
  clear lx4 fx4
  clear lx5 fx5
  clear lx6 fx6
  clear r0
  refine forgetW (fun w2 => Bx w2 (w.heap.size) 38 #[.int .u64 (lo a1.num.natAbs), .string (bg a1.num.natAbs), .bool (decide (a1.num < 0)), .int .u64 (lo (a1.den - 1)), .string (bg (a1.den - 1)), .int .u64 (lo a2.num.natAbs), .string (bg a2.num.natAbs), .bool (decide (a2.num < 0)), .int .u64 (lo (a2.den - 1)), .string (bg (a2.den - 1))] ∧ Bx w2 (w.heap.size + 1) 38 #[.int .u64 (lo b1.num.natAbs), .string (bg b1.num.natAbs), .bool (decide (b1.num < 0)), .int .u64 (lo (b1.den - 1)), .string (bg (b1.den - 1)), .int .u64 (lo b2.num.natAbs), .string (bg b2.num.natAbs), .bool (decide (b2.num < 0)), .int .u64 (lo (b2.den - 1)), .string (bg (b2.den - 1))] ∧ Bx w2 (w.heap.size + 1 + 1) 38 #[.int .u64 (lo c1.num.natAbs), .string (bg c1.num.natAbs), .bool (decide (c1.num < 0)), .int .u64 (lo (c1.den - 1)), .string (bg (c1.den - 1)), .int .u64 (lo c2.num.natAbs), .string (bg c2.num.natAbs), .bool (decide (c2.num < 0)), .int .u64 (lo (c2.den - 1)), .string (bg (c2.den - 1))] ∧ Bx w2 gx4 38 #[.int .u64 (lo u1.num.natAbs), .string (bg u1.num.natAbs), .bool (decide (u1.num < 0)), .int .u64 (lo (u1.den - 1)), .string (bg (u1.den - 1)), .int .u64 (lo u2.num.natAbs), .string (bg u2.num.natAbs), .bool (decide (u2.num < 0)), .int .u64 (lo (u2.den - 1)), .string (bg (u2.den - 1))] ∧ Bx w2 gx5 38 #[.int .u64 (lo u3.num.natAbs), .string (bg u3.num.natAbs), .bool (decide (u3.num < 0)), .int .u64 (lo (u3.den - 1)), .string (bg (u3.den - 1)), .int .u64 (lo u4.num.natAbs), .string (bg u4.num.natAbs), .bool (decide (u4.num < 0)), .int .u64 (lo (u4.den - 1)), .string (bg (u4.den - 1))] ∧ Bx w2 gx6 38 #[.int .u64 (lo u5.num.natAbs), .string (bg u5.num.natAbs), .bool (decide (u5.num < 0)), .int .u64 (lo (u5.den - 1)), .string (bg (u5.den - 1)), .int .u64 (lo u6.num.natAbs), .string (bg u6.num.natAbs), .bool (decide (u6.num < 0)), .int .u64 (lo (u6.den - 1)), .string (bg (u6.den - 1))] ∧ Below w.heap.size w w2) ⟨so10 (so10 (so10 (BX0.out) (by show w.heap.size ≠ gx4; omega)) (by show w.heap.size ≠ gx5; omega)) (by show w.heap.size ≠ gx6; omega), so10 (so10 (so10 (BX1.out) (by show w.heap.size + 1 ≠ gx4; omega)) (by show w.heap.size + 1 ≠ gx5; omega)) (by show w.heap.size + 1 ≠ gx6; omega), so10 (so10 (so10 (BX2.out) (by show w.heap.size + 1 + 1 ≠ gx4; omega)) (by show w.heap.size + 1 + 1 ≠ gx5; omega)) (by show w.heap.size + 1 + 1 ≠ gx6; omega), (so10 (so10 (((((((((((BX4.out).set 0 _).set 1 _).set 2 _).set 3 _).set 4 _).set 5 _).set 6 _).set 7 _).set 8 _).set 9 _) (by show gx4 ≠ gx5; omega)) (by show gx4 ≠ gx6; omega)).eq (by simp only [rA, rB, rC]), (so10 (((((((((((so10 (BX5.out) (by show gx5 ≠ gx4; omega)).set 0 _).set 1 _).set 2 _).set 3 _).set 4 _).set 5 _).set 6 _).set 7 _).set 8 _).set 9 _) (by show gx5 ≠ gx6; omega)).eq (by simp only [rA, rB, rC]), (((((((((((so10 (so10 (BX6.out) (by show gx6 ≠ gx4; omega)) (by show gx6 ≠ gx5; omega)).set 0 _).set 1 _).set 2 _).set 3 _).set 4 _).set 5 _).set 6 _).set 7 _).set 8 _).set 9 _).eq (by simp only [rA, rB, rC]), sc10 (sc10 (sc10 (HB.out.trans (HG.out.mono HB.out.size)) (by show w.heap.size ≤ gx4; omega)) (by show w.heap.size ≤ gx5; omega)) (by show w.heap.size ≤ gx6; omega)⟩ ?_
  clear HB HG BX0 BX1 BX2 BX3 BX4 BX5 BX6
  rintro Wx1 ⟨bx0, bx1, bx2, bx4, bx5, bx6, HB⟩
  replace HB := Lib.hid HB
  -- region 2
  obtain ⟨u7, HZ7⟩ : ∃ z, Hid ((u1) * (u1) + (u2) * (u2) = z) := ⟨_, Lib.hid rfl⟩
  have su7 : sz u7 ≤ 405 := by rw [← HZ7.out]; have := sz_dot (u1) (u2) (u1) (u2); omega
  obtain ⟨u8, HZ8⟩ : ∃ z, Hid ((u3) * (u6) - (u4) * (u5) = z) := ⟨_, Lib.hid rfl⟩
  have su8 : sz u8 ≤ 405 := by rw [← HZ8.out]; have := sz_cross (u3) (u4) (u5) (u6); omega
  obtain ⟨u9, HZ9⟩ : ∃ z, Hid ((u7) * (u8) = z) := ⟨_, Lib.hid rfl⟩
  have su9 : sz u9 ≤ 810 := by rw [← HZ9.out]; have := sz_mul (u7) (u8); omega
  obtain ⟨u10, HZ10⟩ : ∃ z, Hid ((u3) * (u3) + (u4) * (u4) = z) := ⟨_, Lib.hid rfl⟩
  have su10 : sz u10 ≤ 405 := by rw [← HZ10.out]; have := sz_dot (u3) (u4) (u3) (u4); omega
  obtain ⟨u11, HZ11⟩ : ∃ z, Hid ((u5) * (u2) - (u6) * (u1) = z) := ⟨_, Lib.hid rfl⟩
  have su11 : sz u11 ≤ 405 := by rw [← HZ11.out]; have := sz_cross (u5) (u6) (u1) (u2); omega
  obtain ⟨u12, HZ12⟩ : ∃ z, Hid ((u10) * (u11) = z) := ⟨_, Lib.hid rfl⟩
  have su12 : sz u12 ≤ 810 := by rw [← HZ12.out]; have := sz_mul (u10) (u11); omega
  obtain ⟨u13, HZ13⟩ : ∃ z, Hid ((u5) * (u5) + (u6) * (u6) = z) := ⟨_, Lib.hid rfl⟩
  have su13 : sz u13 ≤ 405 := by rw [← HZ13.out]; have := sz_dot (u5) (u6) (u5) (u6); omega
  obtain ⟨u14, HZ14⟩ : ∃ z, Hid ((u1) * (u4) - (u2) * (u3) = z) := ⟨_, Lib.hid rfl⟩
  have su14 : sz u14 ≤ 405 := by rw [← HZ14.out]; have := sz_cross (u1) (u2) (u3) (u4); omega
  obtain ⟨u15, HZ15⟩ : ∃ z, Hid ((u13) * (u14) = z) := ⟨_, Lib.hid rfl⟩
  have su15 : sz u15 ≤ 810 := by rw [← HZ15.out]; have := sz_mul (u13) (u14); omega
  obtain ⟨u16, HZ16⟩ : ∃ z, Hid (psum [u9, u12, u15] 3 = z) := ⟨_, Lib.hid rfl⟩
  have su16 : sz u16 ≤ 3004 := by rw [← HZ16.out]; have := sz_psum [u9, u12, u15] 1000 (by intro q hq; simp only [List.mem_cons, List.not_mem_nil, or_false] at hq; rcases hq with rfl | rfl | rfl <;> omega) 3 (by simp); omega
  have lx4 := bx4.cells
  have lx5 := bx5.cells
  have lx6 := bx6.cells
  have BX0 := Lib.hid bx0
  have BX1 := Lib.hid bx1
  have BX2 := Lib.hid bx2
  have BX4 := Lib.hid bx4
  have BX5 := Lib.hid bx5
  have BX6 := Lib.hid bx6
  clear bx0 bx1 bx2 bx4 bx5 bx6
  refine wp_seq_k fun K hK => ?_
  replace hK := Lib.hid hK
  have HS0 := Lib.hid (HB.out.size)
  have MX0 : w.heap.size < Wx1.heap.size := BX0.out.lt
  have MX1 : w.heap.size + 1 < Wx1.heap.size := BX1.out.lt
  have MX2 : w.heap.size + 1 + 1 < Wx1.heap.size := BX2.out.lt
  have MX4 : gx4 < Wx1.heap.size := BX4.out.lt
  have MX5 : gx5 < Wx1.heap.size := BX5.out.lt
  have MX6 : gx6 < Wx1.heap.size := BX6.out.lt
  refine wp_region_early 24 [23] [] (fun _ => 12) (fun _ => .cells #[.int .u64 0, .string ⟨#[]⟩, .bool false, .int .u64 0, .string ⟨#[]⟩] 36) (fun i => (3, #[.int .u64 (lo u9.num.natAbs), .string (bg u9.num.natAbs), .bool (decide (u9.num < 0)), .int .u64 (lo (u9.den - 1)), .string (bg (u9.den - 1)), .int .u64 (lo u12.num.natAbs), .string (bg u12.num.natAbs), .bool (decide (u12.num < 0)), .int .u64 (lo (u12.den - 1)), .string (bg (u12.den - 1)), .int .u64 (lo u15.num.natAbs), .string (bg u15.num.natAbs), .bool (decide (u15.num < 0)), .int .u64 (lo (u15.den - 1)), .string (bg (u15.den - 1))], 36)) [(0, 0), (0, 1), (0, 3), (0, 4), (0, 7), (0, 8), (0, 10), (0, 11), (0, 14), (0, 15), (0, 17), (0, 18), (0, 2), (0, 5), (0, 6), (0, 9), (0, 12), (0, 13), (0, 16), (0, 19), (0, 20), (1, 21), (2, 21), (0, 22)] (by kernel_rfl) (by kernel_rfl) (by intro i hi; simp only [List.mem_cons, List.not_mem_nil, or_false] at hi; rcases hi with rfl <;> exact ⟨_, rfl, rfl, rfl, by simp, fun ρ w => by kernel_rfl⟩) (fun i hi => by cases hi) (fun _ _ _ _ _ h => h) (fun T hT => ?_)
  iterate 12
    refine wpEarly_takeL (v := ?_) rfl (by rfl) (fun w' hw => ?_) ?_
    rotate_left
    · go_simp
      with_reducible rfl
    simp only [Act.put, rA, rB, rC]
  refine wpEarly_callL rfl (by rfl) Tryz.call27 (fun w' hw => pdot_any (u1) (u2) (u1) (u2) (u7) _ HZ7.out (by omega) (by omega) (by omega) (by omega)) (by rfl) ?_
  simp only [Act.put, rA, rB, rC]
  refine wpEarly_callL rfl (by rfl) Tryz.call16 (fun w' hw => pcross_any (u3) (u4) (u5) (u6) (u8) _ HZ8.out (by omega) (by omega) (by omega) (by omega)) (by rfl) ?_
  simp only [Act.put, rA, rB, rC]
  refine wpEarly_callL rfl (by rfl) Tryz.call26 (fun w' hw => fmul_any (u7) (u8) (u9) _ HZ9.out (by omega) (by omega)) (by rfl) ?_
  simp only [Act.put, rA, rB, rC]
  refine wpEarly_callL rfl (by rfl) Tryz.call27 (fun w' hw => pdot_any (u3) (u4) (u3) (u4) (u10) _ HZ10.out (by omega) (by omega) (by omega) (by omega)) (by rfl) ?_
  simp only [Act.put, rA, rB, rC]
  refine wpEarly_callL rfl (by rfl) Tryz.call16 (fun w' hw => pcross_any (u5) (u6) (u1) (u2) (u11) _ HZ11.out (by omega) (by omega) (by omega) (by omega)) (by rfl) ?_
  simp only [Act.put, rA, rB, rC]
  refine wpEarly_callL rfl (by rfl) Tryz.call26 (fun w' hw => fmul_any (u10) (u11) (u12) _ HZ12.out (by omega) (by omega)) (by rfl) ?_
  simp only [Act.put, rA, rB, rC]
  refine wpEarly_callL rfl (by rfl) Tryz.call27 (fun w' hw => pdot_any (u5) (u6) (u5) (u6) (u13) _ HZ13.out (by omega) (by omega) (by omega) (by omega)) (by rfl) ?_
  simp only [Act.put, rA, rB, rC]
  refine wpEarly_callL rfl (by rfl) Tryz.call16 (fun w' hw => pcross_any (u1) (u2) (u3) (u4) (u14) _ HZ14.out (by omega) (by omega) (by omega) (by omega)) (by rfl) ?_
  simp only [Act.put, rA, rB, rC]
  refine wpEarly_callL rfl (by rfl) Tryz.call26 (fun w' hw => fmul_any (u13) (u14) (u15) _ HZ15.out (by omega) (by omega)) (by rfl) ?_
  simp only [Act.put, rA, rB, rC]
  refine wpEarly_mk rfl (by rfl) (fun w' => ?_) ?_
  · go_simp
  refine wpEarly_use rfl (by rfl) (fun gx7 vv1 hg0 yx7 bx7 => ?_)
  have HG0 := Lib.hid hg0; clear hg0
  replace yx7 : w.heap.size ≤ gx7 := by first | exact Nat.le_trans HS0.out yx7 | exact Nat.le_trans HB.out.size yx7
  have BX7 := Lib.hid bx7; clear bx7
  replace BX0 := bG BX0 HG0
  replace BX1 := bG BX1 HG0
  replace BX2 := bG BX2 HG0
  replace BX4 := bG BX4 HG0
  replace BX5 := bG BX5 HG0
  replace BX6 := bG BX6 HG0
  replace HB := Lib.hid (HB.out.trans (HG0.out.mono HB.out.size))
  clear HG0
  clear lx4; have lx4 := BX4.out.cells
  clear lx5; have lx5 := BX5.out.cells
  clear lx6; have lx6 := BX6.out.cells
  simp only [Act.put, rA, rB, rC]
  refine wpEarly_callL rfl (by rfl) Tryz.call25 (fun w' hw => fsum_any [u9, u12, u15] (gx7) 3 (u16) _ (BX7.out.gr hw) rfl (by decide) (by intro q hq; simp only [List.mem_cons, List.not_mem_nil, or_false] at hq; rcases hq with rfl | rfl | rfl <;> omega) HZ16.out) (by rfl) ?_
  simp only [Act.put, rA, rB, rC]
  refine wpEarly_nil (hT.out _ _ ?_); clear hT T
  intro G vw2 hg hf
  simp only [puts, Act.put, rA, rB, rC, rD, rE, ↓reduceIte, Nat.reduceEqDiff]
  clear lx4 lx5 lx6
  clear BX7
  have HG := Lib.hid (hg)
  clear hg
  have bx8 := Bx.of_fresh hf (i := 23) (by decide) rfl
  have yx8 := (hf.1 23 (by decide)).1
  clear hf
  generalize G 23 = gx8 at *
  have qx0_8 : w.heap.size < gx8 := Nat.lt_of_lt_of_le MX0 yx8
  have qx1_8 : w.heap.size + 1 < gx8 := Nat.lt_of_lt_of_le MX1 yx8
  have qx2_8 : w.heap.size + 1 + 1 < gx8 := Nat.lt_of_lt_of_le MX2 yx8
  have qx4_8 : gx4 < gx8 := Nat.lt_of_lt_of_le MX4 yx8
  have qx5_8 : gx5 < gx8 := Nat.lt_of_lt_of_le MX5 yx8
  have qx6_8 : gx6 < gx8 := Nat.lt_of_lt_of_le MX6 yx8
  replace yx8 : w.heap.size ≤ gx8 := Nat.le_trans HS0.out yx8
  replace BX0 := bG BX0 HG
  replace BX1 := bG BX1 HG
  replace BX2 := bG BX2 HG
  replace BX4 := bG BX4 HG
  replace BX5 := bG BX5 HG
  replace BX6 := bG BX6 HG
  have lx8 := bx8.cells; have fx8 := bx8.free
  have r0 := Gr.refl vw2
  have BX8 := Lib.hid bx8; clear bx8
  go_wp2
  refine hK.out _ _ ?_; clear hK K
  show Code.wp _ _ _ _ _
  clear lx8 fx8
  clear r0
  refine forgetW (fun w2 => Bx w2 (w.heap.size) 38 #[.int .u64 (lo a1.num.natAbs), .string (bg a1.num.natAbs), .bool (decide (a1.num < 0)), .int .u64 (lo (a1.den - 1)), .string (bg (a1.den - 1)), .int .u64 (lo a2.num.natAbs), .string (bg a2.num.natAbs), .bool (decide (a2.num < 0)), .int .u64 (lo (a2.den - 1)), .string (bg (a2.den - 1))] ∧ Bx w2 (w.heap.size + 1) 38 #[.int .u64 (lo b1.num.natAbs), .string (bg b1.num.natAbs), .bool (decide (b1.num < 0)), .int .u64 (lo (b1.den - 1)), .string (bg (b1.den - 1)), .int .u64 (lo b2.num.natAbs), .string (bg b2.num.natAbs), .bool (decide (b2.num < 0)), .int .u64 (lo (b2.den - 1)), .string (bg (b2.den - 1))] ∧ Bx w2 (w.heap.size + 1 + 1) 38 #[.int .u64 (lo c1.num.natAbs), .string (bg c1.num.natAbs), .bool (decide (c1.num < 0)), .int .u64 (lo (c1.den - 1)), .string (bg (c1.den - 1)), .int .u64 (lo c2.num.natAbs), .string (bg c2.num.natAbs), .bool (decide (c2.num < 0)), .int .u64 (lo (c2.den - 1)), .string (bg (c2.den - 1))] ∧ Bx w2 gx8 36 #[.int .u64 (lo u16.num.natAbs), .string (bg u16.num.natAbs), .bool (decide (u16.num < 0)), .int .u64 (lo (u16.den - 1)), .string (bg (u16.den - 1))] ∧ Below w.heap.size w w2) ⟨so5 (BX0.out) (by show w.heap.size ≠ gx8; omega), so5 (BX1.out) (by show w.heap.size + 1 ≠ gx8; omega), so5 (BX2.out) (by show w.heap.size + 1 + 1 ≠ gx8; omega), ((((((BX8.out).set 0 _).set 1 _).set 2 _).set 3 _).set 4 _).eq (by simp only [rA, rB, rC]), sc5 (HB.out.trans (HG.out.mono HB.out.size)) (by show w.heap.size ≤ gx8; omega)⟩ ?_
  clear HB HG BX0 BX1 BX2 BX4 BX5 BX6 BX8
  rintro Wx2 ⟨bx0, bx1, bx2, bx8, HB⟩
  replace HB := Lib.hid HB
  -- region 3
  have lx0 := bx0.cells
  have lx1 := bx1.cells
  have lx2 := bx2.cells
  have lx8 := bx8.cells
  have BX0 := Lib.hid bx0
  have BX1 := Lib.hid bx1
  have BX2 := Lib.hid bx2
  have BX8 := Lib.hid bx8
  clear bx0 bx1 bx2 bx8
  refine wp_seq_k fun K hK => ?_
  replace hK := Lib.hid hK
  refine wp_region_plan 7 [] [] (fun _ => 0) (fun _ => .cells #[] 0) [(true, 0), (true, 2), (true, 3), (true, 4), (true, 1), (true, 5), (true, 6)] (by kernel_rfl) (by kernel_rfl) (fun i hi => by cases hi) (fun i hi => by cases hi) (fun _ _ _ _ _ h => h) (fun T hT => ?_)
  iterate 4
    refine wpPlan_takeL (v := ?_) rfl (by rfl) (fun w' hw => ?_) ?_
    rotate_left
    · go_simp
      with_reducible rfl
    simp only [Act.put, rA, rB, rC]
  refine wpPlan_callL rfl (by rfl) Tryz.call15 (fun w' hw => fsign_any (u16) (s) _ (by simp only [← HZ16.out, ← HZ15.out, ← HZ14.out, ← HZ13.out, ← HZ12.out, ← HZ11.out, ← HZ10.out, ← HZ9.out, ← HZ8.out, ← HZ7.out, ← HZ6.out, ← HZ5.out, ← HZ4.out, ← HZ3.out, ← HZ2.out, ← HZ1.out]; exact hsg.out)) (by rfl) ?_
  simp only [Act.put, rA, rB, rC]
  refine wpPlan_callL rfl (by rfl) Tryz.call6 (fun w' hw => pturn_any (a1) (a2) (b1) (b2) (c1) (c2) (t) _ (ht.out) (by omega) (by omega) (by omega) (by omega) (by omega) (by omega)) (by rfl) ?_
  simp only [Act.put, rA, rB, rC]
  iterate 1
    refine wpPlan_takeL (v := ?_) rfl (by rfl) (fun w' hw => ?_) ?_
    rotate_left
    · go_simp
      with_reducible rfl
    simp only [Act.put, rA, rB, rC]
  refine wpPlan_nil (hT.out _ _ ?_); clear hT T
  intro G vw3 hg hf
  simp only [puts, Act.put, rA, rB, rC, rD, rE, ↓reduceIte, Nat.reduceEqDiff]
  clear lx0 lx1 lx2 lx8
  have HG := Lib.hid (hg)
  clear hg
  replace BX0 := bG BX0 HG
  replace BX1 := bG BX1 HG
  replace BX2 := bG BX2 HG
  replace BX8 := bG BX8 HG
  have r0 := Gr.refl vw3
  go_wp2
  refine hK.out _ _ ?_; clear hK K
  show Code.wp _ _ _ _ _
  clear r0
  refine forgetW (fun w2 => Below w.heap.size w w2) (HB.out.trans (HG.out.mono HB.out.size)) ?_
  clear HB HG BX0 BX1 BX2 BX8
  rintro Wx3 HB
  replace HB := Lib.hid HB
  refine wp_ret ?_
  try simp only [Exit.then, Exit.inBlock]
  have r0 := Gr.refl Wx3
  exact bodyPost_ret (v := .int .i64 (r)) (by simp [results, Tryz.results10, go_sem]) rfl ⟨rfl, HB.out⟩

end Go.Proofs.YtenpbnmmadbkdaaGreat
