/- points: least, greatest. -/
import Derived.Test.YtenpbnmmadbkdaaSum
namespace Go.Proofs.Ytenpbnmmadbkdaa
open Go.RowKit
set_option linter.unusedSimpArgs false
set_option linter.unusedVariables false
attribute [local go_sem ↓] Go.wp_at_zero Go.wp_at_succ
set_option maxHeartbeats 1000000 in
theorem pleast_true (a1 a2 b1 b2 : Rat) (g : Nat) (w : World) (bx9 : Bx w g 38 #[.int .u64 ((lo (Int.natAbs ((b1).num)) : Nat) : Int), .string (bg (Int.natAbs ((b1).num))), .bool (decide (((b1).num) < 0)), .int .u64 ((lo ((b1).den - 1) : Nat) : Int), .string (bg ((b1).den - 1)), .int .u64 ((lo (Int.natAbs ((b2).num)) : Nat) : Int), .string (bg (Int.natAbs ((b2).num))), .bool (decide (((b2).num) < 0)), .int .u64 ((lo ((b2).den - 1) : Nat) : Int), .string (bg ((b2).den - 1))]) (h : Hid (plt b1 b2 a1 a2 = true)) (hs_a1 : sz a1 ≤ 10000000000) (hs_a2 : sz a2 ≤ 10000000000) (hs_b1 : sz b1 ≤ 10000000000) (hs_b2 : sz b2 ≤ 10000000000) :
    Calls Try.prog 44 #[(Value.agg #[.int .u64 ((lo (Int.natAbs ((a1).num)) : Nat) : Int), .string (bg (Int.natAbs ((a1).num))), .bool (decide (((a1).num) < 0)), .int .u64 ((lo ((a1).den - 1) : Nat) : Int), .string (bg ((a1).den - 1)), .int .u64 ((lo (Int.natAbs ((a2).num)) : Nat) : Int), .string (bg (Int.natAbs ((a2).num))), .bool (decide (((a2).num) < 0)), .int .u64 ((lo ((a2).den - 1) : Nat) : Int), .string (bg ((a2).den - 1))]), (Value.slice (some ⟨g, 0, none⟩) 1 1)] w fun e w' => e = .returned (.agg #[.int .u64 ((lo (Int.natAbs ((b1).num)) : Nat) : Int), .string (bg (Int.natAbs ((b1).num))), .bool (decide (((b1).num) < 0)), .int .u64 ((lo ((b1).den - 1) : Nat) : Int), .string (bg ((b1).den - 1)), .int .u64 ((lo (Int.natAbs ((b2).num)) : Nat) : Int), .string (bg (Int.natAbs ((b2).num))), .bool (decide (((b2).num) < 0)), .int .u64 ((lo ((b2).den - 1) : Nat) : Int), .string (bg ((b2).den - 1))]) ∧ Below w.heap.size w w' := by
  go_enter Try.func44, Try.ntmps44
  have e9 := bx9.lt
  -- region 0
  refine wp_seq_k fun K hK => ?_
  replace hK := Lib.hid hK
  refine wp_region_lit ?_
  go_wp2
  refine hK.out _ _ ?_; clear hK K
  show Code.wp _ _ _ _ _
  refine forgetW (fun w2 => Bx w2 g 38 #[.int .u64 ((lo (Int.natAbs ((b1).num)) : Nat) : Int), .string (bg (Int.natAbs ((b1).num))), .bool (decide (((b1).num) < 0)), .int .u64 ((lo ((b1).den - 1) : Nat) : Int), .string (bg ((b1).den - 1)), .int .u64 ((lo (Int.natAbs ((b2).num)) : Nat) : Int), .string (bg (Int.natAbs ((b2).num))), .bool (decide (((b2).num) < 0)), .int .u64 ((lo ((b2).den - 1) : Nat) : Int), .string (bg ((b2).den - 1))] ∧ Bx w2 (w.heap.size) 38 #[.int .u64 ((lo (Int.natAbs ((a1).num)) : Nat) : Int), .string (bg (Int.natAbs ((a1).num))), .bool (decide (((a1).num) < 0)), .int .u64 ((lo ((a1).den - 1) : Nat) : Int), .string (bg ((a1).den - 1)), .int .u64 ((lo (Int.natAbs ((a2).num)) : Nat) : Int), .string (bg (Int.natAbs ((a2).num))), .bool (decide (((a2).num) < 0)), .int .u64 ((lo ((a2).den - 1) : Nat) : Int), .string (bg ((a2).den - 1))] ∧ Bx w2 (w.heap.size + 1) 38 #[.int .u64 0, .string ⟨#[]⟩, .bool false, .int .u64 0, .string ⟨#[]⟩, .int .u64 0, .string ⟨#[]⟩, .bool false, .int .u64 0, .string ⟨#[]⟩] ∧ Below w.heap.size w w2) ⟨((bx9).alloc _).alloc _, (Bx.at rfl).alloc _, Bx.at (by simp), ((Below.refl _ _).alloc (Nat.le_refl _) _).alloc (by simp) _⟩ ?_
  clear bx9
  rintro Wx ⟨bx9, bx10, bx11, HB⟩
  replace HB := Lib.hid HB
  refine wp_seq ?_
  -- region 1
  have BX9 := Lib.hid bx9
  have BX10 := Lib.hid bx10
  have BX11 := Lib.hid bx11
  clear bx9 bx10 bx11
  refine wp_seq_k fun K hK => ?_
  replace hK := Lib.hid hK
  refine wp_region_seqplan 3 [(true, 0), (true, 1), (true, 2)] (by rfl) (by simp) (fun T hT => ?_)
  iterate 3
    refine wpPlan_takeL (v := ?_) rfl (by rfl) (fun w' hw => ?_) ?_
    rotate_left
    · go_simp
      with_reducible rfl
    simp only [Act.put, List.setIfInBounds_toArray, List.set_cons_zero, List.set_cons_succ]
  refine wpPlan_nil (hT.out _ _ ?_); clear hT T
  intro vw1 hg
  simp only [puts, Act.put, List.setIfInBounds_toArray, List.set_cons_zero, List.set_cons_succ, List.drop_succ_cons, List.drop_zero, ↓reduceIte, Nat.reduceEqDiff]
  have HG := Lib.hid (hg)
  clear hg
  have bx9 := BX9.out.gr HG.out; clear BX9
  have bx10 := BX10.out.gr HG.out; clear BX10
  have bx11 := BX11.out.gr HG.out; clear BX11
  have r0 := Gr.refl vw1
  have BX9 := Lib.hid bx9; clear bx9
  have BX10 := Lib.hid bx10; clear bx10
  have BX11 := Lib.hid bx11; clear bx11
  go_wp2
  refine hK.out _ _ ?_; clear hK K
  show Code.wp _ _ _ _ _
  clear r0
  refine forgetW (fun w2 => Bx w2 g 38 #[.int .u64 ((lo (Int.natAbs ((b1).num)) : Nat) : Int), .string (bg (Int.natAbs ((b1).num))), .bool (decide (((b1).num) < 0)), .int .u64 ((lo ((b1).den - 1) : Nat) : Int), .string (bg ((b1).den - 1)), .int .u64 ((lo (Int.natAbs ((b2).num)) : Nat) : Int), .string (bg (Int.natAbs ((b2).num))), .bool (decide (((b2).num) < 0)), .int .u64 ((lo ((b2).den - 1) : Nat) : Int), .string (bg ((b2).den - 1))] ∧ Bx w2 (w.heap.size) 38 #[.int .u64 ((lo (Int.natAbs ((a1).num)) : Nat) : Int), .string (bg (Int.natAbs ((a1).num))), .bool (decide (((a1).num) < 0)), .int .u64 ((lo ((a1).den - 1) : Nat) : Int), .string (bg ((a1).den - 1)), .int .u64 ((lo (Int.natAbs ((a2).num)) : Nat) : Int), .string (bg (Int.natAbs ((a2).num))), .bool (decide (((a2).num) < 0)), .int .u64 ((lo ((a2).den - 1) : Nat) : Int), .string (bg ((a2).den - 1))] ∧ Bx w2 (w.heap.size + 1) 38 #[.int .u64 0, .string ⟨#[]⟩, .bool false, .int .u64 0, .string ⟨#[]⟩, .int .u64 0, .string ⟨#[]⟩, .bool false, .int .u64 0, .string ⟨#[]⟩] ∧ Below w.heap.size w w2) ⟨BX9.out, BX10.out, BX11.out, HB.out.trans (HG.out.mono HB.out.size)⟩ ?_
  clear HB HG BX9 BX10 BX11
  rintro Wx1 ⟨bx9, bx10, bx11, HB⟩
  replace HB := Lib.hid HB
  refine wp_block ?_
  refine wp_loop_rounds 12 ?_
  rw [rounds_succ]
  -- region 2
  have BX9 := Lib.hid bx9
  have BX10 := Lib.hid bx10
  have BX11 := Lib.hid bx11
  clear bx9 bx10 bx11
  refine wp_seq_k fun K hK => ?_
  replace hK := Lib.hid hK
  refine wp_region_seqplan 1 [(true, 0)] (by rfl) (by simp) (fun T hT => ?_)
  iterate 1
    refine wpPlan_takeL (v := ?_) rfl (by rfl) (fun w' hw => ?_) ?_
    rotate_left
    · go_simp
      with_reducible rfl
    simp only [Act.put, List.setIfInBounds_toArray, List.set_cons_zero, List.set_cons_succ]
  refine wpPlan_nil (hT.out _ _ ?_); clear hT T
  intro vw2 hg
  simp only [puts, Act.put, List.setIfInBounds_toArray, List.set_cons_zero, List.set_cons_succ, List.drop_succ_cons, List.drop_zero, ↓reduceIte, Nat.reduceEqDiff]
  have HG := Lib.hid (hg)
  clear hg
  have bx9 := BX9.out.gr HG.out; clear BX9
  have bx10 := BX10.out.gr HG.out; clear BX10
  have bx11 := BX11.out.gr HG.out; clear BX11
  have r0 := Gr.refl vw2
  have BX9 := Lib.hid bx9; clear bx9
  have BX10 := Lib.hid bx10; clear bx10
  have BX11 := Lib.hid bx11; clear bx11
  go_wp2
  refine hK.out _ _ ?_; clear hK K
  show Code.wp _ _ _ _ _
  clear r0
  refine forgetW (fun w2 => Bx w2 g 38 #[.int .u64 ((lo (Int.natAbs ((b1).num)) : Nat) : Int), .string (bg (Int.natAbs ((b1).num))), .bool (decide (((b1).num) < 0)), .int .u64 ((lo ((b1).den - 1) : Nat) : Int), .string (bg ((b1).den - 1)), .int .u64 ((lo (Int.natAbs ((b2).num)) : Nat) : Int), .string (bg (Int.natAbs ((b2).num))), .bool (decide (((b2).num) < 0)), .int .u64 ((lo ((b2).den - 1) : Nat) : Int), .string (bg ((b2).den - 1))] ∧ Bx w2 (w.heap.size) 38 #[.int .u64 ((lo (Int.natAbs ((a1).num)) : Nat) : Int), .string (bg (Int.natAbs ((a1).num))), .bool (decide (((a1).num) < 0)), .int .u64 ((lo ((a1).den - 1) : Nat) : Int), .string (bg ((a1).den - 1)), .int .u64 ((lo (Int.natAbs ((a2).num)) : Nat) : Int), .string (bg (Int.natAbs ((a2).num))), .bool (decide (((a2).num) < 0)), .int .u64 ((lo ((a2).den - 1) : Nat) : Int), .string (bg ((a2).den - 1))] ∧ Bx w2 (w.heap.size + 1) 38 #[.int .u64 0, .string ⟨#[]⟩, .bool false, .int .u64 0, .string ⟨#[]⟩, .int .u64 0, .string ⟨#[]⟩, .bool false, .int .u64 0, .string ⟨#[]⟩] ∧ Below w.heap.size w w2) ⟨BX9.out, BX10.out, BX11.out, HB.out.trans (HG.out.mono HB.out.size)⟩ ?_
  clear HB HG BX9 BX10 BX11
  rintro Wx2 ⟨bx9, bx10, bx11, HB⟩
  replace HB := Lib.hid HB
  refine wp_seq ?_
  refine wp_cond_true (by rfl) ?_
  refine wp_skip ?_
  show Code.wp _ _ _ _ _
  refine wp_seq ?_
  refine wp_block ?_
  -- region 3
  have lx9 := bx9.cells
  have BX9 := Lib.hid bx9
  have BX10 := Lib.hid bx10
  have BX11 := Lib.hid bx11
  clear bx9 bx10 bx11
  refine wp_seq_k fun K hK => ?_
  replace hK := Lib.hid hK
  refine wp_region_seqplan 2 [(true, 0), (true, 1)] (by rfl) (by simp) (fun T hT => ?_)
  iterate 2
    refine wpPlan_takeL (v := ?_) rfl (by rfl) (fun w' hw => ?_) ?_
    rotate_left
    · go_simp
      with_reducible rfl
    simp only [Act.put, List.setIfInBounds_toArray, List.set_cons_zero, List.set_cons_succ]
  refine wpPlan_nil (hT.out _ _ ?_); clear hT T
  intro vw3 hg
  simp only [puts, Act.put, List.setIfInBounds_toArray, List.set_cons_zero, List.set_cons_succ, List.drop_succ_cons, List.drop_zero, ↓reduceIte, Nat.reduceEqDiff]
  clear lx9
  have HG := Lib.hid (hg)
  clear hg
  have bx9 := BX9.out.gr HG.out; clear BX9
  have bx10 := BX10.out.gr HG.out; clear BX10
  have bx11 := BX11.out.gr HG.out; clear BX11
  have r0 := Gr.refl vw3
  have BX9 := Lib.hid bx9; clear bx9
  have BX10 := Lib.hid bx10; clear bx10
  have BX11 := Lib.hid bx11; clear bx11
  go_wp2
  refine hK.out _ _ ?_; clear hK K
  show Code.wp _ _ _ _ _
  clear r0
  have hsz : w.heap.size ≤ vw3.heap.size := Nat.le_trans HB.out.size HG.out.size
  have mx9 : g < vw3.heap.size := BX9.out.lt
  have mx10 : w.heap.size < vw3.heap.size := BX10.out.lt
  have mx11 : w.heap.size + 1 < vw3.heap.size := BX11.out.lt
  refine forgetW (fun w2 => Bx w2 g 38 #[.int .u64 ((lo (Int.natAbs ((b1).num)) : Nat) : Int), .string (bg (Int.natAbs ((b1).num))), .bool (decide (((b1).num) < 0)), .int .u64 ((lo ((b1).den - 1) : Nat) : Int), .string (bg ((b1).den - 1)), .int .u64 ((lo (Int.natAbs ((b2).num)) : Nat) : Int), .string (bg (Int.natAbs ((b2).num))), .bool (decide (((b2).num) < 0)), .int .u64 ((lo ((b2).den - 1) : Nat) : Int), .string (bg ((b2).den - 1))] ∧ Bx w2 (w.heap.size) 38 #[.int .u64 ((lo (Int.natAbs ((a1).num)) : Nat) : Int), .string (bg (Int.natAbs ((a1).num))), .bool (decide (((a1).num) < 0)), .int .u64 ((lo ((a1).den - 1) : Nat) : Int), .string (bg ((a1).den - 1)), .int .u64 ((lo (Int.natAbs ((a2).num)) : Nat) : Int), .string (bg (Int.natAbs ((a2).num))), .bool (decide (((a2).num) < 0)), .int .u64 ((lo ((a2).den - 1) : Nat) : Int), .string (bg ((a2).den - 1))] ∧ Bx w2 (w.heap.size + 1) 38 #[.int .u64 0, .string ⟨#[]⟩, .bool false, .int .u64 0, .string ⟨#[]⟩, .int .u64 0, .string ⟨#[]⟩, .bool false, .int .u64 0, .string ⟨#[]⟩] ∧ Bx w2 (vw3.heap.size) 38 #[.int .u64 ((lo (Int.natAbs ((b1).num)) : Nat) : Int), .string (bg (Int.natAbs ((b1).num))), .bool (decide (((b1).num) < 0)), .int .u64 ((lo ((b1).den - 1) : Nat) : Int), .string (bg ((b1).den - 1)), .int .u64 ((lo (Int.natAbs ((b2).num)) : Nat) : Int), .string (bg (Int.natAbs ((b2).num))), .bool (decide (((b2).num) < 0)), .int .u64 ((lo ((b2).den - 1) : Nat) : Int), .string (bg ((b2).den - 1))] ∧ Below w.heap.size w w2) ⟨(BX9.out).alloc _, (BX10.out).alloc _, (BX11.out).alloc _, (Bx.at (by simp) : Bx _ (vw3.heap.size) _ _), (HB.out.trans (HG.out.mono HB.out.size)).alloc (by first | omega | (simp; omega)) _⟩ ?_
  clear HB HG BX9 BX10 BX11
  rintro Wx3 ⟨bx9, bx10, bx11, bx12, HB⟩
  replace HB := Lib.hid HB
  have yx12 : w.heap.size ≤ vw3.heap.size := by omega
  have qx9_12 : g < vw3.heap.size := by omega
  have qx10_12 : w.heap.size < vw3.heap.size := by omega
  have qx11_12 : w.heap.size + 1 < vw3.heap.size := by omega
  generalize hx12 : vw3.heap.size = gx12 at *
  clear hx12
  clear hsz mx9 mx10 mx11
  -- region 4
  have lx10 := bx10.cells
  have lx12 := bx12.cells
  have BX9 := Lib.hid bx9
  have BX10 := Lib.hid bx10
  have BX11 := Lib.hid bx11
  have BX12 := Lib.hid bx12
  clear bx9 bx10 bx11 bx12
  refine wp_seq_k fun K hK => ?_
  replace hK := Lib.hid hK
  refine wp_region_seqplan 3 [(true, 0), (true, 1), (true, 2)] (by rfl) (by simp) (fun T hT => ?_)
  iterate 2
    refine wpPlan_takeL (v := ?_) rfl (by rfl) (fun w' hw => ?_) ?_
    rotate_left
    · go_simp
      with_reducible rfl
    simp only [Act.put, List.setIfInBounds_toArray, List.set_cons_zero, List.set_cons_succ]
  refine wpPlan_callL rfl (by rfl) Try.call27 (fun w' hw => pless_any (b1) (b2) (a1) (a2) true _ (h.out) (by first | omega | exact Nat.le_trans (wl_small (by decide)) (by decide)) (by first | omega | exact Nat.le_trans (wl_small (by decide)) (by decide)) (by first | omega | exact Nat.le_trans (wl_small (by decide)) (by decide)) (by first | omega | exact Nat.le_trans (wl_small (by decide)) (by decide))) (by rfl) ?_
  simp only [Act.put, List.setIfInBounds_toArray, List.set_cons_zero, List.set_cons_succ]
  refine wpPlan_nil (hT.out _ _ ?_); clear hT T
  intro vw4 hg
  simp only [puts, Act.put, List.setIfInBounds_toArray, List.set_cons_zero, List.set_cons_succ, List.drop_succ_cons, List.drop_zero, ↓reduceIte, Nat.reduceEqDiff]
  clear lx10 lx12
  have HG := Lib.hid (hg)
  clear hg
  have bx9 := BX9.out.gr HG.out; clear BX9
  have bx10 := BX10.out.gr HG.out; clear BX10
  have bx11 := BX11.out.gr HG.out; clear BX11
  have bx12 := BX12.out.gr HG.out; clear BX12
  have r0 := Gr.refl vw4
  have BX9 := Lib.hid bx9; clear bx9
  have BX10 := Lib.hid bx10; clear bx10
  have BX11 := Lib.hid bx11; clear bx11
  have BX12 := Lib.hid bx12; clear bx12
  go_wp2
  refine hK.out _ _ ?_; clear hK K
  show Code.wp _ _ _ _ _
  clear r0
  refine forgetW (fun w2 => Bx w2 g 38 #[.int .u64 ((lo (Int.natAbs ((b1).num)) : Nat) : Int), .string (bg (Int.natAbs ((b1).num))), .bool (decide (((b1).num) < 0)), .int .u64 ((lo ((b1).den - 1) : Nat) : Int), .string (bg ((b1).den - 1)), .int .u64 ((lo (Int.natAbs ((b2).num)) : Nat) : Int), .string (bg (Int.natAbs ((b2).num))), .bool (decide (((b2).num) < 0)), .int .u64 ((lo ((b2).den - 1) : Nat) : Int), .string (bg ((b2).den - 1))] ∧ Bx w2 (w.heap.size) 38 #[.int .u64 ((lo (Int.natAbs ((a1).num)) : Nat) : Int), .string (bg (Int.natAbs ((a1).num))), .bool (decide (((a1).num) < 0)), .int .u64 ((lo ((a1).den - 1) : Nat) : Int), .string (bg ((a1).den - 1)), .int .u64 ((lo (Int.natAbs ((a2).num)) : Nat) : Int), .string (bg (Int.natAbs ((a2).num))), .bool (decide (((a2).num) < 0)), .int .u64 ((lo ((a2).den - 1) : Nat) : Int), .string (bg ((a2).den - 1))] ∧ Bx w2 (w.heap.size + 1) 38 #[.int .u64 0, .string ⟨#[]⟩, .bool false, .int .u64 0, .string ⟨#[]⟩, .int .u64 0, .string ⟨#[]⟩, .bool false, .int .u64 0, .string ⟨#[]⟩] ∧ Bx w2 gx12 38 #[.int .u64 ((lo (Int.natAbs ((b1).num)) : Nat) : Int), .string (bg (Int.natAbs ((b1).num))), .bool (decide (((b1).num) < 0)), .int .u64 ((lo ((b1).den - 1) : Nat) : Int), .string (bg ((b1).den - 1)), .int .u64 ((lo (Int.natAbs ((b2).num)) : Nat) : Int), .string (bg (Int.natAbs ((b2).num))), .bool (decide (((b2).num) < 0)), .int .u64 ((lo ((b2).den - 1) : Nat) : Int), .string (bg ((b2).den - 1))] ∧ Below w.heap.size w w2) ⟨BX9.out, BX10.out, BX11.out, BX12.out, HB.out.trans (HG.out.mono HB.out.size)⟩ ?_
  clear HB HG BX9 BX10 BX11 BX12
  rintro Wx4 ⟨bx9, bx10, bx11, bx12, HB⟩
  replace HB := Lib.hid HB
  refine wp_cond_true (by rfl) ?_
  -- region 5
  have lx12 := bx12.cells
  have BX9 := Lib.hid bx9
  have BX10 := Lib.hid bx10
  have BX11 := Lib.hid bx11
  have BX12 := Lib.hid bx12
  clear bx9 bx10 bx11 bx12
  refine wp_last_k fun K hK => ?_
  replace hK := Lib.hid hK
  refine wp_region_seqplan 1 [(true, 0)] (by rfl) (by simp) (fun T hT => ?_)
  iterate 1
    refine wpPlan_takeL (v := ?_) rfl (by rfl) (fun w' hw => ?_) ?_
    rotate_left
    · go_simp
      with_reducible rfl
    simp only [Act.put, List.setIfInBounds_toArray, List.set_cons_zero, List.set_cons_succ]
  refine wpPlan_nil (hT.out _ _ ?_); clear hT T
  intro vw5 hg
  simp only [puts, Act.put, List.setIfInBounds_toArray, List.set_cons_zero, List.set_cons_succ, List.drop_succ_cons, List.drop_zero, ↓reduceIte, Nat.reduceEqDiff]
  clear lx12
  have HG := Lib.hid (hg)
  clear hg
  have bx9 := BX9.out.gr HG.out; clear BX9
  have bx10 := BX10.out.gr HG.out; clear BX10
  have bx11 := BX11.out.gr HG.out; clear BX11
  have bx12 := BX12.out.gr HG.out; clear BX12
  have lx10 := bx10.cells; have fx10 := bx10.free
  have r0 := Gr.refl vw5
  have BX9 := Lib.hid bx9; clear bx9
  have BX10 := Lib.hid bx10; clear bx10
  have BX11 := Lib.hid bx11; clear bx11
  have BX12 := Lib.hid bx12; clear bx12
  go_wp2
  refine hK.out _ _ ?_; clear hK K
  show Code.wp _ _ _ _ _
  clear lx10 fx10
  clear r0
  refine forgetW (fun w2 => Bx w2 g 38 #[.int .u64 ((lo (Int.natAbs ((b1).num)) : Nat) : Int), .string (bg (Int.natAbs ((b1).num))), .bool (decide (((b1).num) < 0)), .int .u64 ((lo ((b1).den - 1) : Nat) : Int), .string (bg ((b1).den - 1)), .int .u64 ((lo (Int.natAbs ((b2).num)) : Nat) : Int), .string (bg (Int.natAbs ((b2).num))), .bool (decide (((b2).num) < 0)), .int .u64 ((lo ((b2).den - 1) : Nat) : Int), .string (bg ((b2).den - 1))] ∧ Bx w2 (w.heap.size) 38 #[.int .u64 ((lo (Int.natAbs ((b1).num)) : Nat) : Int), .string (bg (Int.natAbs ((b1).num))), .bool (decide (((b1).num) < 0)), .int .u64 ((lo ((b1).den - 1) : Nat) : Int), .string (bg ((b1).den - 1)), .int .u64 ((lo (Int.natAbs ((b2).num)) : Nat) : Int), .string (bg (Int.natAbs ((b2).num))), .bool (decide (((b2).num) < 0)), .int .u64 ((lo ((b2).den - 1) : Nat) : Int), .string (bg ((b2).den - 1))] ∧ Bx w2 (w.heap.size + 1) 38 #[.int .u64 0, .string ⟨#[]⟩, .bool false, .int .u64 0, .string ⟨#[]⟩, .int .u64 0, .string ⟨#[]⟩, .bool false, .int .u64 0, .string ⟨#[]⟩] ∧ Bx w2 gx12 38 #[.int .u64 ((lo (Int.natAbs ((b1).num)) : Nat) : Int), .string (bg (Int.natAbs ((b1).num))), .bool (decide (((b1).num) < 0)), .int .u64 ((lo ((b1).den - 1) : Nat) : Int), .string (bg ((b1).den - 1)), .int .u64 ((lo (Int.natAbs ((b2).num)) : Nat) : Int), .string (bg (Int.natAbs ((b2).num))), .bool (decide (((b2).num) < 0)), .int .u64 ((lo ((b2).den - 1) : Nat) : Int), .string (bg ((b2).den - 1))] ∧ Below w.heap.size w w2) ⟨((((((((((BX9.out).setOther (by show g ≠ w.heap.size; omega) _).setOther (by show g ≠ w.heap.size; omega) _).setOther (by show g ≠ w.heap.size; omega) _).setOther (by show g ≠ w.heap.size; omega) _).setOther (by show g ≠ w.heap.size; omega) _).setOther (by show g ≠ w.heap.size; omega) _).setOther (by show g ≠ w.heap.size; omega) _).setOther (by show g ≠ w.heap.size; omega) _).setOther (by show g ≠ w.heap.size; omega) _).setOther (by show g ≠ w.heap.size; omega) _, (((((((((((BX10.out).set 0 _).set 1 _).set 2 _).set 3 _).set 4 _).set 5 _).set 6 _).set 7 _).set 8 _).set 9 _).eq (by simp only [List.setIfInBounds_toArray, List.set_cons_zero, List.set_cons_succ]), ((((((((((BX11.out).setOther (by show w.heap.size + 1 ≠ w.heap.size; omega) _).setOther (by show w.heap.size + 1 ≠ w.heap.size; omega) _).setOther (by show w.heap.size + 1 ≠ w.heap.size; omega) _).setOther (by show w.heap.size + 1 ≠ w.heap.size; omega) _).setOther (by show w.heap.size + 1 ≠ w.heap.size; omega) _).setOther (by show w.heap.size + 1 ≠ w.heap.size; omega) _).setOther (by show w.heap.size + 1 ≠ w.heap.size; omega) _).setOther (by show w.heap.size + 1 ≠ w.heap.size; omega) _).setOther (by show w.heap.size + 1 ≠ w.heap.size; omega) _).setOther (by show w.heap.size + 1 ≠ w.heap.size; omega) _, ((((((((((BX12.out).setOther (by show gx12 ≠ w.heap.size; omega) _).setOther (by show gx12 ≠ w.heap.size; omega) _).setOther (by show gx12 ≠ w.heap.size; omega) _).setOther (by show gx12 ≠ w.heap.size; omega) _).setOther (by show gx12 ≠ w.heap.size; omega) _).setOther (by show gx12 ≠ w.heap.size; omega) _).setOther (by show gx12 ≠ w.heap.size; omega) _).setOther (by show gx12 ≠ w.heap.size; omega) _).setOther (by show gx12 ≠ w.heap.size; omega) _).setOther (by show gx12 ≠ w.heap.size; omega) _, ((((((((((HB.out.trans (HG.out.mono HB.out.size)).setCell (by show w.heap.size ≤ w.heap.size; omega) _).setCell (by show w.heap.size ≤ w.heap.size; omega) _).setCell (by show w.heap.size ≤ w.heap.size; omega) _).setCell (by show w.heap.size ≤ w.heap.size; omega) _).setCell (by show w.heap.size ≤ w.heap.size; omega) _).setCell (by show w.heap.size ≤ w.heap.size; omega) _).setCell (by show w.heap.size ≤ w.heap.size; omega) _).setCell (by show w.heap.size ≤ w.heap.size; omega) _).setCell (by show w.heap.size ≤ w.heap.size; omega) _).setCell (by show w.heap.size ≤ w.heap.size; omega) _⟩ ?_
  clear HB HG BX9 BX10 BX11 BX12
  rintro Wx5 ⟨bx9, bx10, bx11, bx12, HB⟩
  replace HB := Lib.hid HB
  -- region 6
  have BX9 := Lib.hid bx9
  have BX10 := Lib.hid bx10
  have BX11 := Lib.hid bx11
  have BX12 := Lib.hid bx12
  clear bx9 bx10 bx11 bx12
  refine wp_last_k fun K hK => ?_
  replace hK := Lib.hid hK
  refine wp_region_seqplan 2 [(true, 0), (true, 1)] (by rfl) (by simp) (fun T hT => ?_)
  iterate 2
    refine wpPlan_takeL (v := ?_) rfl (by rfl) (fun w' hw => ?_) ?_
    rotate_left
    · go_simp
      with_reducible rfl
    simp only [Act.put, List.setIfInBounds_toArray, List.set_cons_zero, List.set_cons_succ]
  refine wpPlan_nil (hT.out _ _ ?_); clear hT T
  intro vw6 hg
  simp only [puts, Act.put, List.setIfInBounds_toArray, List.set_cons_zero, List.set_cons_succ, List.drop_succ_cons, List.drop_zero, ↓reduceIte, Nat.reduceEqDiff]
  have HG := Lib.hid (hg)
  clear hg
  have bx9 := BX9.out.gr HG.out; clear BX9
  have bx10 := BX10.out.gr HG.out; clear BX10
  have bx11 := BX11.out.gr HG.out; clear BX11
  have bx12 := BX12.out.gr HG.out; clear BX12
  have r0 := Gr.refl vw6
  have BX9 := Lib.hid bx9; clear bx9
  have BX10 := Lib.hid bx10; clear bx10
  have BX11 := Lib.hid bx11; clear bx11
  have BX12 := Lib.hid bx12; clear bx12
  go_wp2
  refine hK.out _ _ ?_; clear hK K
  show Code.rounds _ _ _ _ _ _
  rw [rounds_succ]
  clear r0
  refine forgetW (fun w2 => Bx w2 g 38 #[.int .u64 ((lo (Int.natAbs ((b1).num)) : Nat) : Int), .string (bg (Int.natAbs ((b1).num))), .bool (decide (((b1).num) < 0)), .int .u64 ((lo ((b1).den - 1) : Nat) : Int), .string (bg ((b1).den - 1)), .int .u64 ((lo (Int.natAbs ((b2).num)) : Nat) : Int), .string (bg (Int.natAbs ((b2).num))), .bool (decide (((b2).num) < 0)), .int .u64 ((lo ((b2).den - 1) : Nat) : Int), .string (bg ((b2).den - 1))] ∧ Bx w2 (w.heap.size) 38 #[.int .u64 ((lo (Int.natAbs ((b1).num)) : Nat) : Int), .string (bg (Int.natAbs ((b1).num))), .bool (decide (((b1).num) < 0)), .int .u64 ((lo ((b1).den - 1) : Nat) : Int), .string (bg ((b1).den - 1)), .int .u64 ((lo (Int.natAbs ((b2).num)) : Nat) : Int), .string (bg (Int.natAbs ((b2).num))), .bool (decide (((b2).num) < 0)), .int .u64 ((lo ((b2).den - 1) : Nat) : Int), .string (bg ((b2).den - 1))] ∧ Bx w2 (w.heap.size + 1) 38 #[.int .u64 0, .string ⟨#[]⟩, .bool false, .int .u64 0, .string ⟨#[]⟩, .int .u64 0, .string ⟨#[]⟩, .bool false, .int .u64 0, .string ⟨#[]⟩] ∧ Bx w2 gx12 38 #[.int .u64 ((lo (Int.natAbs ((b1).num)) : Nat) : Int), .string (bg (Int.natAbs ((b1).num))), .bool (decide (((b1).num) < 0)), .int .u64 ((lo ((b1).den - 1) : Nat) : Int), .string (bg ((b1).den - 1)), .int .u64 ((lo (Int.natAbs ((b2).num)) : Nat) : Int), .string (bg (Int.natAbs ((b2).num))), .bool (decide (((b2).num) < 0)), .int .u64 ((lo ((b2).den - 1) : Nat) : Int), .string (bg ((b2).den - 1))] ∧ Below w.heap.size w w2) ⟨BX9.out, BX10.out, BX11.out, BX12.out, HB.out.trans (HG.out.mono HB.out.size)⟩ ?_
  clear HB HG BX9 BX10 BX11 BX12
  rintro Wx6 ⟨bx9, bx10, bx11, bx12, HB⟩
  replace HB := Lib.hid HB
  -- region 2
  have BX9 := Lib.hid bx9
  have BX10 := Lib.hid bx10
  have BX11 := Lib.hid bx11
  have BX12 := Lib.hid bx12
  clear bx9 bx10 bx11 bx12
  refine wp_seq_k fun K hK => ?_
  replace hK := Lib.hid hK
  refine wp_region_seqplan 1 [(true, 0)] (by rfl) (by simp) (fun T hT => ?_)
  iterate 1
    refine wpPlan_takeL (v := ?_) rfl (by rfl) (fun w' hw => ?_) ?_
    rotate_left
    · go_simp
      with_reducible rfl
    simp only [Act.put, List.setIfInBounds_toArray, List.set_cons_zero, List.set_cons_succ]
  refine wpPlan_nil (hT.out _ _ ?_); clear hT T
  intro vw7 hg
  simp only [puts, Act.put, List.setIfInBounds_toArray, List.set_cons_zero, List.set_cons_succ, List.drop_succ_cons, List.drop_zero, ↓reduceIte, Nat.reduceEqDiff]
  have HG := Lib.hid (hg)
  clear hg
  have bx9 := BX9.out.gr HG.out; clear BX9
  have bx10 := BX10.out.gr HG.out; clear BX10
  have bx11 := BX11.out.gr HG.out; clear BX11
  have bx12 := BX12.out.gr HG.out; clear BX12
  have r0 := Gr.refl vw7
  have BX9 := Lib.hid bx9; clear bx9
  have BX10 := Lib.hid bx10; clear bx10
  have BX11 := Lib.hid bx11; clear bx11
  have BX12 := Lib.hid bx12; clear bx12
  go_wp2
  refine hK.out _ _ ?_; clear hK K
  show Code.wp _ _ _ _ _
  clear r0
  refine forgetW (fun w2 => Bx w2 g 38 #[.int .u64 ((lo (Int.natAbs ((b1).num)) : Nat) : Int), .string (bg (Int.natAbs ((b1).num))), .bool (decide (((b1).num) < 0)), .int .u64 ((lo ((b1).den - 1) : Nat) : Int), .string (bg ((b1).den - 1)), .int .u64 ((lo (Int.natAbs ((b2).num)) : Nat) : Int), .string (bg (Int.natAbs ((b2).num))), .bool (decide (((b2).num) < 0)), .int .u64 ((lo ((b2).den - 1) : Nat) : Int), .string (bg ((b2).den - 1))] ∧ Bx w2 (w.heap.size) 38 #[.int .u64 ((lo (Int.natAbs ((b1).num)) : Nat) : Int), .string (bg (Int.natAbs ((b1).num))), .bool (decide (((b1).num) < 0)), .int .u64 ((lo ((b1).den - 1) : Nat) : Int), .string (bg ((b1).den - 1)), .int .u64 ((lo (Int.natAbs ((b2).num)) : Nat) : Int), .string (bg (Int.natAbs ((b2).num))), .bool (decide (((b2).num) < 0)), .int .u64 ((lo ((b2).den - 1) : Nat) : Int), .string (bg ((b2).den - 1))] ∧ Bx w2 (w.heap.size + 1) 38 #[.int .u64 0, .string ⟨#[]⟩, .bool false, .int .u64 0, .string ⟨#[]⟩, .int .u64 0, .string ⟨#[]⟩, .bool false, .int .u64 0, .string ⟨#[]⟩] ∧ Bx w2 gx12 38 #[.int .u64 ((lo (Int.natAbs ((b1).num)) : Nat) : Int), .string (bg (Int.natAbs ((b1).num))), .bool (decide (((b1).num) < 0)), .int .u64 ((lo ((b1).den - 1) : Nat) : Int), .string (bg ((b1).den - 1)), .int .u64 ((lo (Int.natAbs ((b2).num)) : Nat) : Int), .string (bg (Int.natAbs ((b2).num))), .bool (decide (((b2).num) < 0)), .int .u64 ((lo ((b2).den - 1) : Nat) : Int), .string (bg ((b2).den - 1))] ∧ Below w.heap.size w w2) ⟨BX9.out, BX10.out, BX11.out, BX12.out, HB.out.trans (HG.out.mono HB.out.size)⟩ ?_
  clear HB HG BX9 BX10 BX11 BX12
  rintro Wx2 ⟨bx9, bx10, bx11, bx12, HB⟩
  replace HB := Lib.hid HB
  refine wp_seq ?_
  refine wp_cond_false (by rfl) ?_
  refine wp_exit ?_
  show Code.wp _ _ _ _ _
  -- region 7
  have lx10 := bx10.cells
  have BX9 := Lib.hid bx9
  have BX10 := Lib.hid bx10
  have BX11 := Lib.hid bx11
  have BX12 := Lib.hid bx12
  clear bx9 bx10 bx11 bx12
  refine wp_seq_k fun K hK => ?_
  replace hK := Lib.hid hK
  refine wp_region_seqplan 1 [(true, 0)] (by rfl) (by simp) (fun T hT => ?_)
  iterate 1
    refine wpPlan_takeL (v := ?_) rfl (by rfl) (fun w' hw => ?_) ?_
    rotate_left
    · go_simp
      with_reducible rfl
    simp only [Act.put, List.setIfInBounds_toArray, List.set_cons_zero, List.set_cons_succ]
  refine wpPlan_nil (hT.out _ _ ?_); clear hT T
  intro vw8 hg
  simp only [puts, Act.put, List.setIfInBounds_toArray, List.set_cons_zero, List.set_cons_succ, List.drop_succ_cons, List.drop_zero, ↓reduceIte, Nat.reduceEqDiff]
  clear lx10
  have HG := Lib.hid (hg)
  clear hg
  have bx9 := BX9.out.gr HG.out; clear BX9
  have bx10 := BX10.out.gr HG.out; clear BX10
  have bx11 := BX11.out.gr HG.out; clear BX11
  have bx12 := BX12.out.gr HG.out; clear BX12
  have lx11 := bx11.cells; have fx11 := bx11.free
  have r0 := Gr.refl vw8
  have BX9 := Lib.hid bx9; clear bx9
  have BX10 := Lib.hid bx10; clear bx10
  have BX11 := Lib.hid bx11; clear bx11
  have BX12 := Lib.hid bx12; clear bx12
  go_wp2
  refine hK.out _ _ ?_; clear hK K
  show Code.wp _ _ _ _ _
  clear lx11 fx11
  clear r0
  refine forgetW (fun w2 => Bx w2 (w.heap.size + 1) 38 #[.int .u64 ((lo (Int.natAbs ((b1).num)) : Nat) : Int), .string (bg (Int.natAbs ((b1).num))), .bool (decide (((b1).num) < 0)), .int .u64 ((lo ((b1).den - 1) : Nat) : Int), .string (bg ((b1).den - 1)), .int .u64 ((lo (Int.natAbs ((b2).num)) : Nat) : Int), .string (bg (Int.natAbs ((b2).num))), .bool (decide (((b2).num) < 0)), .int .u64 ((lo ((b2).den - 1) : Nat) : Int), .string (bg ((b2).den - 1))] ∧ Below w.heap.size w w2) ⟨(((((((((((BX11.out).set 0 _).set 1 _).set 2 _).set 3 _).set 4 _).set 5 _).set 6 _).set 7 _).set 8 _).set 9 _).eq (by simp only [List.setIfInBounds_toArray, List.set_cons_zero, List.set_cons_succ]), ((((((((((HB.out.trans (HG.out.mono HB.out.size)).setCell (by show w.heap.size ≤ w.heap.size + 1; omega) _).setCell (by show w.heap.size ≤ w.heap.size + 1; omega) _).setCell (by show w.heap.size ≤ w.heap.size + 1; omega) _).setCell (by show w.heap.size ≤ w.heap.size + 1; omega) _).setCell (by show w.heap.size ≤ w.heap.size + 1; omega) _).setCell (by show w.heap.size ≤ w.heap.size + 1; omega) _).setCell (by show w.heap.size ≤ w.heap.size + 1; omega) _).setCell (by show w.heap.size ≤ w.heap.size + 1; omega) _).setCell (by show w.heap.size ≤ w.heap.size + 1; omega) _).setCell (by show w.heap.size ≤ w.heap.size + 1; omega) _⟩ ?_
  clear HB HG BX9 BX10 BX11 BX12
  rintro Wx7 ⟨bx11, HB⟩
  replace HB := Lib.hid HB
  refine wp_ret ?_
  try simp only [Exit.then, Exit.inBlock]
  have lx11 := bx11.cells
  have r0 := Gr.refl Wx7
  exact bodyPost_ret (v := .agg #[.int .u64 ((lo (Int.natAbs ((b1).num)) : Nat) : Int), .string (bg (Int.natAbs ((b1).num))), .bool (decide (((b1).num) < 0)), .int .u64 ((lo ((b1).den - 1) : Nat) : Int), .string (bg ((b1).den - 1)), .int .u64 ((lo (Int.natAbs ((b2).num)) : Nat) : Int), .string (bg (Int.natAbs ((b2).num))), .bool (decide (((b2).num) < 0)), .int .u64 ((lo ((b2).den - 1) : Nat) : Int), .string (bg ((b2).den - 1))]) (by simp [results, Try.results44, go_sem, lx11 _ r0]) rfl ⟨rfl, HB.out⟩

set_option maxHeartbeats 1000000 in
theorem pleast_false (a1 a2 b1 b2 : Rat) (g : Nat) (w : World) (bx9 : Bx w g 38 #[.int .u64 ((lo (Int.natAbs ((b1).num)) : Nat) : Int), .string (bg (Int.natAbs ((b1).num))), .bool (decide (((b1).num) < 0)), .int .u64 ((lo ((b1).den - 1) : Nat) : Int), .string (bg ((b1).den - 1)), .int .u64 ((lo (Int.natAbs ((b2).num)) : Nat) : Int), .string (bg (Int.natAbs ((b2).num))), .bool (decide (((b2).num) < 0)), .int .u64 ((lo ((b2).den - 1) : Nat) : Int), .string (bg ((b2).den - 1))]) (h : Hid (plt b1 b2 a1 a2 = false)) (hs_a1 : sz a1 ≤ 10000000000) (hs_a2 : sz a2 ≤ 10000000000) (hs_b1 : sz b1 ≤ 10000000000) (hs_b2 : sz b2 ≤ 10000000000) :
    Calls Try.prog 44 #[(Value.agg #[.int .u64 ((lo (Int.natAbs ((a1).num)) : Nat) : Int), .string (bg (Int.natAbs ((a1).num))), .bool (decide (((a1).num) < 0)), .int .u64 ((lo ((a1).den - 1) : Nat) : Int), .string (bg ((a1).den - 1)), .int .u64 ((lo (Int.natAbs ((a2).num)) : Nat) : Int), .string (bg (Int.natAbs ((a2).num))), .bool (decide (((a2).num) < 0)), .int .u64 ((lo ((a2).den - 1) : Nat) : Int), .string (bg ((a2).den - 1))]), (Value.slice (some ⟨g, 0, none⟩) 1 1)] w fun e w' => e = .returned (.agg #[.int .u64 ((lo (Int.natAbs ((a1).num)) : Nat) : Int), .string (bg (Int.natAbs ((a1).num))), .bool (decide (((a1).num) < 0)), .int .u64 ((lo ((a1).den - 1) : Nat) : Int), .string (bg ((a1).den - 1)), .int .u64 ((lo (Int.natAbs ((a2).num)) : Nat) : Int), .string (bg (Int.natAbs ((a2).num))), .bool (decide (((a2).num) < 0)), .int .u64 ((lo ((a2).den - 1) : Nat) : Int), .string (bg ((a2).den - 1))]) ∧ Below w.heap.size w w' := by
  go_enter Try.func44, Try.ntmps44
  have e9 := bx9.lt
  -- region 0
  refine wp_seq_k fun K hK => ?_
  replace hK := Lib.hid hK
  refine wp_region_lit ?_
  go_wp2
  refine hK.out _ _ ?_; clear hK K
  show Code.wp _ _ _ _ _
  refine forgetW (fun w2 => Bx w2 g 38 #[.int .u64 ((lo (Int.natAbs ((b1).num)) : Nat) : Int), .string (bg (Int.natAbs ((b1).num))), .bool (decide (((b1).num) < 0)), .int .u64 ((lo ((b1).den - 1) : Nat) : Int), .string (bg ((b1).den - 1)), .int .u64 ((lo (Int.natAbs ((b2).num)) : Nat) : Int), .string (bg (Int.natAbs ((b2).num))), .bool (decide (((b2).num) < 0)), .int .u64 ((lo ((b2).den - 1) : Nat) : Int), .string (bg ((b2).den - 1))] ∧ Bx w2 (w.heap.size) 38 #[.int .u64 ((lo (Int.natAbs ((a1).num)) : Nat) : Int), .string (bg (Int.natAbs ((a1).num))), .bool (decide (((a1).num) < 0)), .int .u64 ((lo ((a1).den - 1) : Nat) : Int), .string (bg ((a1).den - 1)), .int .u64 ((lo (Int.natAbs ((a2).num)) : Nat) : Int), .string (bg (Int.natAbs ((a2).num))), .bool (decide (((a2).num) < 0)), .int .u64 ((lo ((a2).den - 1) : Nat) : Int), .string (bg ((a2).den - 1))] ∧ Bx w2 (w.heap.size + 1) 38 #[.int .u64 0, .string ⟨#[]⟩, .bool false, .int .u64 0, .string ⟨#[]⟩, .int .u64 0, .string ⟨#[]⟩, .bool false, .int .u64 0, .string ⟨#[]⟩] ∧ Below w.heap.size w w2) ⟨((bx9).alloc _).alloc _, (Bx.at rfl).alloc _, Bx.at (by simp), ((Below.refl _ _).alloc (Nat.le_refl _) _).alloc (by simp) _⟩ ?_
  clear bx9
  rintro Wx ⟨bx9, bx10, bx11, HB⟩
  replace HB := Lib.hid HB
  refine wp_seq ?_
  -- region 1
  have BX9 := Lib.hid bx9
  have BX10 := Lib.hid bx10
  have BX11 := Lib.hid bx11
  clear bx9 bx10 bx11
  refine wp_seq_k fun K hK => ?_
  replace hK := Lib.hid hK
  refine wp_region_seqplan 3 [(true, 0), (true, 1), (true, 2)] (by rfl) (by simp) (fun T hT => ?_)
  iterate 3
    refine wpPlan_takeL (v := ?_) rfl (by rfl) (fun w' hw => ?_) ?_
    rotate_left
    · go_simp
      with_reducible rfl
    simp only [Act.put, List.setIfInBounds_toArray, List.set_cons_zero, List.set_cons_succ]
  refine wpPlan_nil (hT.out _ _ ?_); clear hT T
  intro vw1 hg
  simp only [puts, Act.put, List.setIfInBounds_toArray, List.set_cons_zero, List.set_cons_succ, List.drop_succ_cons, List.drop_zero, ↓reduceIte, Nat.reduceEqDiff]
  have HG := Lib.hid (hg)
  clear hg
  have bx9 := BX9.out.gr HG.out; clear BX9
  have bx10 := BX10.out.gr HG.out; clear BX10
  have bx11 := BX11.out.gr HG.out; clear BX11
  have r0 := Gr.refl vw1
  have BX9 := Lib.hid bx9; clear bx9
  have BX10 := Lib.hid bx10; clear bx10
  have BX11 := Lib.hid bx11; clear bx11
  go_wp2
  refine hK.out _ _ ?_; clear hK K
  show Code.wp _ _ _ _ _
  clear r0
  refine forgetW (fun w2 => Bx w2 g 38 #[.int .u64 ((lo (Int.natAbs ((b1).num)) : Nat) : Int), .string (bg (Int.natAbs ((b1).num))), .bool (decide (((b1).num) < 0)), .int .u64 ((lo ((b1).den - 1) : Nat) : Int), .string (bg ((b1).den - 1)), .int .u64 ((lo (Int.natAbs ((b2).num)) : Nat) : Int), .string (bg (Int.natAbs ((b2).num))), .bool (decide (((b2).num) < 0)), .int .u64 ((lo ((b2).den - 1) : Nat) : Int), .string (bg ((b2).den - 1))] ∧ Bx w2 (w.heap.size) 38 #[.int .u64 ((lo (Int.natAbs ((a1).num)) : Nat) : Int), .string (bg (Int.natAbs ((a1).num))), .bool (decide (((a1).num) < 0)), .int .u64 ((lo ((a1).den - 1) : Nat) : Int), .string (bg ((a1).den - 1)), .int .u64 ((lo (Int.natAbs ((a2).num)) : Nat) : Int), .string (bg (Int.natAbs ((a2).num))), .bool (decide (((a2).num) < 0)), .int .u64 ((lo ((a2).den - 1) : Nat) : Int), .string (bg ((a2).den - 1))] ∧ Bx w2 (w.heap.size + 1) 38 #[.int .u64 0, .string ⟨#[]⟩, .bool false, .int .u64 0, .string ⟨#[]⟩, .int .u64 0, .string ⟨#[]⟩, .bool false, .int .u64 0, .string ⟨#[]⟩] ∧ Below w.heap.size w w2) ⟨BX9.out, BX10.out, BX11.out, HB.out.trans (HG.out.mono HB.out.size)⟩ ?_
  clear HB HG BX9 BX10 BX11
  rintro Wx1 ⟨bx9, bx10, bx11, HB⟩
  replace HB := Lib.hid HB
  refine wp_block ?_
  refine wp_loop_rounds 12 ?_
  rw [rounds_succ]
  -- region 2
  have BX9 := Lib.hid bx9
  have BX10 := Lib.hid bx10
  have BX11 := Lib.hid bx11
  clear bx9 bx10 bx11
  refine wp_seq_k fun K hK => ?_
  replace hK := Lib.hid hK
  refine wp_region_seqplan 1 [(true, 0)] (by rfl) (by simp) (fun T hT => ?_)
  iterate 1
    refine wpPlan_takeL (v := ?_) rfl (by rfl) (fun w' hw => ?_) ?_
    rotate_left
    · go_simp
      with_reducible rfl
    simp only [Act.put, List.setIfInBounds_toArray, List.set_cons_zero, List.set_cons_succ]
  refine wpPlan_nil (hT.out _ _ ?_); clear hT T
  intro vw2 hg
  simp only [puts, Act.put, List.setIfInBounds_toArray, List.set_cons_zero, List.set_cons_succ, List.drop_succ_cons, List.drop_zero, ↓reduceIte, Nat.reduceEqDiff]
  have HG := Lib.hid (hg)
  clear hg
  have bx9 := BX9.out.gr HG.out; clear BX9
  have bx10 := BX10.out.gr HG.out; clear BX10
  have bx11 := BX11.out.gr HG.out; clear BX11
  have r0 := Gr.refl vw2
  have BX9 := Lib.hid bx9; clear bx9
  have BX10 := Lib.hid bx10; clear bx10
  have BX11 := Lib.hid bx11; clear bx11
  go_wp2
  refine hK.out _ _ ?_; clear hK K
  show Code.wp _ _ _ _ _
  clear r0
  refine forgetW (fun w2 => Bx w2 g 38 #[.int .u64 ((lo (Int.natAbs ((b1).num)) : Nat) : Int), .string (bg (Int.natAbs ((b1).num))), .bool (decide (((b1).num) < 0)), .int .u64 ((lo ((b1).den - 1) : Nat) : Int), .string (bg ((b1).den - 1)), .int .u64 ((lo (Int.natAbs ((b2).num)) : Nat) : Int), .string (bg (Int.natAbs ((b2).num))), .bool (decide (((b2).num) < 0)), .int .u64 ((lo ((b2).den - 1) : Nat) : Int), .string (bg ((b2).den - 1))] ∧ Bx w2 (w.heap.size) 38 #[.int .u64 ((lo (Int.natAbs ((a1).num)) : Nat) : Int), .string (bg (Int.natAbs ((a1).num))), .bool (decide (((a1).num) < 0)), .int .u64 ((lo ((a1).den - 1) : Nat) : Int), .string (bg ((a1).den - 1)), .int .u64 ((lo (Int.natAbs ((a2).num)) : Nat) : Int), .string (bg (Int.natAbs ((a2).num))), .bool (decide (((a2).num) < 0)), .int .u64 ((lo ((a2).den - 1) : Nat) : Int), .string (bg ((a2).den - 1))] ∧ Bx w2 (w.heap.size + 1) 38 #[.int .u64 0, .string ⟨#[]⟩, .bool false, .int .u64 0, .string ⟨#[]⟩, .int .u64 0, .string ⟨#[]⟩, .bool false, .int .u64 0, .string ⟨#[]⟩] ∧ Below w.heap.size w w2) ⟨BX9.out, BX10.out, BX11.out, HB.out.trans (HG.out.mono HB.out.size)⟩ ?_
  clear HB HG BX9 BX10 BX11
  rintro Wx2 ⟨bx9, bx10, bx11, HB⟩
  replace HB := Lib.hid HB
  refine wp_seq ?_
  refine wp_cond_true (by rfl) ?_
  refine wp_skip ?_
  show Code.wp _ _ _ _ _
  refine wp_seq ?_
  refine wp_block ?_
  -- region 3
  have lx9 := bx9.cells
  have BX9 := Lib.hid bx9
  have BX10 := Lib.hid bx10
  have BX11 := Lib.hid bx11
  clear bx9 bx10 bx11
  refine wp_seq_k fun K hK => ?_
  replace hK := Lib.hid hK
  refine wp_region_seqplan 2 [(true, 0), (true, 1)] (by rfl) (by simp) (fun T hT => ?_)
  iterate 2
    refine wpPlan_takeL (v := ?_) rfl (by rfl) (fun w' hw => ?_) ?_
    rotate_left
    · go_simp
      with_reducible rfl
    simp only [Act.put, List.setIfInBounds_toArray, List.set_cons_zero, List.set_cons_succ]
  refine wpPlan_nil (hT.out _ _ ?_); clear hT T
  intro vw3 hg
  simp only [puts, Act.put, List.setIfInBounds_toArray, List.set_cons_zero, List.set_cons_succ, List.drop_succ_cons, List.drop_zero, ↓reduceIte, Nat.reduceEqDiff]
  clear lx9
  have HG := Lib.hid (hg)
  clear hg
  have bx9 := BX9.out.gr HG.out; clear BX9
  have bx10 := BX10.out.gr HG.out; clear BX10
  have bx11 := BX11.out.gr HG.out; clear BX11
  have r0 := Gr.refl vw3
  have BX9 := Lib.hid bx9; clear bx9
  have BX10 := Lib.hid bx10; clear bx10
  have BX11 := Lib.hid bx11; clear bx11
  go_wp2
  refine hK.out _ _ ?_; clear hK K
  show Code.wp _ _ _ _ _
  clear r0
  have hsz : w.heap.size ≤ vw3.heap.size := Nat.le_trans HB.out.size HG.out.size
  have mx9 : g < vw3.heap.size := BX9.out.lt
  have mx10 : w.heap.size < vw3.heap.size := BX10.out.lt
  have mx11 : w.heap.size + 1 < vw3.heap.size := BX11.out.lt
  refine forgetW (fun w2 => Bx w2 g 38 #[.int .u64 ((lo (Int.natAbs ((b1).num)) : Nat) : Int), .string (bg (Int.natAbs ((b1).num))), .bool (decide (((b1).num) < 0)), .int .u64 ((lo ((b1).den - 1) : Nat) : Int), .string (bg ((b1).den - 1)), .int .u64 ((lo (Int.natAbs ((b2).num)) : Nat) : Int), .string (bg (Int.natAbs ((b2).num))), .bool (decide (((b2).num) < 0)), .int .u64 ((lo ((b2).den - 1) : Nat) : Int), .string (bg ((b2).den - 1))] ∧ Bx w2 (w.heap.size) 38 #[.int .u64 ((lo (Int.natAbs ((a1).num)) : Nat) : Int), .string (bg (Int.natAbs ((a1).num))), .bool (decide (((a1).num) < 0)), .int .u64 ((lo ((a1).den - 1) : Nat) : Int), .string (bg ((a1).den - 1)), .int .u64 ((lo (Int.natAbs ((a2).num)) : Nat) : Int), .string (bg (Int.natAbs ((a2).num))), .bool (decide (((a2).num) < 0)), .int .u64 ((lo ((a2).den - 1) : Nat) : Int), .string (bg ((a2).den - 1))] ∧ Bx w2 (w.heap.size + 1) 38 #[.int .u64 0, .string ⟨#[]⟩, .bool false, .int .u64 0, .string ⟨#[]⟩, .int .u64 0, .string ⟨#[]⟩, .bool false, .int .u64 0, .string ⟨#[]⟩] ∧ Bx w2 (vw3.heap.size) 38 #[.int .u64 ((lo (Int.natAbs ((b1).num)) : Nat) : Int), .string (bg (Int.natAbs ((b1).num))), .bool (decide (((b1).num) < 0)), .int .u64 ((lo ((b1).den - 1) : Nat) : Int), .string (bg ((b1).den - 1)), .int .u64 ((lo (Int.natAbs ((b2).num)) : Nat) : Int), .string (bg (Int.natAbs ((b2).num))), .bool (decide (((b2).num) < 0)), .int .u64 ((lo ((b2).den - 1) : Nat) : Int), .string (bg ((b2).den - 1))] ∧ Below w.heap.size w w2) ⟨(BX9.out).alloc _, (BX10.out).alloc _, (BX11.out).alloc _, (Bx.at (by simp) : Bx _ (vw3.heap.size) _ _), (HB.out.trans (HG.out.mono HB.out.size)).alloc (by first | omega | (simp; omega)) _⟩ ?_
  clear HB HG BX9 BX10 BX11
  rintro Wx3 ⟨bx9, bx10, bx11, bx12, HB⟩
  replace HB := Lib.hid HB
  have yx12 : w.heap.size ≤ vw3.heap.size := by omega
  have qx9_12 : g < vw3.heap.size := by omega
  have qx10_12 : w.heap.size < vw3.heap.size := by omega
  have qx11_12 : w.heap.size + 1 < vw3.heap.size := by omega
  generalize hx12 : vw3.heap.size = gx12 at *
  clear hx12
  clear hsz mx9 mx10 mx11
  -- region 4
  have lx10 := bx10.cells
  have lx12 := bx12.cells
  have BX9 := Lib.hid bx9
  have BX10 := Lib.hid bx10
  have BX11 := Lib.hid bx11
  have BX12 := Lib.hid bx12
  clear bx9 bx10 bx11 bx12
  refine wp_seq_k fun K hK => ?_
  replace hK := Lib.hid hK
  refine wp_region_seqplan 3 [(true, 0), (true, 1), (true, 2)] (by rfl) (by simp) (fun T hT => ?_)
  iterate 2
    refine wpPlan_takeL (v := ?_) rfl (by rfl) (fun w' hw => ?_) ?_
    rotate_left
    · go_simp
      with_reducible rfl
    simp only [Act.put, List.setIfInBounds_toArray, List.set_cons_zero, List.set_cons_succ]
  refine wpPlan_callL rfl (by rfl) Try.call27 (fun w' hw => pless_any (b1) (b2) (a1) (a2) false _ (h.out) (by first | omega | exact Nat.le_trans (wl_small (by decide)) (by decide)) (by first | omega | exact Nat.le_trans (wl_small (by decide)) (by decide)) (by first | omega | exact Nat.le_trans (wl_small (by decide)) (by decide)) (by first | omega | exact Nat.le_trans (wl_small (by decide)) (by decide))) (by rfl) ?_
  simp only [Act.put, List.setIfInBounds_toArray, List.set_cons_zero, List.set_cons_succ]
  refine wpPlan_nil (hT.out _ _ ?_); clear hT T
  intro vw4 hg
  simp only [puts, Act.put, List.setIfInBounds_toArray, List.set_cons_zero, List.set_cons_succ, List.drop_succ_cons, List.drop_zero, ↓reduceIte, Nat.reduceEqDiff]
  clear lx10 lx12
  have HG := Lib.hid (hg)
  clear hg
  have bx9 := BX9.out.gr HG.out; clear BX9
  have bx10 := BX10.out.gr HG.out; clear BX10
  have bx11 := BX11.out.gr HG.out; clear BX11
  have bx12 := BX12.out.gr HG.out; clear BX12
  have r0 := Gr.refl vw4
  have BX9 := Lib.hid bx9; clear bx9
  have BX10 := Lib.hid bx10; clear bx10
  have BX11 := Lib.hid bx11; clear bx11
  have BX12 := Lib.hid bx12; clear bx12
  go_wp2
  refine hK.out _ _ ?_; clear hK K
  show Code.wp _ _ _ _ _
  clear r0
  refine forgetW (fun w2 => Bx w2 g 38 #[.int .u64 ((lo (Int.natAbs ((b1).num)) : Nat) : Int), .string (bg (Int.natAbs ((b1).num))), .bool (decide (((b1).num) < 0)), .int .u64 ((lo ((b1).den - 1) : Nat) : Int), .string (bg ((b1).den - 1)), .int .u64 ((lo (Int.natAbs ((b2).num)) : Nat) : Int), .string (bg (Int.natAbs ((b2).num))), .bool (decide (((b2).num) < 0)), .int .u64 ((lo ((b2).den - 1) : Nat) : Int), .string (bg ((b2).den - 1))] ∧ Bx w2 (w.heap.size) 38 #[.int .u64 ((lo (Int.natAbs ((a1).num)) : Nat) : Int), .string (bg (Int.natAbs ((a1).num))), .bool (decide (((a1).num) < 0)), .int .u64 ((lo ((a1).den - 1) : Nat) : Int), .string (bg ((a1).den - 1)), .int .u64 ((lo (Int.natAbs ((a2).num)) : Nat) : Int), .string (bg (Int.natAbs ((a2).num))), .bool (decide (((a2).num) < 0)), .int .u64 ((lo ((a2).den - 1) : Nat) : Int), .string (bg ((a2).den - 1))] ∧ Bx w2 (w.heap.size + 1) 38 #[.int .u64 0, .string ⟨#[]⟩, .bool false, .int .u64 0, .string ⟨#[]⟩, .int .u64 0, .string ⟨#[]⟩, .bool false, .int .u64 0, .string ⟨#[]⟩] ∧ Bx w2 gx12 38 #[.int .u64 ((lo (Int.natAbs ((b1).num)) : Nat) : Int), .string (bg (Int.natAbs ((b1).num))), .bool (decide (((b1).num) < 0)), .int .u64 ((lo ((b1).den - 1) : Nat) : Int), .string (bg ((b1).den - 1)), .int .u64 ((lo (Int.natAbs ((b2).num)) : Nat) : Int), .string (bg (Int.natAbs ((b2).num))), .bool (decide (((b2).num) < 0)), .int .u64 ((lo ((b2).den - 1) : Nat) : Int), .string (bg ((b2).den - 1))] ∧ Below w.heap.size w w2) ⟨BX9.out, BX10.out, BX11.out, BX12.out, HB.out.trans (HG.out.mono HB.out.size)⟩ ?_
  clear HB HG BX9 BX10 BX11 BX12
  rintro Wx4 ⟨bx9, bx10, bx11, bx12, HB⟩
  replace HB := Lib.hid HB
  refine wp_cond_false (by rfl) ?_
  refine wp_skip ?_
  show Code.wp _ _ _ _ _
  -- region 6
  have BX9 := Lib.hid bx9
  have BX10 := Lib.hid bx10
  have BX11 := Lib.hid bx11
  have BX12 := Lib.hid bx12
  clear bx9 bx10 bx11 bx12
  refine wp_last_k fun K hK => ?_
  replace hK := Lib.hid hK
  refine wp_region_seqplan 2 [(true, 0), (true, 1)] (by rfl) (by simp) (fun T hT => ?_)
  iterate 2
    refine wpPlan_takeL (v := ?_) rfl (by rfl) (fun w' hw => ?_) ?_
    rotate_left
    · go_simp
      with_reducible rfl
    simp only [Act.put, List.setIfInBounds_toArray, List.set_cons_zero, List.set_cons_succ]
  refine wpPlan_nil (hT.out _ _ ?_); clear hT T
  intro vw5 hg
  simp only [puts, Act.put, List.setIfInBounds_toArray, List.set_cons_zero, List.set_cons_succ, List.drop_succ_cons, List.drop_zero, ↓reduceIte, Nat.reduceEqDiff]
  have HG := Lib.hid (hg)
  clear hg
  have bx9 := BX9.out.gr HG.out; clear BX9
  have bx10 := BX10.out.gr HG.out; clear BX10
  have bx11 := BX11.out.gr HG.out; clear BX11
  have bx12 := BX12.out.gr HG.out; clear BX12
  have r0 := Gr.refl vw5
  have BX9 := Lib.hid bx9; clear bx9
  have BX10 := Lib.hid bx10; clear bx10
  have BX11 := Lib.hid bx11; clear bx11
  have BX12 := Lib.hid bx12; clear bx12
  go_wp2
  refine hK.out _ _ ?_; clear hK K
  show Code.rounds _ _ _ _ _ _
  rw [rounds_succ]
  clear r0
  refine forgetW (fun w2 => Bx w2 g 38 #[.int .u64 ((lo (Int.natAbs ((b1).num)) : Nat) : Int), .string (bg (Int.natAbs ((b1).num))), .bool (decide (((b1).num) < 0)), .int .u64 ((lo ((b1).den - 1) : Nat) : Int), .string (bg ((b1).den - 1)), .int .u64 ((lo (Int.natAbs ((b2).num)) : Nat) : Int), .string (bg (Int.natAbs ((b2).num))), .bool (decide (((b2).num) < 0)), .int .u64 ((lo ((b2).den - 1) : Nat) : Int), .string (bg ((b2).den - 1))] ∧ Bx w2 (w.heap.size) 38 #[.int .u64 ((lo (Int.natAbs ((a1).num)) : Nat) : Int), .string (bg (Int.natAbs ((a1).num))), .bool (decide (((a1).num) < 0)), .int .u64 ((lo ((a1).den - 1) : Nat) : Int), .string (bg ((a1).den - 1)), .int .u64 ((lo (Int.natAbs ((a2).num)) : Nat) : Int), .string (bg (Int.natAbs ((a2).num))), .bool (decide (((a2).num) < 0)), .int .u64 ((lo ((a2).den - 1) : Nat) : Int), .string (bg ((a2).den - 1))] ∧ Bx w2 (w.heap.size + 1) 38 #[.int .u64 0, .string ⟨#[]⟩, .bool false, .int .u64 0, .string ⟨#[]⟩, .int .u64 0, .string ⟨#[]⟩, .bool false, .int .u64 0, .string ⟨#[]⟩] ∧ Bx w2 gx12 38 #[.int .u64 ((lo (Int.natAbs ((b1).num)) : Nat) : Int), .string (bg (Int.natAbs ((b1).num))), .bool (decide (((b1).num) < 0)), .int .u64 ((lo ((b1).den - 1) : Nat) : Int), .string (bg ((b1).den - 1)), .int .u64 ((lo (Int.natAbs ((b2).num)) : Nat) : Int), .string (bg (Int.natAbs ((b2).num))), .bool (decide (((b2).num) < 0)), .int .u64 ((lo ((b2).den - 1) : Nat) : Int), .string (bg ((b2).den - 1))] ∧ Below w.heap.size w w2) ⟨BX9.out, BX10.out, BX11.out, BX12.out, HB.out.trans (HG.out.mono HB.out.size)⟩ ?_
  clear HB HG BX9 BX10 BX11 BX12
  rintro Wx6 ⟨bx9, bx10, bx11, bx12, HB⟩
  replace HB := Lib.hid HB
  -- region 2
  have BX9 := Lib.hid bx9
  have BX10 := Lib.hid bx10
  have BX11 := Lib.hid bx11
  have BX12 := Lib.hid bx12
  clear bx9 bx10 bx11 bx12
  refine wp_seq_k fun K hK => ?_
  replace hK := Lib.hid hK
  refine wp_region_seqplan 1 [(true, 0)] (by rfl) (by simp) (fun T hT => ?_)
  iterate 1
    refine wpPlan_takeL (v := ?_) rfl (by rfl) (fun w' hw => ?_) ?_
    rotate_left
    · go_simp
      with_reducible rfl
    simp only [Act.put, List.setIfInBounds_toArray, List.set_cons_zero, List.set_cons_succ]
  refine wpPlan_nil (hT.out _ _ ?_); clear hT T
  intro vw6 hg
  simp only [puts, Act.put, List.setIfInBounds_toArray, List.set_cons_zero, List.set_cons_succ, List.drop_succ_cons, List.drop_zero, ↓reduceIte, Nat.reduceEqDiff]
  have HG := Lib.hid (hg)
  clear hg
  have bx9 := BX9.out.gr HG.out; clear BX9
  have bx10 := BX10.out.gr HG.out; clear BX10
  have bx11 := BX11.out.gr HG.out; clear BX11
  have bx12 := BX12.out.gr HG.out; clear BX12
  have r0 := Gr.refl vw6
  have BX9 := Lib.hid bx9; clear bx9
  have BX10 := Lib.hid bx10; clear bx10
  have BX11 := Lib.hid bx11; clear bx11
  have BX12 := Lib.hid bx12; clear bx12
  go_wp2
  refine hK.out _ _ ?_; clear hK K
  show Code.wp _ _ _ _ _
  clear r0
  refine forgetW (fun w2 => Bx w2 g 38 #[.int .u64 ((lo (Int.natAbs ((b1).num)) : Nat) : Int), .string (bg (Int.natAbs ((b1).num))), .bool (decide (((b1).num) < 0)), .int .u64 ((lo ((b1).den - 1) : Nat) : Int), .string (bg ((b1).den - 1)), .int .u64 ((lo (Int.natAbs ((b2).num)) : Nat) : Int), .string (bg (Int.natAbs ((b2).num))), .bool (decide (((b2).num) < 0)), .int .u64 ((lo ((b2).den - 1) : Nat) : Int), .string (bg ((b2).den - 1))] ∧ Bx w2 (w.heap.size) 38 #[.int .u64 ((lo (Int.natAbs ((a1).num)) : Nat) : Int), .string (bg (Int.natAbs ((a1).num))), .bool (decide (((a1).num) < 0)), .int .u64 ((lo ((a1).den - 1) : Nat) : Int), .string (bg ((a1).den - 1)), .int .u64 ((lo (Int.natAbs ((a2).num)) : Nat) : Int), .string (bg (Int.natAbs ((a2).num))), .bool (decide (((a2).num) < 0)), .int .u64 ((lo ((a2).den - 1) : Nat) : Int), .string (bg ((a2).den - 1))] ∧ Bx w2 (w.heap.size + 1) 38 #[.int .u64 0, .string ⟨#[]⟩, .bool false, .int .u64 0, .string ⟨#[]⟩, .int .u64 0, .string ⟨#[]⟩, .bool false, .int .u64 0, .string ⟨#[]⟩] ∧ Bx w2 gx12 38 #[.int .u64 ((lo (Int.natAbs ((b1).num)) : Nat) : Int), .string (bg (Int.natAbs ((b1).num))), .bool (decide (((b1).num) < 0)), .int .u64 ((lo ((b1).den - 1) : Nat) : Int), .string (bg ((b1).den - 1)), .int .u64 ((lo (Int.natAbs ((b2).num)) : Nat) : Int), .string (bg (Int.natAbs ((b2).num))), .bool (decide (((b2).num) < 0)), .int .u64 ((lo ((b2).den - 1) : Nat) : Int), .string (bg ((b2).den - 1))] ∧ Below w.heap.size w w2) ⟨BX9.out, BX10.out, BX11.out, BX12.out, HB.out.trans (HG.out.mono HB.out.size)⟩ ?_
  clear HB HG BX9 BX10 BX11 BX12
  rintro Wx2 ⟨bx9, bx10, bx11, bx12, HB⟩
  replace HB := Lib.hid HB
  refine wp_seq ?_
  refine wp_cond_false (by rfl) ?_
  refine wp_exit ?_
  show Code.wp _ _ _ _ _
  -- region 7
  have lx10 := bx10.cells
  have BX9 := Lib.hid bx9
  have BX10 := Lib.hid bx10
  have BX11 := Lib.hid bx11
  have BX12 := Lib.hid bx12
  clear bx9 bx10 bx11 bx12
  refine wp_seq_k fun K hK => ?_
  replace hK := Lib.hid hK
  refine wp_region_seqplan 1 [(true, 0)] (by rfl) (by simp) (fun T hT => ?_)
  iterate 1
    refine wpPlan_takeL (v := ?_) rfl (by rfl) (fun w' hw => ?_) ?_
    rotate_left
    · go_simp
      with_reducible rfl
    simp only [Act.put, List.setIfInBounds_toArray, List.set_cons_zero, List.set_cons_succ]
  refine wpPlan_nil (hT.out _ _ ?_); clear hT T
  intro vw7 hg
  simp only [puts, Act.put, List.setIfInBounds_toArray, List.set_cons_zero, List.set_cons_succ, List.drop_succ_cons, List.drop_zero, ↓reduceIte, Nat.reduceEqDiff]
  clear lx10
  have HG := Lib.hid (hg)
  clear hg
  have bx9 := BX9.out.gr HG.out; clear BX9
  have bx10 := BX10.out.gr HG.out; clear BX10
  have bx11 := BX11.out.gr HG.out; clear BX11
  have bx12 := BX12.out.gr HG.out; clear BX12
  have lx11 := bx11.cells; have fx11 := bx11.free
  have r0 := Gr.refl vw7
  have BX9 := Lib.hid bx9; clear bx9
  have BX10 := Lib.hid bx10; clear bx10
  have BX11 := Lib.hid bx11; clear bx11
  have BX12 := Lib.hid bx12; clear bx12
  go_wp2
  refine hK.out _ _ ?_; clear hK K
  show Code.wp _ _ _ _ _
  clear lx11 fx11
  clear r0
  refine forgetW (fun w2 => Bx w2 (w.heap.size + 1) 38 #[.int .u64 ((lo (Int.natAbs ((a1).num)) : Nat) : Int), .string (bg (Int.natAbs ((a1).num))), .bool (decide (((a1).num) < 0)), .int .u64 ((lo ((a1).den - 1) : Nat) : Int), .string (bg ((a1).den - 1)), .int .u64 ((lo (Int.natAbs ((a2).num)) : Nat) : Int), .string (bg (Int.natAbs ((a2).num))), .bool (decide (((a2).num) < 0)), .int .u64 ((lo ((a2).den - 1) : Nat) : Int), .string (bg ((a2).den - 1))] ∧ Below w.heap.size w w2) ⟨(((((((((((BX11.out).set 0 _).set 1 _).set 2 _).set 3 _).set 4 _).set 5 _).set 6 _).set 7 _).set 8 _).set 9 _).eq (by simp only [List.setIfInBounds_toArray, List.set_cons_zero, List.set_cons_succ]), ((((((((((HB.out.trans (HG.out.mono HB.out.size)).setCell (by show w.heap.size ≤ w.heap.size + 1; omega) _).setCell (by show w.heap.size ≤ w.heap.size + 1; omega) _).setCell (by show w.heap.size ≤ w.heap.size + 1; omega) _).setCell (by show w.heap.size ≤ w.heap.size + 1; omega) _).setCell (by show w.heap.size ≤ w.heap.size + 1; omega) _).setCell (by show w.heap.size ≤ w.heap.size + 1; omega) _).setCell (by show w.heap.size ≤ w.heap.size + 1; omega) _).setCell (by show w.heap.size ≤ w.heap.size + 1; omega) _).setCell (by show w.heap.size ≤ w.heap.size + 1; omega) _).setCell (by show w.heap.size ≤ w.heap.size + 1; omega) _⟩ ?_
  clear HB HG BX9 BX10 BX11 BX12
  rintro Wx7 ⟨bx11, HB⟩
  replace HB := Lib.hid HB
  refine wp_ret ?_
  try simp only [Exit.then, Exit.inBlock]
  have lx11 := bx11.cells
  have r0 := Gr.refl Wx7
  exact bodyPost_ret (v := .agg #[.int .u64 ((lo (Int.natAbs ((a1).num)) : Nat) : Int), .string (bg (Int.natAbs ((a1).num))), .bool (decide (((a1).num) < 0)), .int .u64 ((lo ((a1).den - 1) : Nat) : Int), .string (bg ((a1).den - 1)), .int .u64 ((lo (Int.natAbs ((a2).num)) : Nat) : Int), .string (bg (Int.natAbs ((a2).num))), .bool (decide (((a2).num) < 0)), .int .u64 ((lo ((a2).den - 1) : Nat) : Int), .string (bg ((a2).den - 1))]) (by simp [results, Try.results44, go_sem, lx11 _ r0]) rfl ⟨rfl, HB.out⟩

theorem pleast_any (a1 a2 b1 b2 m1 m2 : Rat) (g : Nat) (w : World) (bx9 : Bx w g 38 #[.int .u64 ((lo (Int.natAbs ((b1).num)) : Nat) : Int), .string (bg (Int.natAbs ((b1).num))), .bool (decide (((b1).num) < 0)), .int .u64 ((lo ((b1).den - 1) : Nat) : Int), .string (bg ((b1).den - 1)), .int .u64 ((lo (Int.natAbs ((b2).num)) : Nat) : Int), .string (bg (Int.natAbs ((b2).num))), .bool (decide (((b2).num) < 0)), .int .u64 ((lo ((b2).den - 1) : Nat) : Int), .string (bg ((b2).den - 1))]) (r : Bool) (h : plt b1 b2 a1 a2 = r) (hm1 : (if r then b1 else a1) = m1) (hm2 : (if r then b2 else a2) = m2) (hs_a1 : sz a1 ≤ 10000000000) (hs_a2 : sz a2 ≤ 10000000000) (hs_b1 : sz b1 ≤ 10000000000) (hs_b2 : sz b2 ≤ 10000000000) :
    Calls Try.prog 44 #[(Value.agg #[.int .u64 ((lo (Int.natAbs ((a1).num)) : Nat) : Int), .string (bg (Int.natAbs ((a1).num))), .bool (decide (((a1).num) < 0)), .int .u64 ((lo ((a1).den - 1) : Nat) : Int), .string (bg ((a1).den - 1)), .int .u64 ((lo (Int.natAbs ((a2).num)) : Nat) : Int), .string (bg (Int.natAbs ((a2).num))), .bool (decide (((a2).num) < 0)), .int .u64 ((lo ((a2).den - 1) : Nat) : Int), .string (bg ((a2).den - 1))]), .slice (some ⟨g, 0, none⟩) 1 1] w fun e w' => e = .returned (.agg #[.int .u64 ((lo (Int.natAbs ((m1).num)) : Nat) : Int), .string (bg (Int.natAbs ((m1).num))), .bool (decide (((m1).num) < 0)), .int .u64 ((lo ((m1).den - 1) : Nat) : Int), .string (bg ((m1).den - 1)), .int .u64 ((lo (Int.natAbs ((m2).num)) : Nat) : Int), .string (bg (Int.natAbs ((m2).num))), .bool (decide (((m2).num) < 0)), .int .u64 ((lo ((m2).den - 1) : Nat) : Int), .string (bg ((m2).den - 1))]) ∧ Below w.heap.size w w' := by
  subst hm1 hm2
  cases r
  · exact pleast_false a1 a2 b1 b2 g w bx9 (Lib.hid h) hs_a1 hs_a2 hs_b1 hs_b2
  · exact pleast_true a1 a2 b1 b2 g w bx9 (Lib.hid h) hs_a1 hs_a2 hs_b1 hs_b2

set_option maxHeartbeats 1000000 in
theorem pgreatest_true (a1 a2 b1 b2 : Rat) (g : Nat) (w : World) (bx9 : Bx w g 38 #[.int .u64 ((lo (Int.natAbs ((b1).num)) : Nat) : Int), .string (bg (Int.natAbs ((b1).num))), .bool (decide (((b1).num) < 0)), .int .u64 ((lo ((b1).den - 1) : Nat) : Int), .string (bg ((b1).den - 1)), .int .u64 ((lo (Int.natAbs ((b2).num)) : Nat) : Int), .string (bg (Int.natAbs ((b2).num))), .bool (decide (((b2).num) < 0)), .int .u64 ((lo ((b2).den - 1) : Nat) : Int), .string (bg ((b2).den - 1))]) (h : Hid (plt a1 a2 b1 b2 = true)) (hs_a1 : sz a1 ≤ 10000000000) (hs_a2 : sz a2 ≤ 10000000000) (hs_b1 : sz b1 ≤ 10000000000) (hs_b2 : sz b2 ≤ 10000000000) :
    Calls Try.prog 45 #[(Value.agg #[.int .u64 ((lo (Int.natAbs ((a1).num)) : Nat) : Int), .string (bg (Int.natAbs ((a1).num))), .bool (decide (((a1).num) < 0)), .int .u64 ((lo ((a1).den - 1) : Nat) : Int), .string (bg ((a1).den - 1)), .int .u64 ((lo (Int.natAbs ((a2).num)) : Nat) : Int), .string (bg (Int.natAbs ((a2).num))), .bool (decide (((a2).num) < 0)), .int .u64 ((lo ((a2).den - 1) : Nat) : Int), .string (bg ((a2).den - 1))]), (Value.slice (some ⟨g, 0, none⟩) 1 1)] w fun e w' => e = .returned (.agg #[.int .u64 ((lo (Int.natAbs ((b1).num)) : Nat) : Int), .string (bg (Int.natAbs ((b1).num))), .bool (decide (((b1).num) < 0)), .int .u64 ((lo ((b1).den - 1) : Nat) : Int), .string (bg ((b1).den - 1)), .int .u64 ((lo (Int.natAbs ((b2).num)) : Nat) : Int), .string (bg (Int.natAbs ((b2).num))), .bool (decide (((b2).num) < 0)), .int .u64 ((lo ((b2).den - 1) : Nat) : Int), .string (bg ((b2).den - 1))]) ∧ Below w.heap.size w w' := by
  go_enter Try.func45, Try.ntmps45
  have e9 := bx9.lt
  -- region 0
  refine wp_seq_k fun K hK => ?_
  replace hK := Lib.hid hK
  refine wp_region_lit ?_
  go_wp2
  refine hK.out _ _ ?_; clear hK K
  show Code.wp _ _ _ _ _
  refine forgetW (fun w2 => Bx w2 g 38 #[.int .u64 ((lo (Int.natAbs ((b1).num)) : Nat) : Int), .string (bg (Int.natAbs ((b1).num))), .bool (decide (((b1).num) < 0)), .int .u64 ((lo ((b1).den - 1) : Nat) : Int), .string (bg ((b1).den - 1)), .int .u64 ((lo (Int.natAbs ((b2).num)) : Nat) : Int), .string (bg (Int.natAbs ((b2).num))), .bool (decide (((b2).num) < 0)), .int .u64 ((lo ((b2).den - 1) : Nat) : Int), .string (bg ((b2).den - 1))] ∧ Bx w2 (w.heap.size) 38 #[.int .u64 ((lo (Int.natAbs ((a1).num)) : Nat) : Int), .string (bg (Int.natAbs ((a1).num))), .bool (decide (((a1).num) < 0)), .int .u64 ((lo ((a1).den - 1) : Nat) : Int), .string (bg ((a1).den - 1)), .int .u64 ((lo (Int.natAbs ((a2).num)) : Nat) : Int), .string (bg (Int.natAbs ((a2).num))), .bool (decide (((a2).num) < 0)), .int .u64 ((lo ((a2).den - 1) : Nat) : Int), .string (bg ((a2).den - 1))] ∧ Bx w2 (w.heap.size + 1) 38 #[.int .u64 0, .string ⟨#[]⟩, .bool false, .int .u64 0, .string ⟨#[]⟩, .int .u64 0, .string ⟨#[]⟩, .bool false, .int .u64 0, .string ⟨#[]⟩] ∧ Below w.heap.size w w2) ⟨((bx9).alloc _).alloc _, (Bx.at rfl).alloc _, Bx.at (by simp), ((Below.refl _ _).alloc (Nat.le_refl _) _).alloc (by simp) _⟩ ?_
  clear bx9
  rintro Wx ⟨bx9, bx10, bx11, HB⟩
  replace HB := Lib.hid HB
  refine wp_seq ?_
  -- region 1
  have BX9 := Lib.hid bx9
  have BX10 := Lib.hid bx10
  have BX11 := Lib.hid bx11
  clear bx9 bx10 bx11
  refine wp_seq_k fun K hK => ?_
  replace hK := Lib.hid hK
  refine wp_region_seqplan 3 [(true, 0), (true, 1), (true, 2)] (by rfl) (by simp) (fun T hT => ?_)
  iterate 3
    refine wpPlan_takeL (v := ?_) rfl (by rfl) (fun w' hw => ?_) ?_
    rotate_left
    · go_simp
      with_reducible rfl
    simp only [Act.put, List.setIfInBounds_toArray, List.set_cons_zero, List.set_cons_succ]
  refine wpPlan_nil (hT.out _ _ ?_); clear hT T
  intro vw1 hg
  simp only [puts, Act.put, List.setIfInBounds_toArray, List.set_cons_zero, List.set_cons_succ, List.drop_succ_cons, List.drop_zero, ↓reduceIte, Nat.reduceEqDiff]
  have HG := Lib.hid (hg)
  clear hg
  have bx9 := BX9.out.gr HG.out; clear BX9
  have bx10 := BX10.out.gr HG.out; clear BX10
  have bx11 := BX11.out.gr HG.out; clear BX11
  have r0 := Gr.refl vw1
  have BX9 := Lib.hid bx9; clear bx9
  have BX10 := Lib.hid bx10; clear bx10
  have BX11 := Lib.hid bx11; clear bx11
  go_wp2
  refine hK.out _ _ ?_; clear hK K
  show Code.wp _ _ _ _ _
  clear r0
  refine forgetW (fun w2 => Bx w2 g 38 #[.int .u64 ((lo (Int.natAbs ((b1).num)) : Nat) : Int), .string (bg (Int.natAbs ((b1).num))), .bool (decide (((b1).num) < 0)), .int .u64 ((lo ((b1).den - 1) : Nat) : Int), .string (bg ((b1).den - 1)), .int .u64 ((lo (Int.natAbs ((b2).num)) : Nat) : Int), .string (bg (Int.natAbs ((b2).num))), .bool (decide (((b2).num) < 0)), .int .u64 ((lo ((b2).den - 1) : Nat) : Int), .string (bg ((b2).den - 1))] ∧ Bx w2 (w.heap.size) 38 #[.int .u64 ((lo (Int.natAbs ((a1).num)) : Nat) : Int), .string (bg (Int.natAbs ((a1).num))), .bool (decide (((a1).num) < 0)), .int .u64 ((lo ((a1).den - 1) : Nat) : Int), .string (bg ((a1).den - 1)), .int .u64 ((lo (Int.natAbs ((a2).num)) : Nat) : Int), .string (bg (Int.natAbs ((a2).num))), .bool (decide (((a2).num) < 0)), .int .u64 ((lo ((a2).den - 1) : Nat) : Int), .string (bg ((a2).den - 1))] ∧ Bx w2 (w.heap.size + 1) 38 #[.int .u64 0, .string ⟨#[]⟩, .bool false, .int .u64 0, .string ⟨#[]⟩, .int .u64 0, .string ⟨#[]⟩, .bool false, .int .u64 0, .string ⟨#[]⟩] ∧ Below w.heap.size w w2) ⟨BX9.out, BX10.out, BX11.out, HB.out.trans (HG.out.mono HB.out.size)⟩ ?_
  clear HB HG BX9 BX10 BX11
  rintro Wx1 ⟨bx9, bx10, bx11, HB⟩
  replace HB := Lib.hid HB
  refine wp_block ?_
  refine wp_loop_rounds 12 ?_
  rw [rounds_succ]
  -- region 2
  have BX9 := Lib.hid bx9
  have BX10 := Lib.hid bx10
  have BX11 := Lib.hid bx11
  clear bx9 bx10 bx11
  refine wp_seq_k fun K hK => ?_
  replace hK := Lib.hid hK
  refine wp_region_seqplan 1 [(true, 0)] (by rfl) (by simp) (fun T hT => ?_)
  iterate 1
    refine wpPlan_takeL (v := ?_) rfl (by rfl) (fun w' hw => ?_) ?_
    rotate_left
    · go_simp
      with_reducible rfl
    simp only [Act.put, List.setIfInBounds_toArray, List.set_cons_zero, List.set_cons_succ]
  refine wpPlan_nil (hT.out _ _ ?_); clear hT T
  intro vw2 hg
  simp only [puts, Act.put, List.setIfInBounds_toArray, List.set_cons_zero, List.set_cons_succ, List.drop_succ_cons, List.drop_zero, ↓reduceIte, Nat.reduceEqDiff]
  have HG := Lib.hid (hg)
  clear hg
  have bx9 := BX9.out.gr HG.out; clear BX9
  have bx10 := BX10.out.gr HG.out; clear BX10
  have bx11 := BX11.out.gr HG.out; clear BX11
  have r0 := Gr.refl vw2
  have BX9 := Lib.hid bx9; clear bx9
  have BX10 := Lib.hid bx10; clear bx10
  have BX11 := Lib.hid bx11; clear bx11
  go_wp2
  refine hK.out _ _ ?_; clear hK K
  show Code.wp _ _ _ _ _
  clear r0
  refine forgetW (fun w2 => Bx w2 g 38 #[.int .u64 ((lo (Int.natAbs ((b1).num)) : Nat) : Int), .string (bg (Int.natAbs ((b1).num))), .bool (decide (((b1).num) < 0)), .int .u64 ((lo ((b1).den - 1) : Nat) : Int), .string (bg ((b1).den - 1)), .int .u64 ((lo (Int.natAbs ((b2).num)) : Nat) : Int), .string (bg (Int.natAbs ((b2).num))), .bool (decide (((b2).num) < 0)), .int .u64 ((lo ((b2).den - 1) : Nat) : Int), .string (bg ((b2).den - 1))] ∧ Bx w2 (w.heap.size) 38 #[.int .u64 ((lo (Int.natAbs ((a1).num)) : Nat) : Int), .string (bg (Int.natAbs ((a1).num))), .bool (decide (((a1).num) < 0)), .int .u64 ((lo ((a1).den - 1) : Nat) : Int), .string (bg ((a1).den - 1)), .int .u64 ((lo (Int.natAbs ((a2).num)) : Nat) : Int), .string (bg (Int.natAbs ((a2).num))), .bool (decide (((a2).num) < 0)), .int .u64 ((lo ((a2).den - 1) : Nat) : Int), .string (bg ((a2).den - 1))] ∧ Bx w2 (w.heap.size + 1) 38 #[.int .u64 0, .string ⟨#[]⟩, .bool false, .int .u64 0, .string ⟨#[]⟩, .int .u64 0, .string ⟨#[]⟩, .bool false, .int .u64 0, .string ⟨#[]⟩] ∧ Below w.heap.size w w2) ⟨BX9.out, BX10.out, BX11.out, HB.out.trans (HG.out.mono HB.out.size)⟩ ?_
  clear HB HG BX9 BX10 BX11
  rintro Wx2 ⟨bx9, bx10, bx11, HB⟩
  replace HB := Lib.hid HB
  refine wp_seq ?_
  refine wp_cond_true (by rfl) ?_
  refine wp_skip ?_
  show Code.wp _ _ _ _ _
  refine wp_seq ?_
  refine wp_block ?_
  -- region 3
  have lx9 := bx9.cells
  have BX9 := Lib.hid bx9
  have BX10 := Lib.hid bx10
  have BX11 := Lib.hid bx11
  clear bx9 bx10 bx11
  refine wp_seq_k fun K hK => ?_
  replace hK := Lib.hid hK
  refine wp_region_seqplan 2 [(true, 0), (true, 1)] (by rfl) (by simp) (fun T hT => ?_)
  iterate 2
    refine wpPlan_takeL (v := ?_) rfl (by rfl) (fun w' hw => ?_) ?_
    rotate_left
    · go_simp
      with_reducible rfl
    simp only [Act.put, List.setIfInBounds_toArray, List.set_cons_zero, List.set_cons_succ]
  refine wpPlan_nil (hT.out _ _ ?_); clear hT T
  intro vw3 hg
  simp only [puts, Act.put, List.setIfInBounds_toArray, List.set_cons_zero, List.set_cons_succ, List.drop_succ_cons, List.drop_zero, ↓reduceIte, Nat.reduceEqDiff]
  clear lx9
  have HG := Lib.hid (hg)
  clear hg
  have bx9 := BX9.out.gr HG.out; clear BX9
  have bx10 := BX10.out.gr HG.out; clear BX10
  have bx11 := BX11.out.gr HG.out; clear BX11
  have r0 := Gr.refl vw3
  have BX9 := Lib.hid bx9; clear bx9
  have BX10 := Lib.hid bx10; clear bx10
  have BX11 := Lib.hid bx11; clear bx11
  go_wp2
  refine hK.out _ _ ?_; clear hK K
  show Code.wp _ _ _ _ _
  clear r0
  have hsz : w.heap.size ≤ vw3.heap.size := Nat.le_trans HB.out.size HG.out.size
  have mx9 : g < vw3.heap.size := BX9.out.lt
  have mx10 : w.heap.size < vw3.heap.size := BX10.out.lt
  have mx11 : w.heap.size + 1 < vw3.heap.size := BX11.out.lt
  refine forgetW (fun w2 => Bx w2 g 38 #[.int .u64 ((lo (Int.natAbs ((b1).num)) : Nat) : Int), .string (bg (Int.natAbs ((b1).num))), .bool (decide (((b1).num) < 0)), .int .u64 ((lo ((b1).den - 1) : Nat) : Int), .string (bg ((b1).den - 1)), .int .u64 ((lo (Int.natAbs ((b2).num)) : Nat) : Int), .string (bg (Int.natAbs ((b2).num))), .bool (decide (((b2).num) < 0)), .int .u64 ((lo ((b2).den - 1) : Nat) : Int), .string (bg ((b2).den - 1))] ∧ Bx w2 (w.heap.size) 38 #[.int .u64 ((lo (Int.natAbs ((a1).num)) : Nat) : Int), .string (bg (Int.natAbs ((a1).num))), .bool (decide (((a1).num) < 0)), .int .u64 ((lo ((a1).den - 1) : Nat) : Int), .string (bg ((a1).den - 1)), .int .u64 ((lo (Int.natAbs ((a2).num)) : Nat) : Int), .string (bg (Int.natAbs ((a2).num))), .bool (decide (((a2).num) < 0)), .int .u64 ((lo ((a2).den - 1) : Nat) : Int), .string (bg ((a2).den - 1))] ∧ Bx w2 (w.heap.size + 1) 38 #[.int .u64 0, .string ⟨#[]⟩, .bool false, .int .u64 0, .string ⟨#[]⟩, .int .u64 0, .string ⟨#[]⟩, .bool false, .int .u64 0, .string ⟨#[]⟩] ∧ Bx w2 (vw3.heap.size) 38 #[.int .u64 ((lo (Int.natAbs ((b1).num)) : Nat) : Int), .string (bg (Int.natAbs ((b1).num))), .bool (decide (((b1).num) < 0)), .int .u64 ((lo ((b1).den - 1) : Nat) : Int), .string (bg ((b1).den - 1)), .int .u64 ((lo (Int.natAbs ((b2).num)) : Nat) : Int), .string (bg (Int.natAbs ((b2).num))), .bool (decide (((b2).num) < 0)), .int .u64 ((lo ((b2).den - 1) : Nat) : Int), .string (bg ((b2).den - 1))] ∧ Below w.heap.size w w2) ⟨(BX9.out).alloc _, (BX10.out).alloc _, (BX11.out).alloc _, (Bx.at (by simp) : Bx _ (vw3.heap.size) _ _), (HB.out.trans (HG.out.mono HB.out.size)).alloc (by first | omega | (simp; omega)) _⟩ ?_
  clear HB HG BX9 BX10 BX11
  rintro Wx3 ⟨bx9, bx10, bx11, bx12, HB⟩
  replace HB := Lib.hid HB
  have yx12 : w.heap.size ≤ vw3.heap.size := by omega
  have qx9_12 : g < vw3.heap.size := by omega
  have qx10_12 : w.heap.size < vw3.heap.size := by omega
  have qx11_12 : w.heap.size + 1 < vw3.heap.size := by omega
  generalize hx12 : vw3.heap.size = gx12 at *
  clear hx12
  clear hsz mx9 mx10 mx11
  -- region 4
  have lx10 := bx10.cells
  have lx12 := bx12.cells
  have BX9 := Lib.hid bx9
  have BX10 := Lib.hid bx10
  have BX11 := Lib.hid bx11
  have BX12 := Lib.hid bx12
  clear bx9 bx10 bx11 bx12
  refine wp_seq_k fun K hK => ?_
  replace hK := Lib.hid hK
  refine wp_region_seqplan 3 [(true, 0), (true, 1), (true, 2)] (by rfl) (by simp) (fun T hT => ?_)
  iterate 2
    refine wpPlan_takeL (v := ?_) rfl (by rfl) (fun w' hw => ?_) ?_
    rotate_left
    · go_simp
      with_reducible rfl
    simp only [Act.put, List.setIfInBounds_toArray, List.set_cons_zero, List.set_cons_succ]
  refine wpPlan_callL rfl (by rfl) Try.call27 (fun w' hw => pless_any (a1) (a2) (b1) (b2) true _ (h.out) (by first | omega | exact Nat.le_trans (wl_small (by decide)) (by decide)) (by first | omega | exact Nat.le_trans (wl_small (by decide)) (by decide)) (by first | omega | exact Nat.le_trans (wl_small (by decide)) (by decide)) (by first | omega | exact Nat.le_trans (wl_small (by decide)) (by decide))) (by rfl) ?_
  simp only [Act.put, List.setIfInBounds_toArray, List.set_cons_zero, List.set_cons_succ]
  refine wpPlan_nil (hT.out _ _ ?_); clear hT T
  intro vw4 hg
  simp only [puts, Act.put, List.setIfInBounds_toArray, List.set_cons_zero, List.set_cons_succ, List.drop_succ_cons, List.drop_zero, ↓reduceIte, Nat.reduceEqDiff]
  clear lx10 lx12
  have HG := Lib.hid (hg)
  clear hg
  have bx9 := BX9.out.gr HG.out; clear BX9
  have bx10 := BX10.out.gr HG.out; clear BX10
  have bx11 := BX11.out.gr HG.out; clear BX11
  have bx12 := BX12.out.gr HG.out; clear BX12
  have r0 := Gr.refl vw4
  have BX9 := Lib.hid bx9; clear bx9
  have BX10 := Lib.hid bx10; clear bx10
  have BX11 := Lib.hid bx11; clear bx11
  have BX12 := Lib.hid bx12; clear bx12
  go_wp2
  refine hK.out _ _ ?_; clear hK K
  show Code.wp _ _ _ _ _
  clear r0
  refine forgetW (fun w2 => Bx w2 g 38 #[.int .u64 ((lo (Int.natAbs ((b1).num)) : Nat) : Int), .string (bg (Int.natAbs ((b1).num))), .bool (decide (((b1).num) < 0)), .int .u64 ((lo ((b1).den - 1) : Nat) : Int), .string (bg ((b1).den - 1)), .int .u64 ((lo (Int.natAbs ((b2).num)) : Nat) : Int), .string (bg (Int.natAbs ((b2).num))), .bool (decide (((b2).num) < 0)), .int .u64 ((lo ((b2).den - 1) : Nat) : Int), .string (bg ((b2).den - 1))] ∧ Bx w2 (w.heap.size) 38 #[.int .u64 ((lo (Int.natAbs ((a1).num)) : Nat) : Int), .string (bg (Int.natAbs ((a1).num))), .bool (decide (((a1).num) < 0)), .int .u64 ((lo ((a1).den - 1) : Nat) : Int), .string (bg ((a1).den - 1)), .int .u64 ((lo (Int.natAbs ((a2).num)) : Nat) : Int), .string (bg (Int.natAbs ((a2).num))), .bool (decide (((a2).num) < 0)), .int .u64 ((lo ((a2).den - 1) : Nat) : Int), .string (bg ((a2).den - 1))] ∧ Bx w2 (w.heap.size + 1) 38 #[.int .u64 0, .string ⟨#[]⟩, .bool false, .int .u64 0, .string ⟨#[]⟩, .int .u64 0, .string ⟨#[]⟩, .bool false, .int .u64 0, .string ⟨#[]⟩] ∧ Bx w2 gx12 38 #[.int .u64 ((lo (Int.natAbs ((b1).num)) : Nat) : Int), .string (bg (Int.natAbs ((b1).num))), .bool (decide (((b1).num) < 0)), .int .u64 ((lo ((b1).den - 1) : Nat) : Int), .string (bg ((b1).den - 1)), .int .u64 ((lo (Int.natAbs ((b2).num)) : Nat) : Int), .string (bg (Int.natAbs ((b2).num))), .bool (decide (((b2).num) < 0)), .int .u64 ((lo ((b2).den - 1) : Nat) : Int), .string (bg ((b2).den - 1))] ∧ Below w.heap.size w w2) ⟨BX9.out, BX10.out, BX11.out, BX12.out, HB.out.trans (HG.out.mono HB.out.size)⟩ ?_
  clear HB HG BX9 BX10 BX11 BX12
  rintro Wx4 ⟨bx9, bx10, bx11, bx12, HB⟩
  replace HB := Lib.hid HB
  refine wp_cond_true (by rfl) ?_
  -- region 5
  have lx12 := bx12.cells
  have BX9 := Lib.hid bx9
  have BX10 := Lib.hid bx10
  have BX11 := Lib.hid bx11
  have BX12 := Lib.hid bx12
  clear bx9 bx10 bx11 bx12
  refine wp_last_k fun K hK => ?_
  replace hK := Lib.hid hK
  refine wp_region_seqplan 1 [(true, 0)] (by rfl) (by simp) (fun T hT => ?_)
  iterate 1
    refine wpPlan_takeL (v := ?_) rfl (by rfl) (fun w' hw => ?_) ?_
    rotate_left
    · go_simp
      with_reducible rfl
    simp only [Act.put, List.setIfInBounds_toArray, List.set_cons_zero, List.set_cons_succ]
  refine wpPlan_nil (hT.out _ _ ?_); clear hT T
  intro vw5 hg
  simp only [puts, Act.put, List.setIfInBounds_toArray, List.set_cons_zero, List.set_cons_succ, List.drop_succ_cons, List.drop_zero, ↓reduceIte, Nat.reduceEqDiff]
  clear lx12
  have HG := Lib.hid (hg)
  clear hg
  have bx9 := BX9.out.gr HG.out; clear BX9
  have bx10 := BX10.out.gr HG.out; clear BX10
  have bx11 := BX11.out.gr HG.out; clear BX11
  have bx12 := BX12.out.gr HG.out; clear BX12
  have lx10 := bx10.cells; have fx10 := bx10.free
  have r0 := Gr.refl vw5
  have BX9 := Lib.hid bx9; clear bx9
  have BX10 := Lib.hid bx10; clear bx10
  have BX11 := Lib.hid bx11; clear bx11
  have BX12 := Lib.hid bx12; clear bx12
  go_wp2
  refine hK.out _ _ ?_; clear hK K
  show Code.wp _ _ _ _ _
  clear lx10 fx10
  clear r0
  refine forgetW (fun w2 => Bx w2 g 38 #[.int .u64 ((lo (Int.natAbs ((b1).num)) : Nat) : Int), .string (bg (Int.natAbs ((b1).num))), .bool (decide (((b1).num) < 0)), .int .u64 ((lo ((b1).den - 1) : Nat) : Int), .string (bg ((b1).den - 1)), .int .u64 ((lo (Int.natAbs ((b2).num)) : Nat) : Int), .string (bg (Int.natAbs ((b2).num))), .bool (decide (((b2).num) < 0)), .int .u64 ((lo ((b2).den - 1) : Nat) : Int), .string (bg ((b2).den - 1))] ∧ Bx w2 (w.heap.size) 38 #[.int .u64 ((lo (Int.natAbs ((b1).num)) : Nat) : Int), .string (bg (Int.natAbs ((b1).num))), .bool (decide (((b1).num) < 0)), .int .u64 ((lo ((b1).den - 1) : Nat) : Int), .string (bg ((b1).den - 1)), .int .u64 ((lo (Int.natAbs ((b2).num)) : Nat) : Int), .string (bg (Int.natAbs ((b2).num))), .bool (decide (((b2).num) < 0)), .int .u64 ((lo ((b2).den - 1) : Nat) : Int), .string (bg ((b2).den - 1))] ∧ Bx w2 (w.heap.size + 1) 38 #[.int .u64 0, .string ⟨#[]⟩, .bool false, .int .u64 0, .string ⟨#[]⟩, .int .u64 0, .string ⟨#[]⟩, .bool false, .int .u64 0, .string ⟨#[]⟩] ∧ Bx w2 gx12 38 #[.int .u64 ((lo (Int.natAbs ((b1).num)) : Nat) : Int), .string (bg (Int.natAbs ((b1).num))), .bool (decide (((b1).num) < 0)), .int .u64 ((lo ((b1).den - 1) : Nat) : Int), .string (bg ((b1).den - 1)), .int .u64 ((lo (Int.natAbs ((b2).num)) : Nat) : Int), .string (bg (Int.natAbs ((b2).num))), .bool (decide (((b2).num) < 0)), .int .u64 ((lo ((b2).den - 1) : Nat) : Int), .string (bg ((b2).den - 1))] ∧ Below w.heap.size w w2) ⟨((((((((((BX9.out).setOther (by show g ≠ w.heap.size; omega) _).setOther (by show g ≠ w.heap.size; omega) _).setOther (by show g ≠ w.heap.size; omega) _).setOther (by show g ≠ w.heap.size; omega) _).setOther (by show g ≠ w.heap.size; omega) _).setOther (by show g ≠ w.heap.size; omega) _).setOther (by show g ≠ w.heap.size; omega) _).setOther (by show g ≠ w.heap.size; omega) _).setOther (by show g ≠ w.heap.size; omega) _).setOther (by show g ≠ w.heap.size; omega) _, (((((((((((BX10.out).set 0 _).set 1 _).set 2 _).set 3 _).set 4 _).set 5 _).set 6 _).set 7 _).set 8 _).set 9 _).eq (by simp only [List.setIfInBounds_toArray, List.set_cons_zero, List.set_cons_succ]), ((((((((((BX11.out).setOther (by show w.heap.size + 1 ≠ w.heap.size; omega) _).setOther (by show w.heap.size + 1 ≠ w.heap.size; omega) _).setOther (by show w.heap.size + 1 ≠ w.heap.size; omega) _).setOther (by show w.heap.size + 1 ≠ w.heap.size; omega) _).setOther (by show w.heap.size + 1 ≠ w.heap.size; omega) _).setOther (by show w.heap.size + 1 ≠ w.heap.size; omega) _).setOther (by show w.heap.size + 1 ≠ w.heap.size; omega) _).setOther (by show w.heap.size + 1 ≠ w.heap.size; omega) _).setOther (by show w.heap.size + 1 ≠ w.heap.size; omega) _).setOther (by show w.heap.size + 1 ≠ w.heap.size; omega) _, ((((((((((BX12.out).setOther (by show gx12 ≠ w.heap.size; omega) _).setOther (by show gx12 ≠ w.heap.size; omega) _).setOther (by show gx12 ≠ w.heap.size; omega) _).setOther (by show gx12 ≠ w.heap.size; omega) _).setOther (by show gx12 ≠ w.heap.size; omega) _).setOther (by show gx12 ≠ w.heap.size; omega) _).setOther (by show gx12 ≠ w.heap.size; omega) _).setOther (by show gx12 ≠ w.heap.size; omega) _).setOther (by show gx12 ≠ w.heap.size; omega) _).setOther (by show gx12 ≠ w.heap.size; omega) _, ((((((((((HB.out.trans (HG.out.mono HB.out.size)).setCell (by show w.heap.size ≤ w.heap.size; omega) _).setCell (by show w.heap.size ≤ w.heap.size; omega) _).setCell (by show w.heap.size ≤ w.heap.size; omega) _).setCell (by show w.heap.size ≤ w.heap.size; omega) _).setCell (by show w.heap.size ≤ w.heap.size; omega) _).setCell (by show w.heap.size ≤ w.heap.size; omega) _).setCell (by show w.heap.size ≤ w.heap.size; omega) _).setCell (by show w.heap.size ≤ w.heap.size; omega) _).setCell (by show w.heap.size ≤ w.heap.size; omega) _).setCell (by show w.heap.size ≤ w.heap.size; omega) _⟩ ?_
  clear HB HG BX9 BX10 BX11 BX12
  rintro Wx5 ⟨bx9, bx10, bx11, bx12, HB⟩
  replace HB := Lib.hid HB
  -- region 6
  have BX9 := Lib.hid bx9
  have BX10 := Lib.hid bx10
  have BX11 := Lib.hid bx11
  have BX12 := Lib.hid bx12
  clear bx9 bx10 bx11 bx12
  refine wp_last_k fun K hK => ?_
  replace hK := Lib.hid hK
  refine wp_region_seqplan 2 [(true, 0), (true, 1)] (by rfl) (by simp) (fun T hT => ?_)
  iterate 2
    refine wpPlan_takeL (v := ?_) rfl (by rfl) (fun w' hw => ?_) ?_
    rotate_left
    · go_simp
      with_reducible rfl
    simp only [Act.put, List.setIfInBounds_toArray, List.set_cons_zero, List.set_cons_succ]
  refine wpPlan_nil (hT.out _ _ ?_); clear hT T
  intro vw6 hg
  simp only [puts, Act.put, List.setIfInBounds_toArray, List.set_cons_zero, List.set_cons_succ, List.drop_succ_cons, List.drop_zero, ↓reduceIte, Nat.reduceEqDiff]
  have HG := Lib.hid (hg)
  clear hg
  have bx9 := BX9.out.gr HG.out; clear BX9
  have bx10 := BX10.out.gr HG.out; clear BX10
  have bx11 := BX11.out.gr HG.out; clear BX11
  have bx12 := BX12.out.gr HG.out; clear BX12
  have r0 := Gr.refl vw6
  have BX9 := Lib.hid bx9; clear bx9
  have BX10 := Lib.hid bx10; clear bx10
  have BX11 := Lib.hid bx11; clear bx11
  have BX12 := Lib.hid bx12; clear bx12
  go_wp2
  refine hK.out _ _ ?_; clear hK K
  show Code.rounds _ _ _ _ _ _
  rw [rounds_succ]
  clear r0
  refine forgetW (fun w2 => Bx w2 g 38 #[.int .u64 ((lo (Int.natAbs ((b1).num)) : Nat) : Int), .string (bg (Int.natAbs ((b1).num))), .bool (decide (((b1).num) < 0)), .int .u64 ((lo ((b1).den - 1) : Nat) : Int), .string (bg ((b1).den - 1)), .int .u64 ((lo (Int.natAbs ((b2).num)) : Nat) : Int), .string (bg (Int.natAbs ((b2).num))), .bool (decide (((b2).num) < 0)), .int .u64 ((lo ((b2).den - 1) : Nat) : Int), .string (bg ((b2).den - 1))] ∧ Bx w2 (w.heap.size) 38 #[.int .u64 ((lo (Int.natAbs ((b1).num)) : Nat) : Int), .string (bg (Int.natAbs ((b1).num))), .bool (decide (((b1).num) < 0)), .int .u64 ((lo ((b1).den - 1) : Nat) : Int), .string (bg ((b1).den - 1)), .int .u64 ((lo (Int.natAbs ((b2).num)) : Nat) : Int), .string (bg (Int.natAbs ((b2).num))), .bool (decide (((b2).num) < 0)), .int .u64 ((lo ((b2).den - 1) : Nat) : Int), .string (bg ((b2).den - 1))] ∧ Bx w2 (w.heap.size + 1) 38 #[.int .u64 0, .string ⟨#[]⟩, .bool false, .int .u64 0, .string ⟨#[]⟩, .int .u64 0, .string ⟨#[]⟩, .bool false, .int .u64 0, .string ⟨#[]⟩] ∧ Bx w2 gx12 38 #[.int .u64 ((lo (Int.natAbs ((b1).num)) : Nat) : Int), .string (bg (Int.natAbs ((b1).num))), .bool (decide (((b1).num) < 0)), .int .u64 ((lo ((b1).den - 1) : Nat) : Int), .string (bg ((b1).den - 1)), .int .u64 ((lo (Int.natAbs ((b2).num)) : Nat) : Int), .string (bg (Int.natAbs ((b2).num))), .bool (decide (((b2).num) < 0)), .int .u64 ((lo ((b2).den - 1) : Nat) : Int), .string (bg ((b2).den - 1))] ∧ Below w.heap.size w w2) ⟨BX9.out, BX10.out, BX11.out, BX12.out, HB.out.trans (HG.out.mono HB.out.size)⟩ ?_
  clear HB HG BX9 BX10 BX11 BX12
  rintro Wx6 ⟨bx9, bx10, bx11, bx12, HB⟩
  replace HB := Lib.hid HB
  -- region 2
  have BX9 := Lib.hid bx9
  have BX10 := Lib.hid bx10
  have BX11 := Lib.hid bx11
  have BX12 := Lib.hid bx12
  clear bx9 bx10 bx11 bx12
  refine wp_seq_k fun K hK => ?_
  replace hK := Lib.hid hK
  refine wp_region_seqplan 1 [(true, 0)] (by rfl) (by simp) (fun T hT => ?_)
  iterate 1
    refine wpPlan_takeL (v := ?_) rfl (by rfl) (fun w' hw => ?_) ?_
    rotate_left
    · go_simp
      with_reducible rfl
    simp only [Act.put, List.setIfInBounds_toArray, List.set_cons_zero, List.set_cons_succ]
  refine wpPlan_nil (hT.out _ _ ?_); clear hT T
  intro vw7 hg
  simp only [puts, Act.put, List.setIfInBounds_toArray, List.set_cons_zero, List.set_cons_succ, List.drop_succ_cons, List.drop_zero, ↓reduceIte, Nat.reduceEqDiff]
  have HG := Lib.hid (hg)
  clear hg
  have bx9 := BX9.out.gr HG.out; clear BX9
  have bx10 := BX10.out.gr HG.out; clear BX10
  have bx11 := BX11.out.gr HG.out; clear BX11
  have bx12 := BX12.out.gr HG.out; clear BX12
  have r0 := Gr.refl vw7
  have BX9 := Lib.hid bx9; clear bx9
  have BX10 := Lib.hid bx10; clear bx10
  have BX11 := Lib.hid bx11; clear bx11
  have BX12 := Lib.hid bx12; clear bx12
  go_wp2
  refine hK.out _ _ ?_; clear hK K
  show Code.wp _ _ _ _ _
  clear r0
  refine forgetW (fun w2 => Bx w2 g 38 #[.int .u64 ((lo (Int.natAbs ((b1).num)) : Nat) : Int), .string (bg (Int.natAbs ((b1).num))), .bool (decide (((b1).num) < 0)), .int .u64 ((lo ((b1).den - 1) : Nat) : Int), .string (bg ((b1).den - 1)), .int .u64 ((lo (Int.natAbs ((b2).num)) : Nat) : Int), .string (bg (Int.natAbs ((b2).num))), .bool (decide (((b2).num) < 0)), .int .u64 ((lo ((b2).den - 1) : Nat) : Int), .string (bg ((b2).den - 1))] ∧ Bx w2 (w.heap.size) 38 #[.int .u64 ((lo (Int.natAbs ((b1).num)) : Nat) : Int), .string (bg (Int.natAbs ((b1).num))), .bool (decide (((b1).num) < 0)), .int .u64 ((lo ((b1).den - 1) : Nat) : Int), .string (bg ((b1).den - 1)), .int .u64 ((lo (Int.natAbs ((b2).num)) : Nat) : Int), .string (bg (Int.natAbs ((b2).num))), .bool (decide (((b2).num) < 0)), .int .u64 ((lo ((b2).den - 1) : Nat) : Int), .string (bg ((b2).den - 1))] ∧ Bx w2 (w.heap.size + 1) 38 #[.int .u64 0, .string ⟨#[]⟩, .bool false, .int .u64 0, .string ⟨#[]⟩, .int .u64 0, .string ⟨#[]⟩, .bool false, .int .u64 0, .string ⟨#[]⟩] ∧ Bx w2 gx12 38 #[.int .u64 ((lo (Int.natAbs ((b1).num)) : Nat) : Int), .string (bg (Int.natAbs ((b1).num))), .bool (decide (((b1).num) < 0)), .int .u64 ((lo ((b1).den - 1) : Nat) : Int), .string (bg ((b1).den - 1)), .int .u64 ((lo (Int.natAbs ((b2).num)) : Nat) : Int), .string (bg (Int.natAbs ((b2).num))), .bool (decide (((b2).num) < 0)), .int .u64 ((lo ((b2).den - 1) : Nat) : Int), .string (bg ((b2).den - 1))] ∧ Below w.heap.size w w2) ⟨BX9.out, BX10.out, BX11.out, BX12.out, HB.out.trans (HG.out.mono HB.out.size)⟩ ?_
  clear HB HG BX9 BX10 BX11 BX12
  rintro Wx2 ⟨bx9, bx10, bx11, bx12, HB⟩
  replace HB := Lib.hid HB
  refine wp_seq ?_
  refine wp_cond_false (by rfl) ?_
  refine wp_exit ?_
  show Code.wp _ _ _ _ _
  -- region 7
  have lx10 := bx10.cells
  have BX9 := Lib.hid bx9
  have BX10 := Lib.hid bx10
  have BX11 := Lib.hid bx11
  have BX12 := Lib.hid bx12
  clear bx9 bx10 bx11 bx12
  refine wp_seq_k fun K hK => ?_
  replace hK := Lib.hid hK
  refine wp_region_seqplan 1 [(true, 0)] (by rfl) (by simp) (fun T hT => ?_)
  iterate 1
    refine wpPlan_takeL (v := ?_) rfl (by rfl) (fun w' hw => ?_) ?_
    rotate_left
    · go_simp
      with_reducible rfl
    simp only [Act.put, List.setIfInBounds_toArray, List.set_cons_zero, List.set_cons_succ]
  refine wpPlan_nil (hT.out _ _ ?_); clear hT T
  intro vw8 hg
  simp only [puts, Act.put, List.setIfInBounds_toArray, List.set_cons_zero, List.set_cons_succ, List.drop_succ_cons, List.drop_zero, ↓reduceIte, Nat.reduceEqDiff]
  clear lx10
  have HG := Lib.hid (hg)
  clear hg
  have bx9 := BX9.out.gr HG.out; clear BX9
  have bx10 := BX10.out.gr HG.out; clear BX10
  have bx11 := BX11.out.gr HG.out; clear BX11
  have bx12 := BX12.out.gr HG.out; clear BX12
  have lx11 := bx11.cells; have fx11 := bx11.free
  have r0 := Gr.refl vw8
  have BX9 := Lib.hid bx9; clear bx9
  have BX10 := Lib.hid bx10; clear bx10
  have BX11 := Lib.hid bx11; clear bx11
  have BX12 := Lib.hid bx12; clear bx12
  go_wp2
  refine hK.out _ _ ?_; clear hK K
  show Code.wp _ _ _ _ _
  clear lx11 fx11
  clear r0
  refine forgetW (fun w2 => Bx w2 (w.heap.size + 1) 38 #[.int .u64 ((lo (Int.natAbs ((b1).num)) : Nat) : Int), .string (bg (Int.natAbs ((b1).num))), .bool (decide (((b1).num) < 0)), .int .u64 ((lo ((b1).den - 1) : Nat) : Int), .string (bg ((b1).den - 1)), .int .u64 ((lo (Int.natAbs ((b2).num)) : Nat) : Int), .string (bg (Int.natAbs ((b2).num))), .bool (decide (((b2).num) < 0)), .int .u64 ((lo ((b2).den - 1) : Nat) : Int), .string (bg ((b2).den - 1))] ∧ Below w.heap.size w w2) ⟨(((((((((((BX11.out).set 0 _).set 1 _).set 2 _).set 3 _).set 4 _).set 5 _).set 6 _).set 7 _).set 8 _).set 9 _).eq (by simp only [List.setIfInBounds_toArray, List.set_cons_zero, List.set_cons_succ]), ((((((((((HB.out.trans (HG.out.mono HB.out.size)).setCell (by show w.heap.size ≤ w.heap.size + 1; omega) _).setCell (by show w.heap.size ≤ w.heap.size + 1; omega) _).setCell (by show w.heap.size ≤ w.heap.size + 1; omega) _).setCell (by show w.heap.size ≤ w.heap.size + 1; omega) _).setCell (by show w.heap.size ≤ w.heap.size + 1; omega) _).setCell (by show w.heap.size ≤ w.heap.size + 1; omega) _).setCell (by show w.heap.size ≤ w.heap.size + 1; omega) _).setCell (by show w.heap.size ≤ w.heap.size + 1; omega) _).setCell (by show w.heap.size ≤ w.heap.size + 1; omega) _).setCell (by show w.heap.size ≤ w.heap.size + 1; omega) _⟩ ?_
  clear HB HG BX9 BX10 BX11 BX12
  rintro Wx7 ⟨bx11, HB⟩
  replace HB := Lib.hid HB
  refine wp_ret ?_
  try simp only [Exit.then, Exit.inBlock]
  have lx11 := bx11.cells
  have r0 := Gr.refl Wx7
  exact bodyPost_ret (v := .agg #[.int .u64 ((lo (Int.natAbs ((b1).num)) : Nat) : Int), .string (bg (Int.natAbs ((b1).num))), .bool (decide (((b1).num) < 0)), .int .u64 ((lo ((b1).den - 1) : Nat) : Int), .string (bg ((b1).den - 1)), .int .u64 ((lo (Int.natAbs ((b2).num)) : Nat) : Int), .string (bg (Int.natAbs ((b2).num))), .bool (decide (((b2).num) < 0)), .int .u64 ((lo ((b2).den - 1) : Nat) : Int), .string (bg ((b2).den - 1))]) (by simp [results, Try.results45, go_sem, lx11 _ r0]) rfl ⟨rfl, HB.out⟩

set_option maxHeartbeats 1000000 in
theorem pgreatest_false (a1 a2 b1 b2 : Rat) (g : Nat) (w : World) (bx9 : Bx w g 38 #[.int .u64 ((lo (Int.natAbs ((b1).num)) : Nat) : Int), .string (bg (Int.natAbs ((b1).num))), .bool (decide (((b1).num) < 0)), .int .u64 ((lo ((b1).den - 1) : Nat) : Int), .string (bg ((b1).den - 1)), .int .u64 ((lo (Int.natAbs ((b2).num)) : Nat) : Int), .string (bg (Int.natAbs ((b2).num))), .bool (decide (((b2).num) < 0)), .int .u64 ((lo ((b2).den - 1) : Nat) : Int), .string (bg ((b2).den - 1))]) (h : Hid (plt a1 a2 b1 b2 = false)) (hs_a1 : sz a1 ≤ 10000000000) (hs_a2 : sz a2 ≤ 10000000000) (hs_b1 : sz b1 ≤ 10000000000) (hs_b2 : sz b2 ≤ 10000000000) :
    Calls Try.prog 45 #[(Value.agg #[.int .u64 ((lo (Int.natAbs ((a1).num)) : Nat) : Int), .string (bg (Int.natAbs ((a1).num))), .bool (decide (((a1).num) < 0)), .int .u64 ((lo ((a1).den - 1) : Nat) : Int), .string (bg ((a1).den - 1)), .int .u64 ((lo (Int.natAbs ((a2).num)) : Nat) : Int), .string (bg (Int.natAbs ((a2).num))), .bool (decide (((a2).num) < 0)), .int .u64 ((lo ((a2).den - 1) : Nat) : Int), .string (bg ((a2).den - 1))]), (Value.slice (some ⟨g, 0, none⟩) 1 1)] w fun e w' => e = .returned (.agg #[.int .u64 ((lo (Int.natAbs ((a1).num)) : Nat) : Int), .string (bg (Int.natAbs ((a1).num))), .bool (decide (((a1).num) < 0)), .int .u64 ((lo ((a1).den - 1) : Nat) : Int), .string (bg ((a1).den - 1)), .int .u64 ((lo (Int.natAbs ((a2).num)) : Nat) : Int), .string (bg (Int.natAbs ((a2).num))), .bool (decide (((a2).num) < 0)), .int .u64 ((lo ((a2).den - 1) : Nat) : Int), .string (bg ((a2).den - 1))]) ∧ Below w.heap.size w w' := by
  go_enter Try.func45, Try.ntmps45
  have e9 := bx9.lt
  -- region 0
  refine wp_seq_k fun K hK => ?_
  replace hK := Lib.hid hK
  refine wp_region_lit ?_
  go_wp2
  refine hK.out _ _ ?_; clear hK K
  show Code.wp _ _ _ _ _
  refine forgetW (fun w2 => Bx w2 g 38 #[.int .u64 ((lo (Int.natAbs ((b1).num)) : Nat) : Int), .string (bg (Int.natAbs ((b1).num))), .bool (decide (((b1).num) < 0)), .int .u64 ((lo ((b1).den - 1) : Nat) : Int), .string (bg ((b1).den - 1)), .int .u64 ((lo (Int.natAbs ((b2).num)) : Nat) : Int), .string (bg (Int.natAbs ((b2).num))), .bool (decide (((b2).num) < 0)), .int .u64 ((lo ((b2).den - 1) : Nat) : Int), .string (bg ((b2).den - 1))] ∧ Bx w2 (w.heap.size) 38 #[.int .u64 ((lo (Int.natAbs ((a1).num)) : Nat) : Int), .string (bg (Int.natAbs ((a1).num))), .bool (decide (((a1).num) < 0)), .int .u64 ((lo ((a1).den - 1) : Nat) : Int), .string (bg ((a1).den - 1)), .int .u64 ((lo (Int.natAbs ((a2).num)) : Nat) : Int), .string (bg (Int.natAbs ((a2).num))), .bool (decide (((a2).num) < 0)), .int .u64 ((lo ((a2).den - 1) : Nat) : Int), .string (bg ((a2).den - 1))] ∧ Bx w2 (w.heap.size + 1) 38 #[.int .u64 0, .string ⟨#[]⟩, .bool false, .int .u64 0, .string ⟨#[]⟩, .int .u64 0, .string ⟨#[]⟩, .bool false, .int .u64 0, .string ⟨#[]⟩] ∧ Below w.heap.size w w2) ⟨((bx9).alloc _).alloc _, (Bx.at rfl).alloc _, Bx.at (by simp), ((Below.refl _ _).alloc (Nat.le_refl _) _).alloc (by simp) _⟩ ?_
  clear bx9
  rintro Wx ⟨bx9, bx10, bx11, HB⟩
  replace HB := Lib.hid HB
  refine wp_seq ?_
  -- region 1
  have BX9 := Lib.hid bx9
  have BX10 := Lib.hid bx10
  have BX11 := Lib.hid bx11
  clear bx9 bx10 bx11
  refine wp_seq_k fun K hK => ?_
  replace hK := Lib.hid hK
  refine wp_region_seqplan 3 [(true, 0), (true, 1), (true, 2)] (by rfl) (by simp) (fun T hT => ?_)
  iterate 3
    refine wpPlan_takeL (v := ?_) rfl (by rfl) (fun w' hw => ?_) ?_
    rotate_left
    · go_simp
      with_reducible rfl
    simp only [Act.put, List.setIfInBounds_toArray, List.set_cons_zero, List.set_cons_succ]
  refine wpPlan_nil (hT.out _ _ ?_); clear hT T
  intro vw1 hg
  simp only [puts, Act.put, List.setIfInBounds_toArray, List.set_cons_zero, List.set_cons_succ, List.drop_succ_cons, List.drop_zero, ↓reduceIte, Nat.reduceEqDiff]
  have HG := Lib.hid (hg)
  clear hg
  have bx9 := BX9.out.gr HG.out; clear BX9
  have bx10 := BX10.out.gr HG.out; clear BX10
  have bx11 := BX11.out.gr HG.out; clear BX11
  have r0 := Gr.refl vw1
  have BX9 := Lib.hid bx9; clear bx9
  have BX10 := Lib.hid bx10; clear bx10
  have BX11 := Lib.hid bx11; clear bx11
  go_wp2
  refine hK.out _ _ ?_; clear hK K
  show Code.wp _ _ _ _ _
  clear r0
  refine forgetW (fun w2 => Bx w2 g 38 #[.int .u64 ((lo (Int.natAbs ((b1).num)) : Nat) : Int), .string (bg (Int.natAbs ((b1).num))), .bool (decide (((b1).num) < 0)), .int .u64 ((lo ((b1).den - 1) : Nat) : Int), .string (bg ((b1).den - 1)), .int .u64 ((lo (Int.natAbs ((b2).num)) : Nat) : Int), .string (bg (Int.natAbs ((b2).num))), .bool (decide (((b2).num) < 0)), .int .u64 ((lo ((b2).den - 1) : Nat) : Int), .string (bg ((b2).den - 1))] ∧ Bx w2 (w.heap.size) 38 #[.int .u64 ((lo (Int.natAbs ((a1).num)) : Nat) : Int), .string (bg (Int.natAbs ((a1).num))), .bool (decide (((a1).num) < 0)), .int .u64 ((lo ((a1).den - 1) : Nat) : Int), .string (bg ((a1).den - 1)), .int .u64 ((lo (Int.natAbs ((a2).num)) : Nat) : Int), .string (bg (Int.natAbs ((a2).num))), .bool (decide (((a2).num) < 0)), .int .u64 ((lo ((a2).den - 1) : Nat) : Int), .string (bg ((a2).den - 1))] ∧ Bx w2 (w.heap.size + 1) 38 #[.int .u64 0, .string ⟨#[]⟩, .bool false, .int .u64 0, .string ⟨#[]⟩, .int .u64 0, .string ⟨#[]⟩, .bool false, .int .u64 0, .string ⟨#[]⟩] ∧ Below w.heap.size w w2) ⟨BX9.out, BX10.out, BX11.out, HB.out.trans (HG.out.mono HB.out.size)⟩ ?_
  clear HB HG BX9 BX10 BX11
  rintro Wx1 ⟨bx9, bx10, bx11, HB⟩
  replace HB := Lib.hid HB
  refine wp_block ?_
  refine wp_loop_rounds 12 ?_
  rw [rounds_succ]
  -- region 2
  have BX9 := Lib.hid bx9
  have BX10 := Lib.hid bx10
  have BX11 := Lib.hid bx11
  clear bx9 bx10 bx11
  refine wp_seq_k fun K hK => ?_
  replace hK := Lib.hid hK
  refine wp_region_seqplan 1 [(true, 0)] (by rfl) (by simp) (fun T hT => ?_)
  iterate 1
    refine wpPlan_takeL (v := ?_) rfl (by rfl) (fun w' hw => ?_) ?_
    rotate_left
    · go_simp
      with_reducible rfl
    simp only [Act.put, List.setIfInBounds_toArray, List.set_cons_zero, List.set_cons_succ]
  refine wpPlan_nil (hT.out _ _ ?_); clear hT T
  intro vw2 hg
  simp only [puts, Act.put, List.setIfInBounds_toArray, List.set_cons_zero, List.set_cons_succ, List.drop_succ_cons, List.drop_zero, ↓reduceIte, Nat.reduceEqDiff]
  have HG := Lib.hid (hg)
  clear hg
  have bx9 := BX9.out.gr HG.out; clear BX9
  have bx10 := BX10.out.gr HG.out; clear BX10
  have bx11 := BX11.out.gr HG.out; clear BX11
  have r0 := Gr.refl vw2
  have BX9 := Lib.hid bx9; clear bx9
  have BX10 := Lib.hid bx10; clear bx10
  have BX11 := Lib.hid bx11; clear bx11
  go_wp2
  refine hK.out _ _ ?_; clear hK K
  show Code.wp _ _ _ _ _
  clear r0
  refine forgetW (fun w2 => Bx w2 g 38 #[.int .u64 ((lo (Int.natAbs ((b1).num)) : Nat) : Int), .string (bg (Int.natAbs ((b1).num))), .bool (decide (((b1).num) < 0)), .int .u64 ((lo ((b1).den - 1) : Nat) : Int), .string (bg ((b1).den - 1)), .int .u64 ((lo (Int.natAbs ((b2).num)) : Nat) : Int), .string (bg (Int.natAbs ((b2).num))), .bool (decide (((b2).num) < 0)), .int .u64 ((lo ((b2).den - 1) : Nat) : Int), .string (bg ((b2).den - 1))] ∧ Bx w2 (w.heap.size) 38 #[.int .u64 ((lo (Int.natAbs ((a1).num)) : Nat) : Int), .string (bg (Int.natAbs ((a1).num))), .bool (decide (((a1).num) < 0)), .int .u64 ((lo ((a1).den - 1) : Nat) : Int), .string (bg ((a1).den - 1)), .int .u64 ((lo (Int.natAbs ((a2).num)) : Nat) : Int), .string (bg (Int.natAbs ((a2).num))), .bool (decide (((a2).num) < 0)), .int .u64 ((lo ((a2).den - 1) : Nat) : Int), .string (bg ((a2).den - 1))] ∧ Bx w2 (w.heap.size + 1) 38 #[.int .u64 0, .string ⟨#[]⟩, .bool false, .int .u64 0, .string ⟨#[]⟩, .int .u64 0, .string ⟨#[]⟩, .bool false, .int .u64 0, .string ⟨#[]⟩] ∧ Below w.heap.size w w2) ⟨BX9.out, BX10.out, BX11.out, HB.out.trans (HG.out.mono HB.out.size)⟩ ?_
  clear HB HG BX9 BX10 BX11
  rintro Wx2 ⟨bx9, bx10, bx11, HB⟩
  replace HB := Lib.hid HB
  refine wp_seq ?_
  refine wp_cond_true (by rfl) ?_
  refine wp_skip ?_
  show Code.wp _ _ _ _ _
  refine wp_seq ?_
  refine wp_block ?_
  -- region 3
  have lx9 := bx9.cells
  have BX9 := Lib.hid bx9
  have BX10 := Lib.hid bx10
  have BX11 := Lib.hid bx11
  clear bx9 bx10 bx11
  refine wp_seq_k fun K hK => ?_
  replace hK := Lib.hid hK
  refine wp_region_seqplan 2 [(true, 0), (true, 1)] (by rfl) (by simp) (fun T hT => ?_)
  iterate 2
    refine wpPlan_takeL (v := ?_) rfl (by rfl) (fun w' hw => ?_) ?_
    rotate_left
    · go_simp
      with_reducible rfl
    simp only [Act.put, List.setIfInBounds_toArray, List.set_cons_zero, List.set_cons_succ]
  refine wpPlan_nil (hT.out _ _ ?_); clear hT T
  intro vw3 hg
  simp only [puts, Act.put, List.setIfInBounds_toArray, List.set_cons_zero, List.set_cons_succ, List.drop_succ_cons, List.drop_zero, ↓reduceIte, Nat.reduceEqDiff]
  clear lx9
  have HG := Lib.hid (hg)
  clear hg
  have bx9 := BX9.out.gr HG.out; clear BX9
  have bx10 := BX10.out.gr HG.out; clear BX10
  have bx11 := BX11.out.gr HG.out; clear BX11
  have r0 := Gr.refl vw3
  have BX9 := Lib.hid bx9; clear bx9
  have BX10 := Lib.hid bx10; clear bx10
  have BX11 := Lib.hid bx11; clear bx11
  go_wp2
  refine hK.out _ _ ?_; clear hK K
  show Code.wp _ _ _ _ _
  clear r0
  have hsz : w.heap.size ≤ vw3.heap.size := Nat.le_trans HB.out.size HG.out.size
  have mx9 : g < vw3.heap.size := BX9.out.lt
  have mx10 : w.heap.size < vw3.heap.size := BX10.out.lt
  have mx11 : w.heap.size + 1 < vw3.heap.size := BX11.out.lt
  refine forgetW (fun w2 => Bx w2 g 38 #[.int .u64 ((lo (Int.natAbs ((b1).num)) : Nat) : Int), .string (bg (Int.natAbs ((b1).num))), .bool (decide (((b1).num) < 0)), .int .u64 ((lo ((b1).den - 1) : Nat) : Int), .string (bg ((b1).den - 1)), .int .u64 ((lo (Int.natAbs ((b2).num)) : Nat) : Int), .string (bg (Int.natAbs ((b2).num))), .bool (decide (((b2).num) < 0)), .int .u64 ((lo ((b2).den - 1) : Nat) : Int), .string (bg ((b2).den - 1))] ∧ Bx w2 (w.heap.size) 38 #[.int .u64 ((lo (Int.natAbs ((a1).num)) : Nat) : Int), .string (bg (Int.natAbs ((a1).num))), .bool (decide (((a1).num) < 0)), .int .u64 ((lo ((a1).den - 1) : Nat) : Int), .string (bg ((a1).den - 1)), .int .u64 ((lo (Int.natAbs ((a2).num)) : Nat) : Int), .string (bg (Int.natAbs ((a2).num))), .bool (decide (((a2).num) < 0)), .int .u64 ((lo ((a2).den - 1) : Nat) : Int), .string (bg ((a2).den - 1))] ∧ Bx w2 (w.heap.size + 1) 38 #[.int .u64 0, .string ⟨#[]⟩, .bool false, .int .u64 0, .string ⟨#[]⟩, .int .u64 0, .string ⟨#[]⟩, .bool false, .int .u64 0, .string ⟨#[]⟩] ∧ Bx w2 (vw3.heap.size) 38 #[.int .u64 ((lo (Int.natAbs ((b1).num)) : Nat) : Int), .string (bg (Int.natAbs ((b1).num))), .bool (decide (((b1).num) < 0)), .int .u64 ((lo ((b1).den - 1) : Nat) : Int), .string (bg ((b1).den - 1)), .int .u64 ((lo (Int.natAbs ((b2).num)) : Nat) : Int), .string (bg (Int.natAbs ((b2).num))), .bool (decide (((b2).num) < 0)), .int .u64 ((lo ((b2).den - 1) : Nat) : Int), .string (bg ((b2).den - 1))] ∧ Below w.heap.size w w2) ⟨(BX9.out).alloc _, (BX10.out).alloc _, (BX11.out).alloc _, (Bx.at (by simp) : Bx _ (vw3.heap.size) _ _), (HB.out.trans (HG.out.mono HB.out.size)).alloc (by first | omega | (simp; omega)) _⟩ ?_
  clear HB HG BX9 BX10 BX11
  rintro Wx3 ⟨bx9, bx10, bx11, bx12, HB⟩
  replace HB := Lib.hid HB
  have yx12 : w.heap.size ≤ vw3.heap.size := by omega
  have qx9_12 : g < vw3.heap.size := by omega
  have qx10_12 : w.heap.size < vw3.heap.size := by omega
  have qx11_12 : w.heap.size + 1 < vw3.heap.size := by omega
  generalize hx12 : vw3.heap.size = gx12 at *
  clear hx12
  clear hsz mx9 mx10 mx11
  -- region 4
  have lx10 := bx10.cells
  have lx12 := bx12.cells
  have BX9 := Lib.hid bx9
  have BX10 := Lib.hid bx10
  have BX11 := Lib.hid bx11
  have BX12 := Lib.hid bx12
  clear bx9 bx10 bx11 bx12
  refine wp_seq_k fun K hK => ?_
  replace hK := Lib.hid hK
  refine wp_region_seqplan 3 [(true, 0), (true, 1), (true, 2)] (by rfl) (by simp) (fun T hT => ?_)
  iterate 2
    refine wpPlan_takeL (v := ?_) rfl (by rfl) (fun w' hw => ?_) ?_
    rotate_left
    · go_simp
      with_reducible rfl
    simp only [Act.put, List.setIfInBounds_toArray, List.set_cons_zero, List.set_cons_succ]
  refine wpPlan_callL rfl (by rfl) Try.call27 (fun w' hw => pless_any (a1) (a2) (b1) (b2) false _ (h.out) (by first | omega | exact Nat.le_trans (wl_small (by decide)) (by decide)) (by first | omega | exact Nat.le_trans (wl_small (by decide)) (by decide)) (by first | omega | exact Nat.le_trans (wl_small (by decide)) (by decide)) (by first | omega | exact Nat.le_trans (wl_small (by decide)) (by decide))) (by rfl) ?_
  simp only [Act.put, List.setIfInBounds_toArray, List.set_cons_zero, List.set_cons_succ]
  refine wpPlan_nil (hT.out _ _ ?_); clear hT T
  intro vw4 hg
  simp only [puts, Act.put, List.setIfInBounds_toArray, List.set_cons_zero, List.set_cons_succ, List.drop_succ_cons, List.drop_zero, ↓reduceIte, Nat.reduceEqDiff]
  clear lx10 lx12
  have HG := Lib.hid (hg)
  clear hg
  have bx9 := BX9.out.gr HG.out; clear BX9
  have bx10 := BX10.out.gr HG.out; clear BX10
  have bx11 := BX11.out.gr HG.out; clear BX11
  have bx12 := BX12.out.gr HG.out; clear BX12
  have r0 := Gr.refl vw4
  have BX9 := Lib.hid bx9; clear bx9
  have BX10 := Lib.hid bx10; clear bx10
  have BX11 := Lib.hid bx11; clear bx11
  have BX12 := Lib.hid bx12; clear bx12
  go_wp2
  refine hK.out _ _ ?_; clear hK K
  show Code.wp _ _ _ _ _
  clear r0
  refine forgetW (fun w2 => Bx w2 g 38 #[.int .u64 ((lo (Int.natAbs ((b1).num)) : Nat) : Int), .string (bg (Int.natAbs ((b1).num))), .bool (decide (((b1).num) < 0)), .int .u64 ((lo ((b1).den - 1) : Nat) : Int), .string (bg ((b1).den - 1)), .int .u64 ((lo (Int.natAbs ((b2).num)) : Nat) : Int), .string (bg (Int.natAbs ((b2).num))), .bool (decide (((b2).num) < 0)), .int .u64 ((lo ((b2).den - 1) : Nat) : Int), .string (bg ((b2).den - 1))] ∧ Bx w2 (w.heap.size) 38 #[.int .u64 ((lo (Int.natAbs ((a1).num)) : Nat) : Int), .string (bg (Int.natAbs ((a1).num))), .bool (decide (((a1).num) < 0)), .int .u64 ((lo ((a1).den - 1) : Nat) : Int), .string (bg ((a1).den - 1)), .int .u64 ((lo (Int.natAbs ((a2).num)) : Nat) : Int), .string (bg (Int.natAbs ((a2).num))), .bool (decide (((a2).num) < 0)), .int .u64 ((lo ((a2).den - 1) : Nat) : Int), .string (bg ((a2).den - 1))] ∧ Bx w2 (w.heap.size + 1) 38 #[.int .u64 0, .string ⟨#[]⟩, .bool false, .int .u64 0, .string ⟨#[]⟩, .int .u64 0, .string ⟨#[]⟩, .bool false, .int .u64 0, .string ⟨#[]⟩] ∧ Bx w2 gx12 38 #[.int .u64 ((lo (Int.natAbs ((b1).num)) : Nat) : Int), .string (bg (Int.natAbs ((b1).num))), .bool (decide (((b1).num) < 0)), .int .u64 ((lo ((b1).den - 1) : Nat) : Int), .string (bg ((b1).den - 1)), .int .u64 ((lo (Int.natAbs ((b2).num)) : Nat) : Int), .string (bg (Int.natAbs ((b2).num))), .bool (decide (((b2).num) < 0)), .int .u64 ((lo ((b2).den - 1) : Nat) : Int), .string (bg ((b2).den - 1))] ∧ Below w.heap.size w w2) ⟨BX9.out, BX10.out, BX11.out, BX12.out, HB.out.trans (HG.out.mono HB.out.size)⟩ ?_
  clear HB HG BX9 BX10 BX11 BX12
  rintro Wx4 ⟨bx9, bx10, bx11, bx12, HB⟩
  replace HB := Lib.hid HB
  refine wp_cond_false (by rfl) ?_
  refine wp_skip ?_
  show Code.wp _ _ _ _ _
  -- region 6
  have BX9 := Lib.hid bx9
  have BX10 := Lib.hid bx10
  have BX11 := Lib.hid bx11
  have BX12 := Lib.hid bx12
  clear bx9 bx10 bx11 bx12
  refine wp_last_k fun K hK => ?_
  replace hK := Lib.hid hK
  refine wp_region_seqplan 2 [(true, 0), (true, 1)] (by rfl) (by simp) (fun T hT => ?_)
  iterate 2
    refine wpPlan_takeL (v := ?_) rfl (by rfl) (fun w' hw => ?_) ?_
    rotate_left
    · go_simp
      with_reducible rfl
    simp only [Act.put, List.setIfInBounds_toArray, List.set_cons_zero, List.set_cons_succ]
  refine wpPlan_nil (hT.out _ _ ?_); clear hT T
  intro vw5 hg
  simp only [puts, Act.put, List.setIfInBounds_toArray, List.set_cons_zero, List.set_cons_succ, List.drop_succ_cons, List.drop_zero, ↓reduceIte, Nat.reduceEqDiff]
  have HG := Lib.hid (hg)
  clear hg
  have bx9 := BX9.out.gr HG.out; clear BX9
  have bx10 := BX10.out.gr HG.out; clear BX10
  have bx11 := BX11.out.gr HG.out; clear BX11
  have bx12 := BX12.out.gr HG.out; clear BX12
  have r0 := Gr.refl vw5
  have BX9 := Lib.hid bx9; clear bx9
  have BX10 := Lib.hid bx10; clear bx10
  have BX11 := Lib.hid bx11; clear bx11
  have BX12 := Lib.hid bx12; clear bx12
  go_wp2
  refine hK.out _ _ ?_; clear hK K
  show Code.rounds _ _ _ _ _ _
  rw [rounds_succ]
  clear r0
  refine forgetW (fun w2 => Bx w2 g 38 #[.int .u64 ((lo (Int.natAbs ((b1).num)) : Nat) : Int), .string (bg (Int.natAbs ((b1).num))), .bool (decide (((b1).num) < 0)), .int .u64 ((lo ((b1).den - 1) : Nat) : Int), .string (bg ((b1).den - 1)), .int .u64 ((lo (Int.natAbs ((b2).num)) : Nat) : Int), .string (bg (Int.natAbs ((b2).num))), .bool (decide (((b2).num) < 0)), .int .u64 ((lo ((b2).den - 1) : Nat) : Int), .string (bg ((b2).den - 1))] ∧ Bx w2 (w.heap.size) 38 #[.int .u64 ((lo (Int.natAbs ((a1).num)) : Nat) : Int), .string (bg (Int.natAbs ((a1).num))), .bool (decide (((a1).num) < 0)), .int .u64 ((lo ((a1).den - 1) : Nat) : Int), .string (bg ((a1).den - 1)), .int .u64 ((lo (Int.natAbs ((a2).num)) : Nat) : Int), .string (bg (Int.natAbs ((a2).num))), .bool (decide (((a2).num) < 0)), .int .u64 ((lo ((a2).den - 1) : Nat) : Int), .string (bg ((a2).den - 1))] ∧ Bx w2 (w.heap.size + 1) 38 #[.int .u64 0, .string ⟨#[]⟩, .bool false, .int .u64 0, .string ⟨#[]⟩, .int .u64 0, .string ⟨#[]⟩, .bool false, .int .u64 0, .string ⟨#[]⟩] ∧ Bx w2 gx12 38 #[.int .u64 ((lo (Int.natAbs ((b1).num)) : Nat) : Int), .string (bg (Int.natAbs ((b1).num))), .bool (decide (((b1).num) < 0)), .int .u64 ((lo ((b1).den - 1) : Nat) : Int), .string (bg ((b1).den - 1)), .int .u64 ((lo (Int.natAbs ((b2).num)) : Nat) : Int), .string (bg (Int.natAbs ((b2).num))), .bool (decide (((b2).num) < 0)), .int .u64 ((lo ((b2).den - 1) : Nat) : Int), .string (bg ((b2).den - 1))] ∧ Below w.heap.size w w2) ⟨BX9.out, BX10.out, BX11.out, BX12.out, HB.out.trans (HG.out.mono HB.out.size)⟩ ?_
  clear HB HG BX9 BX10 BX11 BX12
  rintro Wx6 ⟨bx9, bx10, bx11, bx12, HB⟩
  replace HB := Lib.hid HB
  -- region 2
  have BX9 := Lib.hid bx9
  have BX10 := Lib.hid bx10
  have BX11 := Lib.hid bx11
  have BX12 := Lib.hid bx12
  clear bx9 bx10 bx11 bx12
  refine wp_seq_k fun K hK => ?_
  replace hK := Lib.hid hK
  refine wp_region_seqplan 1 [(true, 0)] (by rfl) (by simp) (fun T hT => ?_)
  iterate 1
    refine wpPlan_takeL (v := ?_) rfl (by rfl) (fun w' hw => ?_) ?_
    rotate_left
    · go_simp
      with_reducible rfl
    simp only [Act.put, List.setIfInBounds_toArray, List.set_cons_zero, List.set_cons_succ]
  refine wpPlan_nil (hT.out _ _ ?_); clear hT T
  intro vw6 hg
  simp only [puts, Act.put, List.setIfInBounds_toArray, List.set_cons_zero, List.set_cons_succ, List.drop_succ_cons, List.drop_zero, ↓reduceIte, Nat.reduceEqDiff]
  have HG := Lib.hid (hg)
  clear hg
  have bx9 := BX9.out.gr HG.out; clear BX9
  have bx10 := BX10.out.gr HG.out; clear BX10
  have bx11 := BX11.out.gr HG.out; clear BX11
  have bx12 := BX12.out.gr HG.out; clear BX12
  have r0 := Gr.refl vw6
  have BX9 := Lib.hid bx9; clear bx9
  have BX10 := Lib.hid bx10; clear bx10
  have BX11 := Lib.hid bx11; clear bx11
  have BX12 := Lib.hid bx12; clear bx12
  go_wp2
  refine hK.out _ _ ?_; clear hK K
  show Code.wp _ _ _ _ _
  clear r0
  refine forgetW (fun w2 => Bx w2 g 38 #[.int .u64 ((lo (Int.natAbs ((b1).num)) : Nat) : Int), .string (bg (Int.natAbs ((b1).num))), .bool (decide (((b1).num) < 0)), .int .u64 ((lo ((b1).den - 1) : Nat) : Int), .string (bg ((b1).den - 1)), .int .u64 ((lo (Int.natAbs ((b2).num)) : Nat) : Int), .string (bg (Int.natAbs ((b2).num))), .bool (decide (((b2).num) < 0)), .int .u64 ((lo ((b2).den - 1) : Nat) : Int), .string (bg ((b2).den - 1))] ∧ Bx w2 (w.heap.size) 38 #[.int .u64 ((lo (Int.natAbs ((a1).num)) : Nat) : Int), .string (bg (Int.natAbs ((a1).num))), .bool (decide (((a1).num) < 0)), .int .u64 ((lo ((a1).den - 1) : Nat) : Int), .string (bg ((a1).den - 1)), .int .u64 ((lo (Int.natAbs ((a2).num)) : Nat) : Int), .string (bg (Int.natAbs ((a2).num))), .bool (decide (((a2).num) < 0)), .int .u64 ((lo ((a2).den - 1) : Nat) : Int), .string (bg ((a2).den - 1))] ∧ Bx w2 (w.heap.size + 1) 38 #[.int .u64 0, .string ⟨#[]⟩, .bool false, .int .u64 0, .string ⟨#[]⟩, .int .u64 0, .string ⟨#[]⟩, .bool false, .int .u64 0, .string ⟨#[]⟩] ∧ Bx w2 gx12 38 #[.int .u64 ((lo (Int.natAbs ((b1).num)) : Nat) : Int), .string (bg (Int.natAbs ((b1).num))), .bool (decide (((b1).num) < 0)), .int .u64 ((lo ((b1).den - 1) : Nat) : Int), .string (bg ((b1).den - 1)), .int .u64 ((lo (Int.natAbs ((b2).num)) : Nat) : Int), .string (bg (Int.natAbs ((b2).num))), .bool (decide (((b2).num) < 0)), .int .u64 ((lo ((b2).den - 1) : Nat) : Int), .string (bg ((b2).den - 1))] ∧ Below w.heap.size w w2) ⟨BX9.out, BX10.out, BX11.out, BX12.out, HB.out.trans (HG.out.mono HB.out.size)⟩ ?_
  clear HB HG BX9 BX10 BX11 BX12
  rintro Wx2 ⟨bx9, bx10, bx11, bx12, HB⟩
  replace HB := Lib.hid HB
  refine wp_seq ?_
  refine wp_cond_false (by rfl) ?_
  refine wp_exit ?_
  show Code.wp _ _ _ _ _
  -- region 7
  have lx10 := bx10.cells
  have BX9 := Lib.hid bx9
  have BX10 := Lib.hid bx10
  have BX11 := Lib.hid bx11
  have BX12 := Lib.hid bx12
  clear bx9 bx10 bx11 bx12
  refine wp_seq_k fun K hK => ?_
  replace hK := Lib.hid hK
  refine wp_region_seqplan 1 [(true, 0)] (by rfl) (by simp) (fun T hT => ?_)
  iterate 1
    refine wpPlan_takeL (v := ?_) rfl (by rfl) (fun w' hw => ?_) ?_
    rotate_left
    · go_simp
      with_reducible rfl
    simp only [Act.put, List.setIfInBounds_toArray, List.set_cons_zero, List.set_cons_succ]
  refine wpPlan_nil (hT.out _ _ ?_); clear hT T
  intro vw7 hg
  simp only [puts, Act.put, List.setIfInBounds_toArray, List.set_cons_zero, List.set_cons_succ, List.drop_succ_cons, List.drop_zero, ↓reduceIte, Nat.reduceEqDiff]
  clear lx10
  have HG := Lib.hid (hg)
  clear hg
  have bx9 := BX9.out.gr HG.out; clear BX9
  have bx10 := BX10.out.gr HG.out; clear BX10
  have bx11 := BX11.out.gr HG.out; clear BX11
  have bx12 := BX12.out.gr HG.out; clear BX12
  have lx11 := bx11.cells; have fx11 := bx11.free
  have r0 := Gr.refl vw7
  have BX9 := Lib.hid bx9; clear bx9
  have BX10 := Lib.hid bx10; clear bx10
  have BX11 := Lib.hid bx11; clear bx11
  have BX12 := Lib.hid bx12; clear bx12
  go_wp2
  refine hK.out _ _ ?_; clear hK K
  show Code.wp _ _ _ _ _
  clear lx11 fx11
  clear r0
  refine forgetW (fun w2 => Bx w2 (w.heap.size + 1) 38 #[.int .u64 ((lo (Int.natAbs ((a1).num)) : Nat) : Int), .string (bg (Int.natAbs ((a1).num))), .bool (decide (((a1).num) < 0)), .int .u64 ((lo ((a1).den - 1) : Nat) : Int), .string (bg ((a1).den - 1)), .int .u64 ((lo (Int.natAbs ((a2).num)) : Nat) : Int), .string (bg (Int.natAbs ((a2).num))), .bool (decide (((a2).num) < 0)), .int .u64 ((lo ((a2).den - 1) : Nat) : Int), .string (bg ((a2).den - 1))] ∧ Below w.heap.size w w2) ⟨(((((((((((BX11.out).set 0 _).set 1 _).set 2 _).set 3 _).set 4 _).set 5 _).set 6 _).set 7 _).set 8 _).set 9 _).eq (by simp only [List.setIfInBounds_toArray, List.set_cons_zero, List.set_cons_succ]), ((((((((((HB.out.trans (HG.out.mono HB.out.size)).setCell (by show w.heap.size ≤ w.heap.size + 1; omega) _).setCell (by show w.heap.size ≤ w.heap.size + 1; omega) _).setCell (by show w.heap.size ≤ w.heap.size + 1; omega) _).setCell (by show w.heap.size ≤ w.heap.size + 1; omega) _).setCell (by show w.heap.size ≤ w.heap.size + 1; omega) _).setCell (by show w.heap.size ≤ w.heap.size + 1; omega) _).setCell (by show w.heap.size ≤ w.heap.size + 1; omega) _).setCell (by show w.heap.size ≤ w.heap.size + 1; omega) _).setCell (by show w.heap.size ≤ w.heap.size + 1; omega) _).setCell (by show w.heap.size ≤ w.heap.size + 1; omega) _⟩ ?_
  clear HB HG BX9 BX10 BX11 BX12
  rintro Wx7 ⟨bx11, HB⟩
  replace HB := Lib.hid HB
  refine wp_ret ?_
  try simp only [Exit.then, Exit.inBlock]
  have lx11 := bx11.cells
  have r0 := Gr.refl Wx7
  exact bodyPost_ret (v := .agg #[.int .u64 ((lo (Int.natAbs ((a1).num)) : Nat) : Int), .string (bg (Int.natAbs ((a1).num))), .bool (decide (((a1).num) < 0)), .int .u64 ((lo ((a1).den - 1) : Nat) : Int), .string (bg ((a1).den - 1)), .int .u64 ((lo (Int.natAbs ((a2).num)) : Nat) : Int), .string (bg (Int.natAbs ((a2).num))), .bool (decide (((a2).num) < 0)), .int .u64 ((lo ((a2).den - 1) : Nat) : Int), .string (bg ((a2).den - 1))]) (by simp [results, Try.results45, go_sem, lx11 _ r0]) rfl ⟨rfl, HB.out⟩

theorem pgreatest_any (a1 a2 b1 b2 m1 m2 : Rat) (g : Nat) (w : World) (bx9 : Bx w g 38 #[.int .u64 ((lo (Int.natAbs ((b1).num)) : Nat) : Int), .string (bg (Int.natAbs ((b1).num))), .bool (decide (((b1).num) < 0)), .int .u64 ((lo ((b1).den - 1) : Nat) : Int), .string (bg ((b1).den - 1)), .int .u64 ((lo (Int.natAbs ((b2).num)) : Nat) : Int), .string (bg (Int.natAbs ((b2).num))), .bool (decide (((b2).num) < 0)), .int .u64 ((lo ((b2).den - 1) : Nat) : Int), .string (bg ((b2).den - 1))]) (r : Bool) (h : plt a1 a2 b1 b2 = r) (hm1 : (if r then b1 else a1) = m1) (hm2 : (if r then b2 else a2) = m2) (hs_a1 : sz a1 ≤ 10000000000) (hs_a2 : sz a2 ≤ 10000000000) (hs_b1 : sz b1 ≤ 10000000000) (hs_b2 : sz b2 ≤ 10000000000) :
    Calls Try.prog 45 #[(Value.agg #[.int .u64 ((lo (Int.natAbs ((a1).num)) : Nat) : Int), .string (bg (Int.natAbs ((a1).num))), .bool (decide (((a1).num) < 0)), .int .u64 ((lo ((a1).den - 1) : Nat) : Int), .string (bg ((a1).den - 1)), .int .u64 ((lo (Int.natAbs ((a2).num)) : Nat) : Int), .string (bg (Int.natAbs ((a2).num))), .bool (decide (((a2).num) < 0)), .int .u64 ((lo ((a2).den - 1) : Nat) : Int), .string (bg ((a2).den - 1))]), .slice (some ⟨g, 0, none⟩) 1 1] w fun e w' => e = .returned (.agg #[.int .u64 ((lo (Int.natAbs ((m1).num)) : Nat) : Int), .string (bg (Int.natAbs ((m1).num))), .bool (decide (((m1).num) < 0)), .int .u64 ((lo ((m1).den - 1) : Nat) : Int), .string (bg ((m1).den - 1)), .int .u64 ((lo (Int.natAbs ((m2).num)) : Nat) : Int), .string (bg (Int.natAbs ((m2).num))), .bool (decide (((m2).num) < 0)), .int .u64 ((lo ((m2).den - 1) : Nat) : Int), .string (bg ((m2).den - 1))]) ∧ Below w.heap.size w w' := by
  subst hm1 hm2
  cases r
  · exact pgreatest_false a1 a2 b1 b2 g w bx9 (Lib.hid h) hs_a1 hs_a2 hs_b1 hs_b2
  · exact pgreatest_true a1 a2 b1 b2 g w bx9 (Lib.hid h) hs_a1 hs_a2 hs_b1 hs_b2

end Go.Proofs.Ytenpbnmmadbkdaa
