
/- ints.Parse. -/
import Derived.Test.YtflhpdlecpehkaaDoorSh
import Derived.Test.YtflhpdlecpehkaaDoorIntParse
import Derived.Test.YtflhpdlecpehkaaDoorPJ
namespace Go.Proofs.YtflhpdlecpehkaaDoor
open Go.RowKit
set_option linter.unusedSimpArgs false
set_option linter.unusedVariables false
attribute [local go_sem ↓] Go.wp_at_zero Go.wp_at_succ
attribute [local go_sem ↓] eq_nat eq_nat_zero eq_int
theorem cutm (s : ByteArray) (b : Bool) (w : World) (hb : ineg s = b) :
    Calls Tryd.prog 30 #[.string s, .string ⟨#[45]⟩] w fun e w' => e = .returned (.tuple #[.string (idig s), .bool b]) ∧ Below w.heap.size w w' := hb ▸ (cut_minus s w).mono fun e w' ⟨h, hw⟩ => ⟨h, by rw [hw]; exact Below.refl _ _⟩

theorem pnum_lt (s : ByteArray) (L : Nat) (hL : L = 4096) : pnum s < 10 ^ L := by
  unfold pnum
  split
  · rename_i h
    obtain ⟨h1, h2, h3, h4⟩ := h
    rw [pv_lv]
    have := lv_lt s.data.toList (fun c hc => by
      obtain ⟨i, hi, rfl⟩ := List.getElem_of_mem hc
      have hi' : i < s.size := by simpa using hi
      rw [← byt_list s i hi']
      exact (h4 i hi').2)
    refine Nat.lt_of_lt_of_le this (Nat.pow_le_pow_right (by decide) ?_)
    rw [Array.length_toList, hL]
    exact h1
  · exact Nat.pow_pos (by decide)
theorem ten_tp (k : Nat) : (10 : Nat) ^ (4 * k) = tp k := Nat.pow_mul 10 4 k
theorem ten_bp (k : Nat) : (10 : Nat) ^ (8 * k) ≤ bp k := by
  unfold bp
  rw [Nat.pow_mul]
  exact Nat.pow_le_pow_left (by decide) k
theorem pnum_tp (s : ByteArray) (k : Nat) (h : 4 * k = 4096) : pnum s < tp k := by rw [← ten_tp k]; exact pnum_lt s _ h
theorem pnum_bp (s : ByteArray) (k : Nat) (h : 8 * k = 4096) : pnum s < bp k := Nat.lt_of_lt_of_le (pnum_lt s _ h) (ten_bp k)

set_option maxRecDepth 20000 in
set_option maxHeartbeats 4000000 in
theorem ip_true_3 (s : ByteArray) (w : World) (hsz : (idig s).size ≤ 9223372036854775807) (HNG : Hid (ineg s = true)) (HPC : Hid (pcode (idig s) = 3)) (HPN : Hid (pnum (idig s) = 0)) :
    Calls Tryd.prog 9 #[.string s] w fun e w' => e = .returned (.tuple #[(.agg #[.int .u64 (lo (Int.natAbs (0))), .string (bg (Int.natAbs (0))), .bool (decide ((0) < 0))]), .int .i64 3]) ∧ Below w.heap.size w w' := by
  go_enter Tryd.func9, Tryd.ntmps9
  refine sK fun K hK => ?_
  refine wp_region_lit ?_
  go_wp2
  refine hK.out _ _ ?_; clear hK K
  show Code.wp _ _ _ _ _
  refine forgetW (fun w2 => Bx w2 (w.heap.size) 29 #[.int .u64 0, .string ⟨#[]⟩, .bool false] ∧ Below w.heap.size w w2) ⟨Bx.at rfl, (Below.refl _ _).alloc (Nat.le_refl _) _⟩ ?_
  rintro Wx ⟨bx0, HB⟩
  replace HB := Lib.hid HB
  have BX0 := Lib.hid bx0
  clear bx0
  refine sK fun K hK => ?_
  refine wp_region_seqplan 7 [(true, 0), (true, 1), (true, 2), (true, 3), (true, 4), (true, 5), (true, 6)] (by rfl) (by simp) (fun T hT => ?_)
  refine wpPlan_takeL (v := ?_) rfl (by rfl) (fun w' hw => ?_) ?_; rotate_left; go_simp; with_reducible rfl; simp only [Act.put, rA, rB, rC]
  refine wpPlan_callL rfl (by rfl) Tryd.call30 (fun w' hw => cutm s true _ HNG.out) (by rfl) ?_
  simp only [Act.put, rA, rB, rC]
  iterate 5 (refine wpPlan_takeL (v := ?_) rfl (by rfl) (fun w' hw => ?_) ?_; rotate_left; go_simp; with_reducible rfl; simp only [Act.put, rA, rB, rC])
  refine wpPlan_nil (hT.out _ _ ?_); clear hT T
  intro vw1 hg
  simp only [puts, Act.put, rA, rB, rC, rD, rE, ↓reduceIte, Nat.reduceEqDiff]
  have HG := Lib.hid (hg)
  clear hg
  replace BX0 := bG BX0 HG
  have r0 := Gr.refl vw1
  go_wp2
  refine hK.out _ _ ?_; clear hK K
  show Code.wp _ _ _ _ _
  clear r0
  refine forgetW (fun w2 => Bx w2 (w.heap.size) 29 #[.int .u64 0, .string ⟨#[]⟩, .bool false] ∧ Below w.heap.size w w2) ⟨BX0.out, HB.out.trans (HG.out.mono HB.out.size)⟩ ?_
  clear HB HG BX0
  rintro Wx1 ⟨bx0, HB⟩
  replace HB := Lib.hid HB
  have BX0 := Lib.hid bx0
  clear bx0
  refine sK fun K hK => ?_
  refine wp_region_seqplan 5 [(true, 0), (true, 1), (true, 2), (true, 3), (true, 4)] (by rfl) (by simp) (fun T hT => ?_)
  refine wpPlan_takeL (v := ?_) rfl (by rfl) (fun w' hw => ?_) ?_; rotate_left; go_simp; with_reducible rfl; simp only [Act.put, rA, rB, rC]
  refine wpPlan_callL rfl (by rfl) Tryd.call31 (fun w' hw => nzparse (idig s) 0 3 _ HPN.out HPC.out (by omega)) (by rfl) ?_
  simp only [Act.put, rA, rB, rC]
  iterate 3 (refine wpPlan_takeL (v := ?_) rfl (by rfl) (fun w' hw => ?_) ?_; rotate_left; go_simp; with_reducible rfl; simp only [Act.put, rA, rB, rC])
  refine wpPlan_nil (hT.out _ _ ?_); clear hT T
  intro vw2 hg
  simp only [puts, Act.put, rA, rB, rC, rD, rE, ↓reduceIte, Nat.reduceEqDiff]
  have HG := Lib.hid (hg)
  clear hg
  replace BX0 := bG BX0 HG
  have r0 := Gr.refl vw2
  go_wp2
  refine hK.out _ _ ?_; clear hK K
  show Code.wp _ _ _ _ _
  clear r0
  have hsz : w.heap.size ≤ vw2.heap.size := Nat.le_trans HB.out.size HG.out.size
  have mx0 : w.heap.size < vw2.heap.size := BX0.out.lt
  refine forgetW (fun w2 => Bx w2 (w.heap.size) 29 #[.int .u64 0, .string ⟨#[]⟩, .bool false] ∧ NX w2 (vw2.heap.size) (0) ∧ Below w.heap.size w w2) ⟨(BX0.out).alloc _, (Bx.at (by simp) : Bx _ (vw2.heap.size) _ _), (HB.out.trans (HG.out.mono HB.out.size)).alloc (by first | omega | (simp; omega)) _⟩ ?_
  clear HB HG BX0
  rintro Wx2 ⟨bx0, bx1, HB⟩
  replace HB := Lib.hid HB
  have yx1 : w.heap.size ≤ vw2.heap.size := by omega
  have qx0_1 : w.heap.size < vw2.heap.size := by omega
  generalize hx1 : vw2.heap.size = gx1 at *
  clear hx1
  clear hsz mx0
  have HZ1 : Hid ((if true then -((0 : Nat) : Int) else ((0 : Nat) : Int)) = 0) := Lib.hid (by first | rfl | omega | (simp; done) | grind)
  have su1 : wl (Int.natAbs (0)) ≤ 0 := by have e := HZ1.out; first | omega | (rw [← e]; split <;> simp <;> omega) | exact wl_le.2 (by decide +kernel)
  have lx1 := bx1.cells
  have BX0 := Lib.hid bx0
  have BX1 := Lib.hid bx1
  clear bx0 bx1
  refine sK fun K hK => ?_
  refine wp_region_seqplan 3 [(true, 0), (true, 1), (true, 2)] (by rfl) (by simp) (fun T hT => ?_)
  iterate 2 (refine wpPlan_takeL (v := ?_) rfl (by rfl) (fun w' hw => ?_) ?_; rotate_left; go_simp; with_reducible rfl; simp only [Act.put, rA, rB, rC])
  refine wpPlan_callL rfl (by rfl) Tryd.call25 (fun w' hw => from_any true (0) (0) _ HZ1.out) (by rfl) ?_
  simp only [Act.put, rA, rB, rC]
  refine wpPlan_nil (hT.out _ _ ?_); clear hT T
  intro vw3 hg
  simp only [puts, Act.put, rA, rB, rC, rD, rE, ↓reduceIte, Nat.reduceEqDiff]
  clear lx1
  have HG := Lib.hid (hg)
  clear hg
  replace BX0 := bG BX0 HG
  replace BX1 := bG BX1 HG
  have r0 := Gr.refl vw3
  go_wp2
  refine hK.out _ _ ?_; clear hK K
  show Code.wp _ _ _ _ _
  clear r0
  have hsz : w.heap.size ≤ vw3.heap.size := Nat.le_trans HB.out.size HG.out.size
  have mx0 : w.heap.size < vw3.heap.size := BX0.out.lt
  have mx1 : gx1 < vw3.heap.size := BX1.out.lt
  refine forgetW (fun w2 => Bx w2 (w.heap.size) 29 #[.int .u64 0, .string ⟨#[]⟩, .bool false] ∧ Bx w2 (vw3.heap.size) 29 #[.int .u64 (lo (Int.natAbs (0))), .string (bg (Int.natAbs (0))), .bool (decide ((0) < 0))] ∧ Below w.heap.size w w2) ⟨(BX0.out).alloc _, (Bx.at (by simp) : Bx _ (vw3.heap.size) _ _), (HB.out.trans (HG.out.mono HB.out.size)).alloc (by first | omega | (simp; omega)) _⟩ ?_
  clear HB HG BX0 BX1
  rintro Wx3 ⟨bx0, bx2, HB⟩
  replace HB := Lib.hid HB
  have yx2 : w.heap.size ≤ vw3.heap.size := by omega
  have qx0_2 : w.heap.size < vw3.heap.size := by omega
  have qx1_2 : gx1 < vw3.heap.size := by omega
  generalize hx2 : vw3.heap.size = gx2 at *
  clear hx2
  clear hsz mx0 mx1
  refine wp_seq ?_
  refine wp_block ?_
  have BX0 := Lib.hid bx0
  have BX2 := Lib.hid bx2
  clear bx0 bx2
  refine sK fun K hK => ?_
  refine wp_region_seqplan 3 [(true, 0), (true, 1), (true, 2)] (by rfl) (by simp) (fun T hT => ?_)
  iterate 3 (refine wpPlan_takeL (v := ?_) rfl (by rfl) (fun w' hw => ?_) ?_; rotate_left; go_simp; with_reducible rfl; simp only [Act.put, rA, rB, rC])
  refine wpPlan_nil (hT.out _ _ ?_); clear hT T
  intro vw4 hg
  simp only [puts, Act.put, rA, rB, rC, rD, rE, ↓reduceIte, Nat.reduceEqDiff]
  have HG := Lib.hid (hg)
  clear hg
  replace BX0 := bG BX0 HG
  replace BX2 := bG BX2 HG
  have r0 := Gr.refl vw4
  go_wp2
  refine hK.out _ _ ?_; clear hK K
  show Code.wp _ _ _ _ _
  clear r0
  refine forgetW (fun w2 => Bx w2 (w.heap.size) 29 #[.int .u64 0, .string ⟨#[]⟩, .bool false] ∧ Bx w2 gx2 29 #[.int .u64 (lo (Int.natAbs (0))), .string (bg (Int.natAbs (0))), .bool (decide ((0) < 0))] ∧ Below w.heap.size w w2) ⟨BX0.out, BX2.out, HB.out.trans (HG.out.mono HB.out.size)⟩ ?_
  clear HB HG BX0 BX2
  rintro Wx4 ⟨bx0, bx2, HB⟩
  replace HB := Lib.hid HB
  refine wp_cond_true (by rfl) ?_
  have BX0 := Lib.hid bx0
  have BX2 := Lib.hid bx2
  clear bx0 bx2
  refine sK fun K hK => ?_
  refine wp_region_seqplan 2 [(true, 0), (true, 1)] (by rfl) (by simp) (fun T hT => ?_)
  iterate 2 (refine wpPlan_takeL (v := ?_) rfl (by rfl) (fun w' hw => ?_) ?_; rotate_left; go_simp; with_reducible rfl; simp only [Act.put, rA, rB, rC])
  refine wpPlan_nil (hT.out _ _ ?_); clear hT T
  intro vw5 hg
  simp only [puts, Act.put, rA, rB, rC, rD, rE, ↓reduceIte, Nat.reduceEqDiff]
  have HG := Lib.hid (hg)
  clear hg
  replace BX0 := bG BX0 HG
  replace BX2 := bG BX2 HG
  have lx0 := BX0.out.cells; have fx0 := BX0.out.free
  have r0 := Gr.refl vw5
  go_wp2
  refine hK.out _ _ ?_; clear hK K
  show Code.wp _ _ _ _ _
  clear lx0 fx0
  clear r0
  refine forgetW (fun w2 => Bx w2 (w.heap.size) 29 #[.int .u64 0, .string ⟨#[]⟩, .bool false] ∧ Bx w2 gx2 29 #[.int .u64 (lo (Int.natAbs (0))), .string (bg (Int.natAbs (0))), .bool (decide ((0) < 0))] ∧ Below w.heap.size w w2) ⟨((((BX0.out).set 0 _).set 1 _).set 2 _).eq (by simp only [rA, rB, rC]), so3 (BX2.out) (by show gx2 ≠ w.heap.size; omega), sc3 (HB.out.trans (HG.out.mono HB.out.size)) (by show w.heap.size ≤ w.heap.size; omega)⟩ ?_
  clear HB HG BX0 BX2
  rintro Wx5 ⟨bx0, bx2, HB⟩
  replace HB := Lib.hid HB
  refine wp_ret ?_
  try simp only [Exit.then, Exit.inBlock]
  have lx0 := bx0.cells
  have r0 := Gr.refl Wx5
  exact bodyPost_ret (v := .tuple #[(.agg #[.int .u64 0, .string ⟨#[]⟩, .bool false]), .int .i64 3]) (by simp [results, Tryd.results9, go_sem, lx0 _ r0]) rfl ⟨rfl, HB.out⟩

set_option maxRecDepth 20000 in
set_option maxHeartbeats 4000000 in
theorem ip_true_4 (s : ByteArray) (w : World) (hsz : (idig s).size ≤ 9223372036854775807) (HNG : Hid (ineg s = true)) (HPC : Hid (pcode (idig s) = 4)) (HPN : Hid (pnum (idig s) = 0)) :
    Calls Tryd.prog 9 #[.string s] w fun e w' => e = .returned (.tuple #[(.agg #[.int .u64 (lo (Int.natAbs (0))), .string (bg (Int.natAbs (0))), .bool (decide ((0) < 0))]), .int .i64 4]) ∧ Below w.heap.size w w' := by
  go_enter Tryd.func9, Tryd.ntmps9
  refine sK fun K hK => ?_
  refine wp_region_lit ?_
  go_wp2
  refine hK.out _ _ ?_; clear hK K
  show Code.wp _ _ _ _ _
  refine forgetW (fun w2 => Bx w2 (w.heap.size) 29 #[.int .u64 0, .string ⟨#[]⟩, .bool false] ∧ Below w.heap.size w w2) ⟨Bx.at rfl, (Below.refl _ _).alloc (Nat.le_refl _) _⟩ ?_
  rintro Wx ⟨bx0, HB⟩
  replace HB := Lib.hid HB
  have BX0 := Lib.hid bx0
  clear bx0
  refine sK fun K hK => ?_
  refine wp_region_seqplan 7 [(true, 0), (true, 1), (true, 2), (true, 3), (true, 4), (true, 5), (true, 6)] (by rfl) (by simp) (fun T hT => ?_)
  refine wpPlan_takeL (v := ?_) rfl (by rfl) (fun w' hw => ?_) ?_; rotate_left; go_simp; with_reducible rfl; simp only [Act.put, rA, rB, rC]
  refine wpPlan_callL rfl (by rfl) Tryd.call30 (fun w' hw => cutm s true _ HNG.out) (by rfl) ?_
  simp only [Act.put, rA, rB, rC]
  iterate 5 (refine wpPlan_takeL (v := ?_) rfl (by rfl) (fun w' hw => ?_) ?_; rotate_left; go_simp; with_reducible rfl; simp only [Act.put, rA, rB, rC])
  refine wpPlan_nil (hT.out _ _ ?_); clear hT T
  intro vw1 hg
  simp only [puts, Act.put, rA, rB, rC, rD, rE, ↓reduceIte, Nat.reduceEqDiff]
  have HG := Lib.hid (hg)
  clear hg
  replace BX0 := bG BX0 HG
  have r0 := Gr.refl vw1
  go_wp2
  refine hK.out _ _ ?_; clear hK K
  show Code.wp _ _ _ _ _
  clear r0
  refine forgetW (fun w2 => Bx w2 (w.heap.size) 29 #[.int .u64 0, .string ⟨#[]⟩, .bool false] ∧ Below w.heap.size w w2) ⟨BX0.out, HB.out.trans (HG.out.mono HB.out.size)⟩ ?_
  clear HB HG BX0
  rintro Wx1 ⟨bx0, HB⟩
  replace HB := Lib.hid HB
  have BX0 := Lib.hid bx0
  clear bx0
  refine sK fun K hK => ?_
  refine wp_region_seqplan 5 [(true, 0), (true, 1), (true, 2), (true, 3), (true, 4)] (by rfl) (by simp) (fun T hT => ?_)
  refine wpPlan_takeL (v := ?_) rfl (by rfl) (fun w' hw => ?_) ?_; rotate_left; go_simp; with_reducible rfl; simp only [Act.put, rA, rB, rC]
  refine wpPlan_callL rfl (by rfl) Tryd.call31 (fun w' hw => nzparse (idig s) 0 4 _ HPN.out HPC.out (by omega)) (by rfl) ?_
  simp only [Act.put, rA, rB, rC]
  iterate 3 (refine wpPlan_takeL (v := ?_) rfl (by rfl) (fun w' hw => ?_) ?_; rotate_left; go_simp; with_reducible rfl; simp only [Act.put, rA, rB, rC])
  refine wpPlan_nil (hT.out _ _ ?_); clear hT T
  intro vw2 hg
  simp only [puts, Act.put, rA, rB, rC, rD, rE, ↓reduceIte, Nat.reduceEqDiff]
  have HG := Lib.hid (hg)
  clear hg
  replace BX0 := bG BX0 HG
  have r0 := Gr.refl vw2
  go_wp2
  refine hK.out _ _ ?_; clear hK K
  show Code.wp _ _ _ _ _
  clear r0
  have hsz : w.heap.size ≤ vw2.heap.size := Nat.le_trans HB.out.size HG.out.size
  have mx0 : w.heap.size < vw2.heap.size := BX0.out.lt
  refine forgetW (fun w2 => Bx w2 (w.heap.size) 29 #[.int .u64 0, .string ⟨#[]⟩, .bool false] ∧ NX w2 (vw2.heap.size) (0) ∧ Below w.heap.size w w2) ⟨(BX0.out).alloc _, (Bx.at (by simp) : Bx _ (vw2.heap.size) _ _), (HB.out.trans (HG.out.mono HB.out.size)).alloc (by first | omega | (simp; omega)) _⟩ ?_
  clear HB HG BX0
  rintro Wx2 ⟨bx0, bx1, HB⟩
  replace HB := Lib.hid HB
  have yx1 : w.heap.size ≤ vw2.heap.size := by omega
  have qx0_1 : w.heap.size < vw2.heap.size := by omega
  generalize hx1 : vw2.heap.size = gx1 at *
  clear hx1
  clear hsz mx0
  have HZ1 : Hid ((if true then -((0 : Nat) : Int) else ((0 : Nat) : Int)) = 0) := Lib.hid (by first | rfl | omega | (simp; done) | grind)
  have su1 : wl (Int.natAbs (0)) ≤ 0 := by have e := HZ1.out; first | omega | (rw [← e]; split <;> simp <;> omega) | exact wl_le.2 (by decide +kernel)
  have lx1 := bx1.cells
  have BX0 := Lib.hid bx0
  have BX1 := Lib.hid bx1
  clear bx0 bx1
  refine sK fun K hK => ?_
  refine wp_region_seqplan 3 [(true, 0), (true, 1), (true, 2)] (by rfl) (by simp) (fun T hT => ?_)
  iterate 2 (refine wpPlan_takeL (v := ?_) rfl (by rfl) (fun w' hw => ?_) ?_; rotate_left; go_simp; with_reducible rfl; simp only [Act.put, rA, rB, rC])
  refine wpPlan_callL rfl (by rfl) Tryd.call25 (fun w' hw => from_any true (0) (0) _ HZ1.out) (by rfl) ?_
  simp only [Act.put, rA, rB, rC]
  refine wpPlan_nil (hT.out _ _ ?_); clear hT T
  intro vw3 hg
  simp only [puts, Act.put, rA, rB, rC, rD, rE, ↓reduceIte, Nat.reduceEqDiff]
  clear lx1
  have HG := Lib.hid (hg)
  clear hg
  replace BX0 := bG BX0 HG
  replace BX1 := bG BX1 HG
  have r0 := Gr.refl vw3
  go_wp2
  refine hK.out _ _ ?_; clear hK K
  show Code.wp _ _ _ _ _
  clear r0
  have hsz : w.heap.size ≤ vw3.heap.size := Nat.le_trans HB.out.size HG.out.size
  have mx0 : w.heap.size < vw3.heap.size := BX0.out.lt
  have mx1 : gx1 < vw3.heap.size := BX1.out.lt
  refine forgetW (fun w2 => Bx w2 (w.heap.size) 29 #[.int .u64 0, .string ⟨#[]⟩, .bool false] ∧ Bx w2 (vw3.heap.size) 29 #[.int .u64 (lo (Int.natAbs (0))), .string (bg (Int.natAbs (0))), .bool (decide ((0) < 0))] ∧ Below w.heap.size w w2) ⟨(BX0.out).alloc _, (Bx.at (by simp) : Bx _ (vw3.heap.size) _ _), (HB.out.trans (HG.out.mono HB.out.size)).alloc (by first | omega | (simp; omega)) _⟩ ?_
  clear HB HG BX0 BX1
  rintro Wx3 ⟨bx0, bx2, HB⟩
  replace HB := Lib.hid HB
  have yx2 : w.heap.size ≤ vw3.heap.size := by omega
  have qx0_2 : w.heap.size < vw3.heap.size := by omega
  have qx1_2 : gx1 < vw3.heap.size := by omega
  generalize hx2 : vw3.heap.size = gx2 at *
  clear hx2
  clear hsz mx0 mx1
  refine wp_seq ?_
  refine wp_block ?_
  have BX0 := Lib.hid bx0
  have BX2 := Lib.hid bx2
  clear bx0 bx2
  refine sK fun K hK => ?_
  refine wp_region_seqplan 3 [(true, 0), (true, 1), (true, 2)] (by rfl) (by simp) (fun T hT => ?_)
  iterate 3 (refine wpPlan_takeL (v := ?_) rfl (by rfl) (fun w' hw => ?_) ?_; rotate_left; go_simp; with_reducible rfl; simp only [Act.put, rA, rB, rC])
  refine wpPlan_nil (hT.out _ _ ?_); clear hT T
  intro vw4 hg
  simp only [puts, Act.put, rA, rB, rC, rD, rE, ↓reduceIte, Nat.reduceEqDiff]
  have HG := Lib.hid (hg)
  clear hg
  replace BX0 := bG BX0 HG
  replace BX2 := bG BX2 HG
  have r0 := Gr.refl vw4
  go_wp2
  refine hK.out _ _ ?_; clear hK K
  show Code.wp _ _ _ _ _
  clear r0
  refine forgetW (fun w2 => Bx w2 (w.heap.size) 29 #[.int .u64 0, .string ⟨#[]⟩, .bool false] ∧ Bx w2 gx2 29 #[.int .u64 (lo (Int.natAbs (0))), .string (bg (Int.natAbs (0))), .bool (decide ((0) < 0))] ∧ Below w.heap.size w w2) ⟨BX0.out, BX2.out, HB.out.trans (HG.out.mono HB.out.size)⟩ ?_
  clear HB HG BX0 BX2
  rintro Wx4 ⟨bx0, bx2, HB⟩
  replace HB := Lib.hid HB
  refine wp_cond_true (by rfl) ?_
  have BX0 := Lib.hid bx0
  have BX2 := Lib.hid bx2
  clear bx0 bx2
  refine sK fun K hK => ?_
  refine wp_region_seqplan 2 [(true, 0), (true, 1)] (by rfl) (by simp) (fun T hT => ?_)
  iterate 2 (refine wpPlan_takeL (v := ?_) rfl (by rfl) (fun w' hw => ?_) ?_; rotate_left; go_simp; with_reducible rfl; simp only [Act.put, rA, rB, rC])
  refine wpPlan_nil (hT.out _ _ ?_); clear hT T
  intro vw5 hg
  simp only [puts, Act.put, rA, rB, rC, rD, rE, ↓reduceIte, Nat.reduceEqDiff]
  have HG := Lib.hid (hg)
  clear hg
  replace BX0 := bG BX0 HG
  replace BX2 := bG BX2 HG
  have lx0 := BX0.out.cells; have fx0 := BX0.out.free
  have r0 := Gr.refl vw5
  go_wp2
  refine hK.out _ _ ?_; clear hK K
  show Code.wp _ _ _ _ _
  clear lx0 fx0
  clear r0
  refine forgetW (fun w2 => Bx w2 (w.heap.size) 29 #[.int .u64 0, .string ⟨#[]⟩, .bool false] ∧ Bx w2 gx2 29 #[.int .u64 (lo (Int.natAbs (0))), .string (bg (Int.natAbs (0))), .bool (decide ((0) < 0))] ∧ Below w.heap.size w w2) ⟨((((BX0.out).set 0 _).set 1 _).set 2 _).eq (by simp only [rA, rB, rC]), so3 (BX2.out) (by show gx2 ≠ w.heap.size; omega), sc3 (HB.out.trans (HG.out.mono HB.out.size)) (by show w.heap.size ≤ w.heap.size; omega)⟩ ?_
  clear HB HG BX0 BX2
  rintro Wx5 ⟨bx0, bx2, HB⟩
  replace HB := Lib.hid HB
  refine wp_ret ?_
  try simp only [Exit.then, Exit.inBlock]
  have lx0 := bx0.cells
  have r0 := Gr.refl Wx5
  exact bodyPost_ret (v := .tuple #[(.agg #[.int .u64 0, .string ⟨#[]⟩, .bool false]), .int .i64 4]) (by simp [results, Tryd.results9, go_sem, lx0 _ r0]) rfl ⟨rfl, HB.out⟩

set_option maxRecDepth 20000 in
set_option maxHeartbeats 4000000 in
theorem ip_false_3 (s : ByteArray) (w : World) (hsz : (idig s).size ≤ 9223372036854775807) (HNG : Hid (ineg s = false)) (HPC : Hid (pcode (idig s) = 3)) (HPN : Hid (pnum (idig s) = 0)) :
    Calls Tryd.prog 9 #[.string s] w fun e w' => e = .returned (.tuple #[(.agg #[.int .u64 (lo (Int.natAbs (0))), .string (bg (Int.natAbs (0))), .bool (decide ((0) < 0))]), .int .i64 3]) ∧ Below w.heap.size w w' := by
  go_enter Tryd.func9, Tryd.ntmps9
  refine sK fun K hK => ?_
  refine wp_region_lit ?_
  go_wp2
  refine hK.out _ _ ?_; clear hK K
  show Code.wp _ _ _ _ _
  refine forgetW (fun w2 => Bx w2 (w.heap.size) 29 #[.int .u64 0, .string ⟨#[]⟩, .bool false] ∧ Below w.heap.size w w2) ⟨Bx.at rfl, (Below.refl _ _).alloc (Nat.le_refl _) _⟩ ?_
  rintro Wx ⟨bx0, HB⟩
  replace HB := Lib.hid HB
  have BX0 := Lib.hid bx0
  clear bx0
  refine sK fun K hK => ?_
  refine wp_region_seqplan 7 [(true, 0), (true, 1), (true, 2), (true, 3), (true, 4), (true, 5), (true, 6)] (by rfl) (by simp) (fun T hT => ?_)
  refine wpPlan_takeL (v := ?_) rfl (by rfl) (fun w' hw => ?_) ?_; rotate_left; go_simp; with_reducible rfl; simp only [Act.put, rA, rB, rC]
  refine wpPlan_callL rfl (by rfl) Tryd.call30 (fun w' hw => cutm s false _ HNG.out) (by rfl) ?_
  simp only [Act.put, rA, rB, rC]
  iterate 5 (refine wpPlan_takeL (v := ?_) rfl (by rfl) (fun w' hw => ?_) ?_; rotate_left; go_simp; with_reducible rfl; simp only [Act.put, rA, rB, rC])
  refine wpPlan_nil (hT.out _ _ ?_); clear hT T
  intro vw1 hg
  simp only [puts, Act.put, rA, rB, rC, rD, rE, ↓reduceIte, Nat.reduceEqDiff]
  have HG := Lib.hid (hg)
  clear hg
  replace BX0 := bG BX0 HG
  have r0 := Gr.refl vw1
  go_wp2
  refine hK.out _ _ ?_; clear hK K
  show Code.wp _ _ _ _ _
  clear r0
  refine forgetW (fun w2 => Bx w2 (w.heap.size) 29 #[.int .u64 0, .string ⟨#[]⟩, .bool false] ∧ Below w.heap.size w w2) ⟨BX0.out, HB.out.trans (HG.out.mono HB.out.size)⟩ ?_
  clear HB HG BX0
  rintro Wx1 ⟨bx0, HB⟩
  replace HB := Lib.hid HB
  have BX0 := Lib.hid bx0
  clear bx0
  refine sK fun K hK => ?_
  refine wp_region_seqplan 5 [(true, 0), (true, 1), (true, 2), (true, 3), (true, 4)] (by rfl) (by simp) (fun T hT => ?_)
  refine wpPlan_takeL (v := ?_) rfl (by rfl) (fun w' hw => ?_) ?_; rotate_left; go_simp; with_reducible rfl; simp only [Act.put, rA, rB, rC]
  refine wpPlan_callL rfl (by rfl) Tryd.call31 (fun w' hw => nzparse (idig s) 0 3 _ HPN.out HPC.out (by omega)) (by rfl) ?_
  simp only [Act.put, rA, rB, rC]
  iterate 3 (refine wpPlan_takeL (v := ?_) rfl (by rfl) (fun w' hw => ?_) ?_; rotate_left; go_simp; with_reducible rfl; simp only [Act.put, rA, rB, rC])
  refine wpPlan_nil (hT.out _ _ ?_); clear hT T
  intro vw2 hg
  simp only [puts, Act.put, rA, rB, rC, rD, rE, ↓reduceIte, Nat.reduceEqDiff]
  have HG := Lib.hid (hg)
  clear hg
  replace BX0 := bG BX0 HG
  have r0 := Gr.refl vw2
  go_wp2
  refine hK.out _ _ ?_; clear hK K
  show Code.wp _ _ _ _ _
  clear r0
  have hsz : w.heap.size ≤ vw2.heap.size := Nat.le_trans HB.out.size HG.out.size
  have mx0 : w.heap.size < vw2.heap.size := BX0.out.lt
  refine forgetW (fun w2 => Bx w2 (w.heap.size) 29 #[.int .u64 0, .string ⟨#[]⟩, .bool false] ∧ NX w2 (vw2.heap.size) (0) ∧ Below w.heap.size w w2) ⟨(BX0.out).alloc _, (Bx.at (by simp) : Bx _ (vw2.heap.size) _ _), (HB.out.trans (HG.out.mono HB.out.size)).alloc (by first | omega | (simp; omega)) _⟩ ?_
  clear HB HG BX0
  rintro Wx2 ⟨bx0, bx1, HB⟩
  replace HB := Lib.hid HB
  have yx1 : w.heap.size ≤ vw2.heap.size := by omega
  have qx0_1 : w.heap.size < vw2.heap.size := by omega
  generalize hx1 : vw2.heap.size = gx1 at *
  clear hx1
  clear hsz mx0
  have HZ1 : Hid ((if false then -((0 : Nat) : Int) else ((0 : Nat) : Int)) = 0) := Lib.hid (by first | rfl | omega | (simp; done) | grind)
  have su1 : wl (Int.natAbs (0)) ≤ 0 := by have e := HZ1.out; first | omega | (rw [← e]; split <;> simp <;> omega) | exact wl_le.2 (by decide +kernel)
  have lx1 := bx1.cells
  have BX0 := Lib.hid bx0
  have BX1 := Lib.hid bx1
  clear bx0 bx1
  refine sK fun K hK => ?_
  refine wp_region_seqplan 3 [(true, 0), (true, 1), (true, 2)] (by rfl) (by simp) (fun T hT => ?_)
  iterate 2 (refine wpPlan_takeL (v := ?_) rfl (by rfl) (fun w' hw => ?_) ?_; rotate_left; go_simp; with_reducible rfl; simp only [Act.put, rA, rB, rC])
  refine wpPlan_callL rfl (by rfl) Tryd.call25 (fun w' hw => from_any false (0) (0) _ HZ1.out) (by rfl) ?_
  simp only [Act.put, rA, rB, rC]
  refine wpPlan_nil (hT.out _ _ ?_); clear hT T
  intro vw3 hg
  simp only [puts, Act.put, rA, rB, rC, rD, rE, ↓reduceIte, Nat.reduceEqDiff]
  clear lx1
  have HG := Lib.hid (hg)
  clear hg
  replace BX0 := bG BX0 HG
  replace BX1 := bG BX1 HG
  have r0 := Gr.refl vw3
  go_wp2
  refine hK.out _ _ ?_; clear hK K
  show Code.wp _ _ _ _ _
  clear r0
  have hsz : w.heap.size ≤ vw3.heap.size := Nat.le_trans HB.out.size HG.out.size
  have mx0 : w.heap.size < vw3.heap.size := BX0.out.lt
  have mx1 : gx1 < vw3.heap.size := BX1.out.lt
  refine forgetW (fun w2 => Bx w2 (w.heap.size) 29 #[.int .u64 0, .string ⟨#[]⟩, .bool false] ∧ Bx w2 (vw3.heap.size) 29 #[.int .u64 (lo (Int.natAbs (0))), .string (bg (Int.natAbs (0))), .bool (decide ((0) < 0))] ∧ Below w.heap.size w w2) ⟨(BX0.out).alloc _, (Bx.at (by simp) : Bx _ (vw3.heap.size) _ _), (HB.out.trans (HG.out.mono HB.out.size)).alloc (by first | omega | (simp; omega)) _⟩ ?_
  clear HB HG BX0 BX1
  rintro Wx3 ⟨bx0, bx2, HB⟩
  replace HB := Lib.hid HB
  have yx2 : w.heap.size ≤ vw3.heap.size := by omega
  have qx0_2 : w.heap.size < vw3.heap.size := by omega
  have qx1_2 : gx1 < vw3.heap.size := by omega
  generalize hx2 : vw3.heap.size = gx2 at *
  clear hx2
  clear hsz mx0 mx1
  refine wp_seq ?_
  refine wp_block ?_
  have BX0 := Lib.hid bx0
  have BX2 := Lib.hid bx2
  clear bx0 bx2
  refine sK fun K hK => ?_
  refine wp_region_seqplan 3 [(true, 0), (true, 1), (true, 2)] (by rfl) (by simp) (fun T hT => ?_)
  iterate 3 (refine wpPlan_takeL (v := ?_) rfl (by rfl) (fun w' hw => ?_) ?_; rotate_left; go_simp; with_reducible rfl; simp only [Act.put, rA, rB, rC])
  refine wpPlan_nil (hT.out _ _ ?_); clear hT T
  intro vw4 hg
  simp only [puts, Act.put, rA, rB, rC, rD, rE, ↓reduceIte, Nat.reduceEqDiff]
  have HG := Lib.hid (hg)
  clear hg
  replace BX0 := bG BX0 HG
  replace BX2 := bG BX2 HG
  have r0 := Gr.refl vw4
  go_wp2
  refine hK.out _ _ ?_; clear hK K
  show Code.wp _ _ _ _ _
  clear r0
  refine forgetW (fun w2 => Bx w2 (w.heap.size) 29 #[.int .u64 0, .string ⟨#[]⟩, .bool false] ∧ Bx w2 gx2 29 #[.int .u64 (lo (Int.natAbs (0))), .string (bg (Int.natAbs (0))), .bool (decide ((0) < 0))] ∧ Below w.heap.size w w2) ⟨BX0.out, BX2.out, HB.out.trans (HG.out.mono HB.out.size)⟩ ?_
  clear HB HG BX0 BX2
  rintro Wx4 ⟨bx0, bx2, HB⟩
  replace HB := Lib.hid HB
  refine wp_cond_true (by rfl) ?_
  have BX0 := Lib.hid bx0
  have BX2 := Lib.hid bx2
  clear bx0 bx2
  refine sK fun K hK => ?_
  refine wp_region_seqplan 2 [(true, 0), (true, 1)] (by rfl) (by simp) (fun T hT => ?_)
  iterate 2 (refine wpPlan_takeL (v := ?_) rfl (by rfl) (fun w' hw => ?_) ?_; rotate_left; go_simp; with_reducible rfl; simp only [Act.put, rA, rB, rC])
  refine wpPlan_nil (hT.out _ _ ?_); clear hT T
  intro vw5 hg
  simp only [puts, Act.put, rA, rB, rC, rD, rE, ↓reduceIte, Nat.reduceEqDiff]
  have HG := Lib.hid (hg)
  clear hg
  replace BX0 := bG BX0 HG
  replace BX2 := bG BX2 HG
  have lx0 := BX0.out.cells; have fx0 := BX0.out.free
  have r0 := Gr.refl vw5
  go_wp2
  refine hK.out _ _ ?_; clear hK K
  show Code.wp _ _ _ _ _
  clear lx0 fx0
  clear r0
  refine forgetW (fun w2 => Bx w2 (w.heap.size) 29 #[.int .u64 0, .string ⟨#[]⟩, .bool false] ∧ Bx w2 gx2 29 #[.int .u64 (lo (Int.natAbs (0))), .string (bg (Int.natAbs (0))), .bool (decide ((0) < 0))] ∧ Below w.heap.size w w2) ⟨((((BX0.out).set 0 _).set 1 _).set 2 _).eq (by simp only [rA, rB, rC]), so3 (BX2.out) (by show gx2 ≠ w.heap.size; omega), sc3 (HB.out.trans (HG.out.mono HB.out.size)) (by show w.heap.size ≤ w.heap.size; omega)⟩ ?_
  clear HB HG BX0 BX2
  rintro Wx5 ⟨bx0, bx2, HB⟩
  replace HB := Lib.hid HB
  refine wp_ret ?_
  try simp only [Exit.then, Exit.inBlock]
  have lx0 := bx0.cells
  have r0 := Gr.refl Wx5
  exact bodyPost_ret (v := .tuple #[(.agg #[.int .u64 0, .string ⟨#[]⟩, .bool false]), .int .i64 3]) (by simp [results, Tryd.results9, go_sem, lx0 _ r0]) rfl ⟨rfl, HB.out⟩

set_option maxRecDepth 20000 in
set_option maxHeartbeats 4000000 in
theorem ip_false_4 (s : ByteArray) (w : World) (hsz : (idig s).size ≤ 9223372036854775807) (HNG : Hid (ineg s = false)) (HPC : Hid (pcode (idig s) = 4)) (HPN : Hid (pnum (idig s) = 0)) :
    Calls Tryd.prog 9 #[.string s] w fun e w' => e = .returned (.tuple #[(.agg #[.int .u64 (lo (Int.natAbs (0))), .string (bg (Int.natAbs (0))), .bool (decide ((0) < 0))]), .int .i64 4]) ∧ Below w.heap.size w w' := by
  go_enter Tryd.func9, Tryd.ntmps9
  refine sK fun K hK => ?_
  refine wp_region_lit ?_
  go_wp2
  refine hK.out _ _ ?_; clear hK K
  show Code.wp _ _ _ _ _
  refine forgetW (fun w2 => Bx w2 (w.heap.size) 29 #[.int .u64 0, .string ⟨#[]⟩, .bool false] ∧ Below w.heap.size w w2) ⟨Bx.at rfl, (Below.refl _ _).alloc (Nat.le_refl _) _⟩ ?_
  rintro Wx ⟨bx0, HB⟩
  replace HB := Lib.hid HB
  have BX0 := Lib.hid bx0
  clear bx0
  refine sK fun K hK => ?_
  refine wp_region_seqplan 7 [(true, 0), (true, 1), (true, 2), (true, 3), (true, 4), (true, 5), (true, 6)] (by rfl) (by simp) (fun T hT => ?_)
  refine wpPlan_takeL (v := ?_) rfl (by rfl) (fun w' hw => ?_) ?_; rotate_left; go_simp; with_reducible rfl; simp only [Act.put, rA, rB, rC]
  refine wpPlan_callL rfl (by rfl) Tryd.call30 (fun w' hw => cutm s false _ HNG.out) (by rfl) ?_
  simp only [Act.put, rA, rB, rC]
  iterate 5 (refine wpPlan_takeL (v := ?_) rfl (by rfl) (fun w' hw => ?_) ?_; rotate_left; go_simp; with_reducible rfl; simp only [Act.put, rA, rB, rC])
  refine wpPlan_nil (hT.out _ _ ?_); clear hT T
  intro vw1 hg
  simp only [puts, Act.put, rA, rB, rC, rD, rE, ↓reduceIte, Nat.reduceEqDiff]
  have HG := Lib.hid (hg)
  clear hg
  replace BX0 := bG BX0 HG
  have r0 := Gr.refl vw1
  go_wp2
  refine hK.out _ _ ?_; clear hK K
  show Code.wp _ _ _ _ _
  clear r0
  refine forgetW (fun w2 => Bx w2 (w.heap.size) 29 #[.int .u64 0, .string ⟨#[]⟩, .bool false] ∧ Below w.heap.size w w2) ⟨BX0.out, HB.out.trans (HG.out.mono HB.out.size)⟩ ?_
  clear HB HG BX0
  rintro Wx1 ⟨bx0, HB⟩
  replace HB := Lib.hid HB
  have BX0 := Lib.hid bx0
  clear bx0
  refine sK fun K hK => ?_
  refine wp_region_seqplan 5 [(true, 0), (true, 1), (true, 2), (true, 3), (true, 4)] (by rfl) (by simp) (fun T hT => ?_)
  refine wpPlan_takeL (v := ?_) rfl (by rfl) (fun w' hw => ?_) ?_; rotate_left; go_simp; with_reducible rfl; simp only [Act.put, rA, rB, rC]
  refine wpPlan_callL rfl (by rfl) Tryd.call31 (fun w' hw => nzparse (idig s) 0 4 _ HPN.out HPC.out (by omega)) (by rfl) ?_
  simp only [Act.put, rA, rB, rC]
  iterate 3 (refine wpPlan_takeL (v := ?_) rfl (by rfl) (fun w' hw => ?_) ?_; rotate_left; go_simp; with_reducible rfl; simp only [Act.put, rA, rB, rC])
  refine wpPlan_nil (hT.out _ _ ?_); clear hT T
  intro vw2 hg
  simp only [puts, Act.put, rA, rB, rC, rD, rE, ↓reduceIte, Nat.reduceEqDiff]
  have HG := Lib.hid (hg)
  clear hg
  replace BX0 := bG BX0 HG
  have r0 := Gr.refl vw2
  go_wp2
  refine hK.out _ _ ?_; clear hK K
  show Code.wp _ _ _ _ _
  clear r0
  have hsz : w.heap.size ≤ vw2.heap.size := Nat.le_trans HB.out.size HG.out.size
  have mx0 : w.heap.size < vw2.heap.size := BX0.out.lt
  refine forgetW (fun w2 => Bx w2 (w.heap.size) 29 #[.int .u64 0, .string ⟨#[]⟩, .bool false] ∧ NX w2 (vw2.heap.size) (0) ∧ Below w.heap.size w w2) ⟨(BX0.out).alloc _, (Bx.at (by simp) : Bx _ (vw2.heap.size) _ _), (HB.out.trans (HG.out.mono HB.out.size)).alloc (by first | omega | (simp; omega)) _⟩ ?_
  clear HB HG BX0
  rintro Wx2 ⟨bx0, bx1, HB⟩
  replace HB := Lib.hid HB
  have yx1 : w.heap.size ≤ vw2.heap.size := by omega
  have qx0_1 : w.heap.size < vw2.heap.size := by omega
  generalize hx1 : vw2.heap.size = gx1 at *
  clear hx1
  clear hsz mx0
  have HZ1 : Hid ((if false then -((0 : Nat) : Int) else ((0 : Nat) : Int)) = 0) := Lib.hid (by first | rfl | omega | (simp; done) | grind)
  have su1 : wl (Int.natAbs (0)) ≤ 0 := by have e := HZ1.out; first | omega | (rw [← e]; split <;> simp <;> omega) | exact wl_le.2 (by decide +kernel)
  have lx1 := bx1.cells
  have BX0 := Lib.hid bx0
  have BX1 := Lib.hid bx1
  clear bx0 bx1
  refine sK fun K hK => ?_
  refine wp_region_seqplan 3 [(true, 0), (true, 1), (true, 2)] (by rfl) (by simp) (fun T hT => ?_)
  iterate 2 (refine wpPlan_takeL (v := ?_) rfl (by rfl) (fun w' hw => ?_) ?_; rotate_left; go_simp; with_reducible rfl; simp only [Act.put, rA, rB, rC])
  refine wpPlan_callL rfl (by rfl) Tryd.call25 (fun w' hw => from_any false (0) (0) _ HZ1.out) (by rfl) ?_
  simp only [Act.put, rA, rB, rC]
  refine wpPlan_nil (hT.out _ _ ?_); clear hT T
  intro vw3 hg
  simp only [puts, Act.put, rA, rB, rC, rD, rE, ↓reduceIte, Nat.reduceEqDiff]
  clear lx1
  have HG := Lib.hid (hg)
  clear hg
  replace BX0 := bG BX0 HG
  replace BX1 := bG BX1 HG
  have r0 := Gr.refl vw3
  go_wp2
  refine hK.out _ _ ?_; clear hK K
  show Code.wp _ _ _ _ _
  clear r0
  have hsz : w.heap.size ≤ vw3.heap.size := Nat.le_trans HB.out.size HG.out.size
  have mx0 : w.heap.size < vw3.heap.size := BX0.out.lt
  have mx1 : gx1 < vw3.heap.size := BX1.out.lt
  refine forgetW (fun w2 => Bx w2 (w.heap.size) 29 #[.int .u64 0, .string ⟨#[]⟩, .bool false] ∧ Bx w2 (vw3.heap.size) 29 #[.int .u64 (lo (Int.natAbs (0))), .string (bg (Int.natAbs (0))), .bool (decide ((0) < 0))] ∧ Below w.heap.size w w2) ⟨(BX0.out).alloc _, (Bx.at (by simp) : Bx _ (vw3.heap.size) _ _), (HB.out.trans (HG.out.mono HB.out.size)).alloc (by first | omega | (simp; omega)) _⟩ ?_
  clear HB HG BX0 BX1
  rintro Wx3 ⟨bx0, bx2, HB⟩
  replace HB := Lib.hid HB
  have yx2 : w.heap.size ≤ vw3.heap.size := by omega
  have qx0_2 : w.heap.size < vw3.heap.size := by omega
  have qx1_2 : gx1 < vw3.heap.size := by omega
  generalize hx2 : vw3.heap.size = gx2 at *
  clear hx2
  clear hsz mx0 mx1
  refine wp_seq ?_
  refine wp_block ?_
  have BX0 := Lib.hid bx0
  have BX2 := Lib.hid bx2
  clear bx0 bx2
  refine sK fun K hK => ?_
  refine wp_region_seqplan 3 [(true, 0), (true, 1), (true, 2)] (by rfl) (by simp) (fun T hT => ?_)
  iterate 3 (refine wpPlan_takeL (v := ?_) rfl (by rfl) (fun w' hw => ?_) ?_; rotate_left; go_simp; with_reducible rfl; simp only [Act.put, rA, rB, rC])
  refine wpPlan_nil (hT.out _ _ ?_); clear hT T
  intro vw4 hg
  simp only [puts, Act.put, rA, rB, rC, rD, rE, ↓reduceIte, Nat.reduceEqDiff]
  have HG := Lib.hid (hg)
  clear hg
  replace BX0 := bG BX0 HG
  replace BX2 := bG BX2 HG
  have r0 := Gr.refl vw4
  go_wp2
  refine hK.out _ _ ?_; clear hK K
  show Code.wp _ _ _ _ _
  clear r0
  refine forgetW (fun w2 => Bx w2 (w.heap.size) 29 #[.int .u64 0, .string ⟨#[]⟩, .bool false] ∧ Bx w2 gx2 29 #[.int .u64 (lo (Int.natAbs (0))), .string (bg (Int.natAbs (0))), .bool (decide ((0) < 0))] ∧ Below w.heap.size w w2) ⟨BX0.out, BX2.out, HB.out.trans (HG.out.mono HB.out.size)⟩ ?_
  clear HB HG BX0 BX2
  rintro Wx4 ⟨bx0, bx2, HB⟩
  replace HB := Lib.hid HB
  refine wp_cond_true (by rfl) ?_
  have BX0 := Lib.hid bx0
  have BX2 := Lib.hid bx2
  clear bx0 bx2
  refine sK fun K hK => ?_
  refine wp_region_seqplan 2 [(true, 0), (true, 1)] (by rfl) (by simp) (fun T hT => ?_)
  iterate 2 (refine wpPlan_takeL (v := ?_) rfl (by rfl) (fun w' hw => ?_) ?_; rotate_left; go_simp; with_reducible rfl; simp only [Act.put, rA, rB, rC])
  refine wpPlan_nil (hT.out _ _ ?_); clear hT T
  intro vw5 hg
  simp only [puts, Act.put, rA, rB, rC, rD, rE, ↓reduceIte, Nat.reduceEqDiff]
  have HG := Lib.hid (hg)
  clear hg
  replace BX0 := bG BX0 HG
  replace BX2 := bG BX2 HG
  have lx0 := BX0.out.cells; have fx0 := BX0.out.free
  have r0 := Gr.refl vw5
  go_wp2
  refine hK.out _ _ ?_; clear hK K
  show Code.wp _ _ _ _ _
  clear lx0 fx0
  clear r0
  refine forgetW (fun w2 => Bx w2 (w.heap.size) 29 #[.int .u64 0, .string ⟨#[]⟩, .bool false] ∧ Bx w2 gx2 29 #[.int .u64 (lo (Int.natAbs (0))), .string (bg (Int.natAbs (0))), .bool (decide ((0) < 0))] ∧ Below w.heap.size w w2) ⟨((((BX0.out).set 0 _).set 1 _).set 2 _).eq (by simp only [rA, rB, rC]), so3 (BX2.out) (by show gx2 ≠ w.heap.size; omega), sc3 (HB.out.trans (HG.out.mono HB.out.size)) (by show w.heap.size ≤ w.heap.size; omega)⟩ ?_
  clear HB HG BX0 BX2
  rintro Wx5 ⟨bx0, bx2, HB⟩
  replace HB := Lib.hid HB
  refine wp_ret ?_
  try simp only [Exit.then, Exit.inBlock]
  have lx0 := bx0.cells
  have r0 := Gr.refl Wx5
  exact bodyPost_ret (v := .tuple #[(.agg #[.int .u64 0, .string ⟨#[]⟩, .bool false]), .int .i64 4]) (by simp [results, Tryd.results9, go_sem, lx0 _ r0]) rfl ⟨rfl, HB.out⟩

set_option maxRecDepth 20000 in
set_option maxHeartbeats 4000000 in
theorem ip_true_z (s : ByteArray) (w : World) (hsz : (idig s).size ≤ 9223372036854775807) (HNG : Hid (ineg s = true)) (HPC : Hid (pcode (idig s) = 0)) (HPN : Hid (pnum (idig s) = 0)) :
    Calls Tryd.prog 9 #[.string s] w fun e w' => e = .returned (.tuple #[(.agg #[.int .u64 (lo (Int.natAbs (0))), .string (bg (Int.natAbs (0))), .bool (decide ((0) < 0))]), .int .i64 4]) ∧ Below w.heap.size w w' := by
  go_enter Tryd.func9, Tryd.ntmps9
  refine sK fun K hK => ?_
  refine wp_region_lit ?_
  go_wp2
  refine hK.out _ _ ?_; clear hK K
  show Code.wp _ _ _ _ _
  refine forgetW (fun w2 => Bx w2 (w.heap.size) 29 #[.int .u64 0, .string ⟨#[]⟩, .bool false] ∧ Below w.heap.size w w2) ⟨Bx.at rfl, (Below.refl _ _).alloc (Nat.le_refl _) _⟩ ?_
  rintro Wx ⟨bx0, HB⟩
  replace HB := Lib.hid HB
  have BX0 := Lib.hid bx0
  clear bx0
  refine sK fun K hK => ?_
  refine wp_region_seqplan 7 [(true, 0), (true, 1), (true, 2), (true, 3), (true, 4), (true, 5), (true, 6)] (by rfl) (by simp) (fun T hT => ?_)
  refine wpPlan_takeL (v := ?_) rfl (by rfl) (fun w' hw => ?_) ?_; rotate_left; go_simp; with_reducible rfl; simp only [Act.put, rA, rB, rC]
  refine wpPlan_callL rfl (by rfl) Tryd.call30 (fun w' hw => cutm s true _ HNG.out) (by rfl) ?_
  simp only [Act.put, rA, rB, rC]
  iterate 5 (refine wpPlan_takeL (v := ?_) rfl (by rfl) (fun w' hw => ?_) ?_; rotate_left; go_simp; with_reducible rfl; simp only [Act.put, rA, rB, rC])
  refine wpPlan_nil (hT.out _ _ ?_); clear hT T
  intro vw1 hg
  simp only [puts, Act.put, rA, rB, rC, rD, rE, ↓reduceIte, Nat.reduceEqDiff]
  have HG := Lib.hid (hg)
  clear hg
  replace BX0 := bG BX0 HG
  have r0 := Gr.refl vw1
  go_wp2
  refine hK.out _ _ ?_; clear hK K
  show Code.wp _ _ _ _ _
  clear r0
  refine forgetW (fun w2 => Bx w2 (w.heap.size) 29 #[.int .u64 0, .string ⟨#[]⟩, .bool false] ∧ Below w.heap.size w w2) ⟨BX0.out, HB.out.trans (HG.out.mono HB.out.size)⟩ ?_
  clear HB HG BX0
  rintro Wx1 ⟨bx0, HB⟩
  replace HB := Lib.hid HB
  have BX0 := Lib.hid bx0
  clear bx0
  refine sK fun K hK => ?_
  refine wp_region_seqplan 5 [(true, 0), (true, 1), (true, 2), (true, 3), (true, 4)] (by rfl) (by simp) (fun T hT => ?_)
  refine wpPlan_takeL (v := ?_) rfl (by rfl) (fun w' hw => ?_) ?_; rotate_left; go_simp; with_reducible rfl; simp only [Act.put, rA, rB, rC]
  refine wpPlan_callL rfl (by rfl) Tryd.call31 (fun w' hw => nzparse (idig s) 0 0 _ HPN.out HPC.out (by omega)) (by rfl) ?_
  simp only [Act.put, rA, rB, rC]
  iterate 3 (refine wpPlan_takeL (v := ?_) rfl (by rfl) (fun w' hw => ?_) ?_; rotate_left; go_simp; with_reducible rfl; simp only [Act.put, rA, rB, rC])
  refine wpPlan_nil (hT.out _ _ ?_); clear hT T
  intro vw2 hg
  simp only [puts, Act.put, rA, rB, rC, rD, rE, ↓reduceIte, Nat.reduceEqDiff]
  have HG := Lib.hid (hg)
  clear hg
  replace BX0 := bG BX0 HG
  have r0 := Gr.refl vw2
  go_wp2
  refine hK.out _ _ ?_; clear hK K
  show Code.wp _ _ _ _ _
  clear r0
  have hsz : w.heap.size ≤ vw2.heap.size := Nat.le_trans HB.out.size HG.out.size
  have mx0 : w.heap.size < vw2.heap.size := BX0.out.lt
  refine forgetW (fun w2 => Bx w2 (w.heap.size) 29 #[.int .u64 0, .string ⟨#[]⟩, .bool false] ∧ NX w2 (vw2.heap.size) (0) ∧ Below w.heap.size w w2) ⟨(BX0.out).alloc _, (Bx.at (by simp) : Bx _ (vw2.heap.size) _ _), (HB.out.trans (HG.out.mono HB.out.size)).alloc (by first | omega | (simp; omega)) _⟩ ?_
  clear HB HG BX0
  rintro Wx2 ⟨bx0, bx1, HB⟩
  replace HB := Lib.hid HB
  have yx1 : w.heap.size ≤ vw2.heap.size := by omega
  have qx0_1 : w.heap.size < vw2.heap.size := by omega
  generalize hx1 : vw2.heap.size = gx1 at *
  clear hx1
  clear hsz mx0
  have HZ1 : Hid ((if true then -((0 : Nat) : Int) else ((0 : Nat) : Int)) = 0) := Lib.hid (by first | rfl | omega | (simp; done) | grind)
  have su1 : wl (Int.natAbs (0)) ≤ 0 := by have e := HZ1.out; first | omega | (rw [← e]; split <;> simp <;> omega) | exact wl_le.2 (by decide +kernel)
  have lx1 := bx1.cells
  have BX0 := Lib.hid bx0
  have BX1 := Lib.hid bx1
  clear bx0 bx1
  refine sK fun K hK => ?_
  refine wp_region_seqplan 3 [(true, 0), (true, 1), (true, 2)] (by rfl) (by simp) (fun T hT => ?_)
  iterate 2 (refine wpPlan_takeL (v := ?_) rfl (by rfl) (fun w' hw => ?_) ?_; rotate_left; go_simp; with_reducible rfl; simp only [Act.put, rA, rB, rC])
  refine wpPlan_callL rfl (by rfl) Tryd.call25 (fun w' hw => from_any true (0) (0) _ HZ1.out) (by rfl) ?_
  simp only [Act.put, rA, rB, rC]
  refine wpPlan_nil (hT.out _ _ ?_); clear hT T
  intro vw3 hg
  simp only [puts, Act.put, rA, rB, rC, rD, rE, ↓reduceIte, Nat.reduceEqDiff]
  clear lx1
  have HG := Lib.hid (hg)
  clear hg
  replace BX0 := bG BX0 HG
  replace BX1 := bG BX1 HG
  have r0 := Gr.refl vw3
  go_wp2
  refine hK.out _ _ ?_; clear hK K
  show Code.wp _ _ _ _ _
  clear r0
  have hsz : w.heap.size ≤ vw3.heap.size := Nat.le_trans HB.out.size HG.out.size
  have mx0 : w.heap.size < vw3.heap.size := BX0.out.lt
  have mx1 : gx1 < vw3.heap.size := BX1.out.lt
  refine forgetW (fun w2 => Bx w2 (w.heap.size) 29 #[.int .u64 0, .string ⟨#[]⟩, .bool false] ∧ Bx w2 (vw3.heap.size) 29 #[.int .u64 (lo (Int.natAbs (0))), .string (bg (Int.natAbs (0))), .bool (decide ((0) < 0))] ∧ Below w.heap.size w w2) ⟨(BX0.out).alloc _, (Bx.at (by simp) : Bx _ (vw3.heap.size) _ _), (HB.out.trans (HG.out.mono HB.out.size)).alloc (by first | omega | (simp; omega)) _⟩ ?_
  clear HB HG BX0 BX1
  rintro Wx3 ⟨bx0, bx2, HB⟩
  replace HB := Lib.hid HB
  have yx2 : w.heap.size ≤ vw3.heap.size := by omega
  have qx0_2 : w.heap.size < vw3.heap.size := by omega
  have qx1_2 : gx1 < vw3.heap.size := by omega
  generalize hx2 : vw3.heap.size = gx2 at *
  clear hx2
  clear hsz mx0 mx1
  refine wp_seq ?_
  refine wp_block ?_
  have BX0 := Lib.hid bx0
  have BX2 := Lib.hid bx2
  clear bx0 bx2
  refine sK fun K hK => ?_
  refine wp_region_seqplan 3 [(true, 0), (true, 1), (true, 2)] (by rfl) (by simp) (fun T hT => ?_)
  iterate 3 (refine wpPlan_takeL (v := ?_) rfl (by rfl) (fun w' hw => ?_) ?_; rotate_left; go_simp; with_reducible rfl; simp only [Act.put, rA, rB, rC])
  refine wpPlan_nil (hT.out _ _ ?_); clear hT T
  intro vw4 hg
  simp only [puts, Act.put, rA, rB, rC, rD, rE, ↓reduceIte, Nat.reduceEqDiff]
  have HG := Lib.hid (hg)
  clear hg
  replace BX0 := bG BX0 HG
  replace BX2 := bG BX2 HG
  have r0 := Gr.refl vw4
  go_wp2
  refine hK.out _ _ ?_; clear hK K
  show Code.wp _ _ _ _ _
  clear r0
  refine forgetW (fun w2 => Bx w2 (w.heap.size) 29 #[.int .u64 0, .string ⟨#[]⟩, .bool false] ∧ Bx w2 gx2 29 #[.int .u64 (lo (Int.natAbs (0))), .string (bg (Int.natAbs (0))), .bool (decide ((0) < 0))] ∧ Below w.heap.size w w2) ⟨BX0.out, BX2.out, HB.out.trans (HG.out.mono HB.out.size)⟩ ?_
  clear HB HG BX0 BX2
  rintro Wx4 ⟨bx0, bx2, HB⟩
  replace HB := Lib.hid HB
  refine wp_cond_false (by rfl) ?_
  have hd1 : decide ((0) < 0) = false := decide_eq_false (by first | rfl | omega | (simp; done) | grind)
  have lx2 := bx2.cells
  have BX0 := Lib.hid bx0
  have BX2 := Lib.hid bx2
  clear bx0 bx2
  refine sK fun K hK => ?_
  refine wp_region_seqplan 5 [(true, 0), (true, 1), (true, 2), (true, 3), (true, 4)] (by rfl) (by simp) (fun T hT => ?_)
  iterate 5 (refine wpPlan_takeL (v := ?_) rfl (by rfl) (fun w' hw => ?_) ?_; rotate_left; go_simp; with_reducible rfl; simp only [Act.put, rA, rB, rC])
  refine wpPlan_nil (hT.out _ _ ?_); clear hT T
  intro vw5 hg
  simp only [puts, Act.put, rA, rB, rC, rD, rE, ↓reduceIte, Nat.reduceEqDiff]
  clear lx2
  have HG := Lib.hid (hg)
  clear hg
  replace BX0 := bG BX0 HG
  replace BX2 := bG BX2 HG
  have r0 := Gr.refl vw5
  go_wp2
  refine hK.out _ _ ?_; clear hK K
  show Code.wp _ _ _ _ _
  clear r0
  refine forgetW (fun w2 => Bx w2 (w.heap.size) 29 #[.int .u64 0, .string ⟨#[]⟩, .bool false] ∧ Bx w2 gx2 29 #[.int .u64 (lo (Int.natAbs (0))), .string (bg (Int.natAbs (0))), .bool (decide ((0) < 0))] ∧ Below w.heap.size w w2) ⟨BX0.out, BX2.out, HB.out.trans (HG.out.mono HB.out.size)⟩ ?_
  clear HB HG BX0 BX2
  rintro Wx6 ⟨bx0, bx2, HB⟩
  replace HB := Lib.hid HB
  clear hd1
  refine wp_cond_true (by rfl) ?_
  have BX0 := Lib.hid bx0
  have BX2 := Lib.hid bx2
  clear bx0 bx2
  refine sK fun K hK => ?_
  refine wp_region_seqplan 1 [(true, 0)] (by rfl) (by simp) (fun T hT => ?_)
  refine wpPlan_takeL (v := ?_) rfl (by rfl) (fun w' hw => ?_) ?_; rotate_left; go_simp; with_reducible rfl; simp only [Act.put, rA, rB, rC]
  refine wpPlan_nil (hT.out _ _ ?_); clear hT T
  intro vw6 hg
  simp only [puts, Act.put, rA, rB, rC, rD, rE, ↓reduceIte, Nat.reduceEqDiff]
  have HG := Lib.hid (hg)
  clear hg
  replace BX0 := bG BX0 HG
  replace BX2 := bG BX2 HG
  have lx0 := BX0.out.cells; have fx0 := BX0.out.free
  have r0 := Gr.refl vw6
  go_wp2
  refine hK.out _ _ ?_; clear hK K
  show Code.wp _ _ _ _ _
  clear lx0 fx0
  clear r0
  refine forgetW (fun w2 => Bx w2 (w.heap.size) 29 #[.int .u64 0, .string ⟨#[]⟩, .bool false] ∧ Bx w2 gx2 29 #[.int .u64 (lo (Int.natAbs (0))), .string (bg (Int.natAbs (0))), .bool (decide ((0) < 0))] ∧ Below w.heap.size w w2) ⟨((((BX0.out).set 0 _).set 1 _).set 2 _).eq (by simp only [rA, rB, rC]), so3 (BX2.out) (by show gx2 ≠ w.heap.size; omega), sc3 (HB.out.trans (HG.out.mono HB.out.size)) (by show w.heap.size ≤ w.heap.size; omega)⟩ ?_
  clear HB HG BX0 BX2
  rintro Wx7 ⟨bx0, bx2, HB⟩
  replace HB := Lib.hid HB
  refine wp_ret ?_
  try simp only [Exit.then, Exit.inBlock]
  have lx0 := bx0.cells
  have r0 := Gr.refl Wx7
  exact bodyPost_ret (v := .tuple #[(.agg #[.int .u64 0, .string ⟨#[]⟩, .bool false]), .int .i64 4]) (by simp [results, Tryd.results9, go_sem, lx0 _ r0]) rfl ⟨rfl, HB.out⟩

set_option maxRecDepth 20000 in
set_option maxHeartbeats 4000000 in
theorem ip_true_n (s : ByteArray) (w : World) (hsz : (idig s).size ≤ 9223372036854775807) (HNG : Hid (ineg s = true)) (n : Nat) (z : Int) (HZZ : Hid (-((n : Nat) : Int) = z)) (HPC : Hid (pcode (idig s) = 0)) (HPN : Hid (pnum (idig s) = n)) (hn : 0 < n) (hw : wl n ≤ 600) :
    Calls Tryd.prog 9 #[.string s] w fun e w' => e = .returned (.tuple #[(.agg #[.int .u64 (lo (Int.natAbs (z))), .string (bg (Int.natAbs (z))), .bool (decide ((z) < 0))]), .int .i64 0]) ∧ Below w.heap.size w w' := by
  go_enter Tryd.func9, Tryd.ntmps9
  refine sK fun K hK => ?_
  refine wp_region_lit ?_
  go_wp2
  refine hK.out _ _ ?_; clear hK K
  show Code.wp _ _ _ _ _
  refine forgetW (fun w2 => Bx w2 (w.heap.size) 29 #[.int .u64 0, .string ⟨#[]⟩, .bool false] ∧ Below w.heap.size w w2) ⟨Bx.at rfl, (Below.refl _ _).alloc (Nat.le_refl _) _⟩ ?_
  rintro Wx ⟨bx0, HB⟩
  replace HB := Lib.hid HB
  have BX0 := Lib.hid bx0
  clear bx0
  refine sK fun K hK => ?_
  refine wp_region_seqplan 7 [(true, 0), (true, 1), (true, 2), (true, 3), (true, 4), (true, 5), (true, 6)] (by rfl) (by simp) (fun T hT => ?_)
  refine wpPlan_takeL (v := ?_) rfl (by rfl) (fun w' hw => ?_) ?_; rotate_left; go_simp; with_reducible rfl; simp only [Act.put, rA, rB, rC]
  refine wpPlan_callL rfl (by rfl) Tryd.call30 (fun w' hw => cutm s true _ HNG.out) (by rfl) ?_
  simp only [Act.put, rA, rB, rC]
  iterate 5 (refine wpPlan_takeL (v := ?_) rfl (by rfl) (fun w' hw => ?_) ?_; rotate_left; go_simp; with_reducible rfl; simp only [Act.put, rA, rB, rC])
  refine wpPlan_nil (hT.out _ _ ?_); clear hT T
  intro vw1 hg
  simp only [puts, Act.put, rA, rB, rC, rD, rE, ↓reduceIte, Nat.reduceEqDiff]
  have HG := Lib.hid (hg)
  clear hg
  replace BX0 := bG BX0 HG
  have r0 := Gr.refl vw1
  go_wp2
  refine hK.out _ _ ?_; clear hK K
  show Code.wp _ _ _ _ _
  clear r0
  refine forgetW (fun w2 => Bx w2 (w.heap.size) 29 #[.int .u64 0, .string ⟨#[]⟩, .bool false] ∧ Below w.heap.size w w2) ⟨BX0.out, HB.out.trans (HG.out.mono HB.out.size)⟩ ?_
  clear HB HG BX0
  rintro Wx1 ⟨bx0, HB⟩
  replace HB := Lib.hid HB
  have BX0 := Lib.hid bx0
  clear bx0
  refine sK fun K hK => ?_
  refine wp_region_seqplan 5 [(true, 0), (true, 1), (true, 2), (true, 3), (true, 4)] (by rfl) (by simp) (fun T hT => ?_)
  refine wpPlan_takeL (v := ?_) rfl (by rfl) (fun w' hw => ?_) ?_; rotate_left; go_simp; with_reducible rfl; simp only [Act.put, rA, rB, rC]
  refine wpPlan_callL rfl (by rfl) Tryd.call31 (fun w' hw => nzparse (idig s) n 0 _ HPN.out HPC.out (by omega)) (by rfl) ?_
  simp only [Act.put, rA, rB, rC]
  iterate 3 (refine wpPlan_takeL (v := ?_) rfl (by rfl) (fun w' hw => ?_) ?_; rotate_left; go_simp; with_reducible rfl; simp only [Act.put, rA, rB, rC])
  refine wpPlan_nil (hT.out _ _ ?_); clear hT T
  intro vw2 hg
  simp only [puts, Act.put, rA, rB, rC, rD, rE, ↓reduceIte, Nat.reduceEqDiff]
  have HG := Lib.hid (hg)
  clear hg
  replace BX0 := bG BX0 HG
  have r0 := Gr.refl vw2
  go_wp2
  refine hK.out _ _ ?_; clear hK K
  show Code.wp _ _ _ _ _
  clear r0
  have hsz : w.heap.size ≤ vw2.heap.size := Nat.le_trans HB.out.size HG.out.size
  have mx0 : w.heap.size < vw2.heap.size := BX0.out.lt
  refine forgetW (fun w2 => Bx w2 (w.heap.size) 29 #[.int .u64 0, .string ⟨#[]⟩, .bool false] ∧ NX w2 (vw2.heap.size) (n) ∧ Below w.heap.size w w2) ⟨(BX0.out).alloc _, (Bx.at (by simp) : Bx _ (vw2.heap.size) _ _), (HB.out.trans (HG.out.mono HB.out.size)).alloc (by first | omega | (simp; omega)) _⟩ ?_
  clear HB HG BX0
  rintro Wx2 ⟨bx0, bx1, HB⟩
  replace HB := Lib.hid HB
  have yx1 : w.heap.size ≤ vw2.heap.size := by omega
  have qx0_1 : w.heap.size < vw2.heap.size := by omega
  generalize hx1 : vw2.heap.size = gx1 at *
  clear hx1
  clear hsz mx0
  have HZ1 : Hid ((if true then -((n : Nat) : Int) else ((n : Nat) : Int)) = z) := Lib.hid (HZZ.out)
  have su1 : wl (Int.natAbs (z)) ≤ 600 := by have e := HZ1.out; first | omega | (rw [← e]; split <;> simp <;> omega)
  have lx1 := bx1.cells
  have BX0 := Lib.hid bx0
  have BX1 := Lib.hid bx1
  clear bx0 bx1
  refine sK fun K hK => ?_
  refine wp_region_seqplan 3 [(true, 0), (true, 1), (true, 2)] (by rfl) (by simp) (fun T hT => ?_)
  iterate 2 (refine wpPlan_takeL (v := ?_) rfl (by rfl) (fun w' hw => ?_) ?_; rotate_left; go_simp; with_reducible rfl; simp only [Act.put, rA, rB, rC])
  refine wpPlan_callL rfl (by rfl) Tryd.call25 (fun w' hw => from_any true (n) (z) _ HZ1.out) (by rfl) ?_
  simp only [Act.put, rA, rB, rC]
  refine wpPlan_nil (hT.out _ _ ?_); clear hT T
  intro vw3 hg
  simp only [puts, Act.put, rA, rB, rC, rD, rE, ↓reduceIte, Nat.reduceEqDiff]
  clear lx1
  have HG := Lib.hid (hg)
  clear hg
  replace BX0 := bG BX0 HG
  replace BX1 := bG BX1 HG
  have r0 := Gr.refl vw3
  go_wp2
  refine hK.out _ _ ?_; clear hK K
  show Code.wp _ _ _ _ _
  clear r0
  have hsz : w.heap.size ≤ vw3.heap.size := Nat.le_trans HB.out.size HG.out.size
  have mx0 : w.heap.size < vw3.heap.size := BX0.out.lt
  have mx1 : gx1 < vw3.heap.size := BX1.out.lt
  refine forgetW (fun w2 => Bx w2 (w.heap.size) 29 #[.int .u64 0, .string ⟨#[]⟩, .bool false] ∧ Bx w2 (vw3.heap.size) 29 #[.int .u64 (lo (Int.natAbs (z))), .string (bg (Int.natAbs (z))), .bool (decide ((z) < 0))] ∧ Below w.heap.size w w2) ⟨(BX0.out).alloc _, (Bx.at (by simp) : Bx _ (vw3.heap.size) _ _), (HB.out.trans (HG.out.mono HB.out.size)).alloc (by first | omega | (simp; omega)) _⟩ ?_
  clear HB HG BX0 BX1
  rintro Wx3 ⟨bx0, bx2, HB⟩
  replace HB := Lib.hid HB
  have yx2 : w.heap.size ≤ vw3.heap.size := by omega
  have qx0_2 : w.heap.size < vw3.heap.size := by omega
  have qx1_2 : gx1 < vw3.heap.size := by omega
  generalize hx2 : vw3.heap.size = gx2 at *
  clear hx2
  clear hsz mx0 mx1
  refine wp_seq ?_
  refine wp_block ?_
  have BX0 := Lib.hid bx0
  have BX2 := Lib.hid bx2
  clear bx0 bx2
  refine sK fun K hK => ?_
  refine wp_region_seqplan 3 [(true, 0), (true, 1), (true, 2)] (by rfl) (by simp) (fun T hT => ?_)
  iterate 3 (refine wpPlan_takeL (v := ?_) rfl (by rfl) (fun w' hw => ?_) ?_; rotate_left; go_simp; with_reducible rfl; simp only [Act.put, rA, rB, rC])
  refine wpPlan_nil (hT.out _ _ ?_); clear hT T
  intro vw4 hg
  simp only [puts, Act.put, rA, rB, rC, rD, rE, ↓reduceIte, Nat.reduceEqDiff]
  have HG := Lib.hid (hg)
  clear hg
  replace BX0 := bG BX0 HG
  replace BX2 := bG BX2 HG
  have r0 := Gr.refl vw4
  go_wp2
  refine hK.out _ _ ?_; clear hK K
  show Code.wp _ _ _ _ _
  clear r0
  refine forgetW (fun w2 => Bx w2 (w.heap.size) 29 #[.int .u64 0, .string ⟨#[]⟩, .bool false] ∧ Bx w2 gx2 29 #[.int .u64 (lo (Int.natAbs (z))), .string (bg (Int.natAbs (z))), .bool (decide ((z) < 0))] ∧ Below w.heap.size w w2) ⟨BX0.out, BX2.out, HB.out.trans (HG.out.mono HB.out.size)⟩ ?_
  clear HB HG BX0 BX2
  rintro Wx4 ⟨bx0, bx2, HB⟩
  replace HB := Lib.hid HB
  refine wp_cond_false (by rfl) ?_
  have hd1 : decide ((z) < 0) = true := decide_eq_true (by have e9 := HZZ.out; omega)
  have lx2 := bx2.cells
  have BX0 := Lib.hid bx0
  have BX2 := Lib.hid bx2
  clear bx0 bx2
  refine sK fun K hK => ?_
  refine wp_region_seqplan 5 [(true, 0), (true, 1), (true, 2), (true, 3), (true, 4)] (by rfl) (by simp) (fun T hT => ?_)
  iterate 5 (refine wpPlan_takeL (v := ?_) rfl (by rfl) (fun w' hw => ?_) ?_; rotate_left; go_simp; with_reducible rfl; simp only [Act.put, rA, rB, rC])
  refine wpPlan_nil (hT.out _ _ ?_); clear hT T
  intro vw5 hg
  simp only [puts, Act.put, rA, rB, rC, rD, rE, ↓reduceIte, Nat.reduceEqDiff]
  clear lx2
  have HG := Lib.hid (hg)
  clear hg
  replace BX0 := bG BX0 HG
  replace BX2 := bG BX2 HG
  have r0 := Gr.refl vw5
  go_wp2
  refine hK.out _ _ ?_; clear hK K
  show Code.wp _ _ _ _ _
  clear r0
  refine forgetW (fun w2 => Bx w2 (w.heap.size) 29 #[.int .u64 0, .string ⟨#[]⟩, .bool false] ∧ Bx w2 gx2 29 #[.int .u64 (lo (Int.natAbs (z))), .string (bg (Int.natAbs (z))), .bool (decide ((z) < 0))] ∧ Below w.heap.size w w2) ⟨BX0.out, BX2.out, HB.out.trans (HG.out.mono HB.out.size)⟩ ?_
  clear HB HG BX0 BX2
  rintro Wx6 ⟨bx0, bx2, HB⟩
  replace HB := Lib.hid HB
  clear hd1
  refine wp_cond_false (by rfl) ?_
  refine wp_skip ?_
  show Code.wp _ _ _ _ _
  have lx2 := bx2.cells
  have BX0 := Lib.hid bx0
  have BX2 := Lib.hid bx2
  clear bx0 bx2
  refine sK fun K hK => ?_
  refine wp_region_seqplan 1 [(true, 0)] (by rfl) (by simp) (fun T hT => ?_)
  refine wpPlan_takeL (v := ?_) rfl (by rfl) (fun w' hw => ?_) ?_; rotate_left; go_simp; with_reducible rfl; simp only [Act.put, rA, rB, rC]
  refine wpPlan_nil (hT.out _ _ ?_); clear hT T
  intro vw6 hg
  simp only [puts, Act.put, rA, rB, rC, rD, rE, ↓reduceIte, Nat.reduceEqDiff]
  clear lx2
  have HG := Lib.hid (hg)
  clear hg
  replace BX0 := bG BX0 HG
  replace BX2 := bG BX2 HG
  have lx0 := BX0.out.cells; have fx0 := BX0.out.free
  have r0 := Gr.refl vw6
  go_wp2
  refine hK.out _ _ ?_; clear hK K
  show Code.wp _ _ _ _ _
  clear lx0 fx0
  clear r0
  refine forgetW (fun w2 => Bx w2 (w.heap.size) 29 #[.int .u64 (lo (Int.natAbs (z))), .string (bg (Int.natAbs (z))), .bool (decide ((z) < 0))] ∧ Below w.heap.size w w2) ⟨((((BX0.out).set 0 _).set 1 _).set 2 _).eq (by simp only [rA, rB, rC]), sc3 (HB.out.trans (HG.out.mono HB.out.size)) (by show w.heap.size ≤ w.heap.size; omega)⟩ ?_
  clear HB HG BX0 BX2
  rintro Wx8 ⟨bx0, HB⟩
  replace HB := Lib.hid HB
  refine wp_ret ?_
  try simp only [Exit.then, Exit.inBlock]
  have lx0 := bx0.cells
  have r0 := Gr.refl Wx8
  exact bodyPost_ret (v := .tuple #[(.agg #[.int .u64 (lo (Int.natAbs (z))), .string (bg (Int.natAbs (z))), .bool (decide ((z) < 0))]), .int .i64 0]) (by simp [results, Tryd.results9, go_sem, lx0 _ r0]) rfl ⟨rfl, HB.out⟩

set_option maxRecDepth 20000 in
set_option maxHeartbeats 4000000 in
theorem ip_false_n (s : ByteArray) (w : World) (hsz : (idig s).size ≤ 9223372036854775807) (HNG : Hid (ineg s = false)) (n : Nat) (z : Int) (HZZ : Hid (((n : Nat) : Int) = z)) (HPC : Hid (pcode (idig s) = 0)) (HPN : Hid (pnum (idig s) = n)) (hw : wl n ≤ 600) :
    Calls Tryd.prog 9 #[.string s] w fun e w' => e = .returned (.tuple #[(.agg #[.int .u64 (lo (Int.natAbs (z))), .string (bg (Int.natAbs (z))), .bool (decide ((z) < 0))]), .int .i64 0]) ∧ Below w.heap.size w w' := by
  go_enter Tryd.func9, Tryd.ntmps9
  refine sK fun K hK => ?_
  refine wp_region_lit ?_
  go_wp2
  refine hK.out _ _ ?_; clear hK K
  show Code.wp _ _ _ _ _
  refine forgetW (fun w2 => Bx w2 (w.heap.size) 29 #[.int .u64 0, .string ⟨#[]⟩, .bool false] ∧ Below w.heap.size w w2) ⟨Bx.at rfl, (Below.refl _ _).alloc (Nat.le_refl _) _⟩ ?_
  rintro Wx ⟨bx0, HB⟩
  replace HB := Lib.hid HB
  have BX0 := Lib.hid bx0
  clear bx0
  refine sK fun K hK => ?_
  refine wp_region_seqplan 7 [(true, 0), (true, 1), (true, 2), (true, 3), (true, 4), (true, 5), (true, 6)] (by rfl) (by simp) (fun T hT => ?_)
  refine wpPlan_takeL (v := ?_) rfl (by rfl) (fun w' hw => ?_) ?_; rotate_left; go_simp; with_reducible rfl; simp only [Act.put, rA, rB, rC]
  refine wpPlan_callL rfl (by rfl) Tryd.call30 (fun w' hw => cutm s false _ HNG.out) (by rfl) ?_
  simp only [Act.put, rA, rB, rC]
  iterate 5 (refine wpPlan_takeL (v := ?_) rfl (by rfl) (fun w' hw => ?_) ?_; rotate_left; go_simp; with_reducible rfl; simp only [Act.put, rA, rB, rC])
  refine wpPlan_nil (hT.out _ _ ?_); clear hT T
  intro vw1 hg
  simp only [puts, Act.put, rA, rB, rC, rD, rE, ↓reduceIte, Nat.reduceEqDiff]
  have HG := Lib.hid (hg)
  clear hg
  replace BX0 := bG BX0 HG
  have r0 := Gr.refl vw1
  go_wp2
  refine hK.out _ _ ?_; clear hK K
  show Code.wp _ _ _ _ _
  clear r0
  refine forgetW (fun w2 => Bx w2 (w.heap.size) 29 #[.int .u64 0, .string ⟨#[]⟩, .bool false] ∧ Below w.heap.size w w2) ⟨BX0.out, HB.out.trans (HG.out.mono HB.out.size)⟩ ?_
  clear HB HG BX0
  rintro Wx1 ⟨bx0, HB⟩
  replace HB := Lib.hid HB
  have BX0 := Lib.hid bx0
  clear bx0
  refine sK fun K hK => ?_
  refine wp_region_seqplan 5 [(true, 0), (true, 1), (true, 2), (true, 3), (true, 4)] (by rfl) (by simp) (fun T hT => ?_)
  refine wpPlan_takeL (v := ?_) rfl (by rfl) (fun w' hw => ?_) ?_; rotate_left; go_simp; with_reducible rfl; simp only [Act.put, rA, rB, rC]
  refine wpPlan_callL rfl (by rfl) Tryd.call31 (fun w' hw => nzparse (idig s) n 0 _ HPN.out HPC.out (by omega)) (by rfl) ?_
  simp only [Act.put, rA, rB, rC]
  iterate 3 (refine wpPlan_takeL (v := ?_) rfl (by rfl) (fun w' hw => ?_) ?_; rotate_left; go_simp; with_reducible rfl; simp only [Act.put, rA, rB, rC])
  refine wpPlan_nil (hT.out _ _ ?_); clear hT T
  intro vw2 hg
  simp only [puts, Act.put, rA, rB, rC, rD, rE, ↓reduceIte, Nat.reduceEqDiff]
  have HG := Lib.hid (hg)
  clear hg
  replace BX0 := bG BX0 HG
  have r0 := Gr.refl vw2
  go_wp2
  refine hK.out _ _ ?_; clear hK K
  show Code.wp _ _ _ _ _
  clear r0
  have hsz : w.heap.size ≤ vw2.heap.size := Nat.le_trans HB.out.size HG.out.size
  have mx0 : w.heap.size < vw2.heap.size := BX0.out.lt
  refine forgetW (fun w2 => Bx w2 (w.heap.size) 29 #[.int .u64 0, .string ⟨#[]⟩, .bool false] ∧ NX w2 (vw2.heap.size) (n) ∧ Below w.heap.size w w2) ⟨(BX0.out).alloc _, (Bx.at (by simp) : Bx _ (vw2.heap.size) _ _), (HB.out.trans (HG.out.mono HB.out.size)).alloc (by first | omega | (simp; omega)) _⟩ ?_
  clear HB HG BX0
  rintro Wx2 ⟨bx0, bx1, HB⟩
  replace HB := Lib.hid HB
  have yx1 : w.heap.size ≤ vw2.heap.size := by omega
  have qx0_1 : w.heap.size < vw2.heap.size := by omega
  generalize hx1 : vw2.heap.size = gx1 at *
  clear hx1
  clear hsz mx0
  have HZ1 : Hid ((if false then -((n : Nat) : Int) else ((n : Nat) : Int)) = z) := Lib.hid (HZZ.out)
  have su1 : wl (Int.natAbs (z)) ≤ 600 := by have e := HZ1.out; first | omega | (rw [← e]; split <;> simp <;> omega)
  have lx1 := bx1.cells
  have BX0 := Lib.hid bx0
  have BX1 := Lib.hid bx1
  clear bx0 bx1
  refine sK fun K hK => ?_
  refine wp_region_seqplan 3 [(true, 0), (true, 1), (true, 2)] (by rfl) (by simp) (fun T hT => ?_)
  iterate 2 (refine wpPlan_takeL (v := ?_) rfl (by rfl) (fun w' hw => ?_) ?_; rotate_left; go_simp; with_reducible rfl; simp only [Act.put, rA, rB, rC])
  refine wpPlan_callL rfl (by rfl) Tryd.call25 (fun w' hw => from_any false (n) (z) _ HZ1.out) (by rfl) ?_
  simp only [Act.put, rA, rB, rC]
  refine wpPlan_nil (hT.out _ _ ?_); clear hT T
  intro vw3 hg
  simp only [puts, Act.put, rA, rB, rC, rD, rE, ↓reduceIte, Nat.reduceEqDiff]
  clear lx1
  have HG := Lib.hid (hg)
  clear hg
  replace BX0 := bG BX0 HG
  replace BX1 := bG BX1 HG
  have r0 := Gr.refl vw3
  go_wp2
  refine hK.out _ _ ?_; clear hK K
  show Code.wp _ _ _ _ _
  clear r0
  have hsz : w.heap.size ≤ vw3.heap.size := Nat.le_trans HB.out.size HG.out.size
  have mx0 : w.heap.size < vw3.heap.size := BX0.out.lt
  have mx1 : gx1 < vw3.heap.size := BX1.out.lt
  refine forgetW (fun w2 => Bx w2 (w.heap.size) 29 #[.int .u64 0, .string ⟨#[]⟩, .bool false] ∧ Bx w2 (vw3.heap.size) 29 #[.int .u64 (lo (Int.natAbs (z))), .string (bg (Int.natAbs (z))), .bool (decide ((z) < 0))] ∧ Below w.heap.size w w2) ⟨(BX0.out).alloc _, (Bx.at (by simp) : Bx _ (vw3.heap.size) _ _), (HB.out.trans (HG.out.mono HB.out.size)).alloc (by first | omega | (simp; omega)) _⟩ ?_
  clear HB HG BX0 BX1
  rintro Wx3 ⟨bx0, bx2, HB⟩
  replace HB := Lib.hid HB
  have yx2 : w.heap.size ≤ vw3.heap.size := by omega
  have qx0_2 : w.heap.size < vw3.heap.size := by omega
  have qx1_2 : gx1 < vw3.heap.size := by omega
  generalize hx2 : vw3.heap.size = gx2 at *
  clear hx2
  clear hsz mx0 mx1
  refine wp_seq ?_
  refine wp_block ?_
  have BX0 := Lib.hid bx0
  have BX2 := Lib.hid bx2
  clear bx0 bx2
  refine sK fun K hK => ?_
  refine wp_region_seqplan 3 [(true, 0), (true, 1), (true, 2)] (by rfl) (by simp) (fun T hT => ?_)
  iterate 3 (refine wpPlan_takeL (v := ?_) rfl (by rfl) (fun w' hw => ?_) ?_; rotate_left; go_simp; with_reducible rfl; simp only [Act.put, rA, rB, rC])
  refine wpPlan_nil (hT.out _ _ ?_); clear hT T
  intro vw4 hg
  simp only [puts, Act.put, rA, rB, rC, rD, rE, ↓reduceIte, Nat.reduceEqDiff]
  have HG := Lib.hid (hg)
  clear hg
  replace BX0 := bG BX0 HG
  replace BX2 := bG BX2 HG
  have r0 := Gr.refl vw4
  go_wp2
  refine hK.out _ _ ?_; clear hK K
  show Code.wp _ _ _ _ _
  clear r0
  refine forgetW (fun w2 => Bx w2 (w.heap.size) 29 #[.int .u64 0, .string ⟨#[]⟩, .bool false] ∧ Bx w2 gx2 29 #[.int .u64 (lo (Int.natAbs (z))), .string (bg (Int.natAbs (z))), .bool (decide ((z) < 0))] ∧ Below w.heap.size w w2) ⟨BX0.out, BX2.out, HB.out.trans (HG.out.mono HB.out.size)⟩ ?_
  clear HB HG BX0 BX2
  rintro Wx4 ⟨bx0, bx2, HB⟩
  replace HB := Lib.hid HB
  refine wp_cond_false (by rfl) ?_
  have hd1 : decide ((z) < 0) = false := decide_eq_false (by have e9 := HZZ.out; omega)
  have lx2 := bx2.cells
  have BX0 := Lib.hid bx0
  have BX2 := Lib.hid bx2
  clear bx0 bx2
  refine sK fun K hK => ?_
  refine wp_region_seqplan 5 [(true, 0), (true, 1), (true, 2), (true, 3), (true, 4)] (by rfl) (by simp) (fun T hT => ?_)
  iterate 5 (refine wpPlan_takeL (v := ?_) rfl (by rfl) (fun w' hw => ?_) ?_; rotate_left; go_simp; with_reducible rfl; simp only [Act.put, rA, rB, rC])
  refine wpPlan_nil (hT.out _ _ ?_); clear hT T
  intro vw5 hg
  simp only [puts, Act.put, rA, rB, rC, rD, rE, ↓reduceIte, Nat.reduceEqDiff]
  clear lx2
  have HG := Lib.hid (hg)
  clear hg
  replace BX0 := bG BX0 HG
  replace BX2 := bG BX2 HG
  have r0 := Gr.refl vw5
  go_wp2
  refine hK.out _ _ ?_; clear hK K
  show Code.wp _ _ _ _ _
  clear r0
  refine forgetW (fun w2 => Bx w2 (w.heap.size) 29 #[.int .u64 0, .string ⟨#[]⟩, .bool false] ∧ Bx w2 gx2 29 #[.int .u64 (lo (Int.natAbs (z))), .string (bg (Int.natAbs (z))), .bool (decide ((z) < 0))] ∧ Below w.heap.size w w2) ⟨BX0.out, BX2.out, HB.out.trans (HG.out.mono HB.out.size)⟩ ?_
  clear HB HG BX0 BX2
  rintro Wx6 ⟨bx0, bx2, HB⟩
  replace HB := Lib.hid HB
  clear hd1
  refine wp_cond_false (by rfl) ?_
  refine wp_skip ?_
  show Code.wp _ _ _ _ _
  have lx2 := bx2.cells
  have BX0 := Lib.hid bx0
  have BX2 := Lib.hid bx2
  clear bx0 bx2
  refine sK fun K hK => ?_
  refine wp_region_seqplan 1 [(true, 0)] (by rfl) (by simp) (fun T hT => ?_)
  refine wpPlan_takeL (v := ?_) rfl (by rfl) (fun w' hw => ?_) ?_; rotate_left; go_simp; with_reducible rfl; simp only [Act.put, rA, rB, rC]
  refine wpPlan_nil (hT.out _ _ ?_); clear hT T
  intro vw6 hg
  simp only [puts, Act.put, rA, rB, rC, rD, rE, ↓reduceIte, Nat.reduceEqDiff]
  clear lx2
  have HG := Lib.hid (hg)
  clear hg
  replace BX0 := bG BX0 HG
  replace BX2 := bG BX2 HG
  have lx0 := BX0.out.cells; have fx0 := BX0.out.free
  have r0 := Gr.refl vw6
  go_wp2
  refine hK.out _ _ ?_; clear hK K
  show Code.wp _ _ _ _ _
  clear lx0 fx0
  clear r0
  refine forgetW (fun w2 => Bx w2 (w.heap.size) 29 #[.int .u64 (lo (Int.natAbs (z))), .string (bg (Int.natAbs (z))), .bool (decide ((z) < 0))] ∧ Below w.heap.size w w2) ⟨((((BX0.out).set 0 _).set 1 _).set 2 _).eq (by simp only [rA, rB, rC]), sc3 (HB.out.trans (HG.out.mono HB.out.size)) (by show w.heap.size ≤ w.heap.size; omega)⟩ ?_
  clear HB HG BX0 BX2
  rintro Wx8 ⟨bx0, HB⟩
  replace HB := Lib.hid HB
  refine wp_ret ?_
  try simp only [Exit.then, Exit.inBlock]
  have lx0 := bx0.cells
  have r0 := Gr.refl Wx8
  exact bodyPost_ret (v := .tuple #[(.agg #[.int .u64 (lo (Int.natAbs (z))), .string (bg (Int.natAbs (z))), .bool (decide ((z) < 0))]), .int .i64 0]) (by simp [results, Tryd.results9, go_sem, lx0 _ r0]) rfl ⟨rfl, HB.out⟩

theorem iparse_any (s : ByteArray) (w : World) (hs : s.size ≤ 9223372036854775807) :
    Calls Tryd.prog 9 #[.string s] w fun e w' => e = .returned (.tuple #[(Value.agg #[.int .u64 (lo (Int.natAbs (inum s))), .string (bg (Int.natAbs (inum s))), .bool (decide ((inum s) < 0))]), .int .i64 (icode s)]) ∧ Below w.heap.size w w' := by
  have hz : (idig s).size ≤ 9223372036854775807 := Nat.le_trans (idig_size s) hs
  rcases pcode_cases (idig s) with hc | hc | hc
  · obtain ⟨n, hn⟩ : ∃ n, pnum (idig s) = n := ⟨_, rfl⟩
    have hw : wl n ≤ 600 := by rw [← hn]; exact Nat.le_trans (wl_le.2 (pnum_bp (idig s) 512 rfl)) (by decide)
    cases hb : ineg s
    · have h1 : icode s = 0 := icode_good hc (fun h => by rw [hb] at h; exact absurd h.1 (by decide))
      have h2 : inum s = ((n : Nat) : Int) := by rw [inum_good h1, hb, hn]; rfl
      rw [h1, h2]
      exact ip_false_n s w hz (Lib.hid hb) n _ (Lib.hid rfl) (Lib.hid hc) (Lib.hid hn) hw
    · by_cases h0 : n = 0
      · have h1 : icode s = 4 := icode_zero hc hb (by rw [hn, h0])
        have h2 : inum s = 0 := inum_bad (by rw [h1]; decide)
        rw [h1, h2]
        exact ip_true_z s w hz (Lib.hid hb) (Lib.hid hc) (Lib.hid (hn.trans h0))
      · have h1 : icode s = 0 := icode_good hc (fun h => h0 (by rw [← hn]; exact h.2))
        have h2 : inum s = -((n : Nat) : Int) := by rw [inum_good h1, hb, hn]; rfl
        rw [h1, h2]
        exact ip_true_n s w hz (Lib.hid hb) n _ (Lib.hid rfl) (Lib.hid hc) (Lib.hid hn) (by omega) hw
  all_goals
    have hn := pnum_zero (s := idig s) (by rw [hc]; decide)
    have h1 := (icode_bad (s := s) (by rw [hc]; decide)).trans hc
    have h2 : inum s = 0 := inum_bad (by rw [h1]; decide)
    rw [h1, h2]
    cases hb : ineg s
  · exact ip_false_3 s w hz (Lib.hid hb) (Lib.hid hc) (Lib.hid hn)
  · exact ip_true_3 s w hz (Lib.hid hb) (Lib.hid hc) (Lib.hid hn)
  · exact ip_false_4 s w hz (Lib.hid hb) (Lib.hid hc) (Lib.hid hn)
  · exact ip_true_4 s w hz (Lib.hid hb) (Lib.hid hc) (Lib.hid hn)

end Go.Proofs.YtflhpdlecpehkaaDoor
