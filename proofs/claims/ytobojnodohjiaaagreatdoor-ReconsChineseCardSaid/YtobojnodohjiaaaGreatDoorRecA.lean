
/- recons: whole, left, far. -/
import Derived.Test.YtobojnodohjiaaaGreatDoorPL
import Derived.Test.YtobojnodohjiaaaGreatDoorIntDiv
import Derived.Test.YtobojnodohjiaaaGreatDoorHp
import Derived.Test.YtobojnodohjiaaaGreatDoorPJ
import Derived.Test.YtobojnodohjiaaaGreatDoorRecP
set_option linter.unusedVariables false
set_option linter.unusedSimpArgs false

/- fracs: From, Num, Den, Abs, Square, Floor, Ceil, Of at 0. -/
namespace Go.Proofs.YtobojnodohjiaaaGreatDoor
open Go.RowKit
set_option linter.unusedSimpArgs false
set_option linter.unusedVariables false
attribute [local go_sem ↓] Go.wp_at_zero Go.wp_at_succ
attribute [local go_sem ↓] eq_nat eq_nat_zero eq_int
set_option maxRecDepth 20000 in
set_option maxHeartbeats 4000000 in
theorem ffrom_ok (n : Int) (d : Nat) (z : Rat) (w : World) (HZ : Hid (mkRat n d = z)) (hd : 0 < d) (hn9 : wl n.natAbs ≤ 100000000000) (hd9 : wl d ≤ 100000000000) :
    Calls Tryz.prog 102 #[(Value.agg #[.int .u64 ((lo (Int.natAbs (n)) : Nat) : Int), .string (bg (Int.natAbs (n))), .bool (decide ((n) < 0))]), (Value.agg #[.int .u64 ((lo (d) : Nat) : Int), .string (bg (d))])] w fun e w' => e = .returned (.tuple #[(.agg #[.int .u64 ((lo (Int.natAbs ((z).num)) : Nat) : Int), .string (bg (Int.natAbs ((z).num))), .bool (decide (((z).num) < 0)), .int .u64 ((lo ((z).den - 1) : Nat) : Int), .string (bg ((z).den - 1))]), .int .i64 0]) ∧ Below w.heap.size w w' := by
  go_enter Tryz.func102, Tryz.ntmps102
  have HF := Lib.hid (hp0 w)
  refine kS fun K hK => ?_
  refine wp_region_lit ?_
  go_wp2
  refine hK.out _ _ ?_; clear hK K
  show Code.wp _ _ _ _ _
  refine fH ((((HF.out).al (b := w.heap.size) (by first | rfl | simp) (by decide)).al (b := w.heap.size + 1) (by first | rfl | simp) (by decide)).al (b := w.heap.size + 1 + 1) (by first | rfl | simp) (by decide)) fun Wx0 HG => ?_
  clear HF; have HF := HG; clear HG
  generalize w.heap.size + 1 + 1 = gx2 at *
  generalize w.heap.size + 1 = gx1 at *
  refine wp_seq ?_
  have hd1 : decide (d = 0) = false := decide_eq_false (ok)
  have lx1 := HF.out.c 1 rfl
  refine kS fun K hK => ?_
  refine sq 3 [(true, 0), (true, 1), (true, 2)] fun T hT => ?_
  iterate 3 refine tk ?_
  refine nlS hT HF fun vw1 HG => ?_
  clear hT T HF lx1
  go_wp2
  refine hK.out _ _ ?_; clear hK K
  show Code.wp _ _ _ _ _
  have HF := HG; clear HG
  clear hd1
  refine wp_cond_false (by rfl) ?_
  refine wp_skip ?_
  show Code.wp _ _ _ _ _
  have HZ1 : Hid (mkRat (n) (d) = z) := Lib.hid (HZ.out)
  have su1 : sz (z) ≤ 100000000000 := by have e := HZ1.out; first | omega | (rw [← e]; exact sz_mkRat (k := 100000000000) om om (by decide))
  have lx0 := HF.out.c 0 rfl
  have lx1 := HF.out.c 1 rfl
  refine kS fun K hK => ?_
  refine sq 3 [(true, 0), (true, 1), (true, 2)] fun T hT => ?_
  iterate 2 refine tk ?_
  refine ck Tryz.call189 (fun w' hw => lowest_any (n) (d) (z) HZ1 (ok) om om _) ?_
  refine nlS hT HF fun vw2 HG => ?_
  clear hT T HF lx0 lx1
  have lx2 := HG.out.c 2 rfl; have fx2 := HG.out.f 2 rfl
  have r0 := Gr.refl vw2
  go_wp2
  refine hK.out _ _ ?_; clear hK K
  show Code.wp _ _ _ _ _
  clear r0 lx2 fx2
  refine fH ((((((HG.out).put2 2 0 rfl).put2 2 2 rfl).put 2 4 _ rfl).er 1).er 0) fun Wx3 HF => ?_
  clear HG
  refine wp_ret ?_
  try simp only [Exit.then, Exit.inBlock]
  have lx2 := HF.out.c 0 rfl
  have r0 := Gr.refl Wx3
  exact bodyPost_ret (v := .tuple #[(.agg #[.int .u64 ((lo (Int.natAbs ((z).num)) : Nat) : Int), .string (bg (Int.natAbs ((z).num))), .bool (decide (((z).num) < 0)), .int .u64 ((lo ((z).den - 1) : Nat) : Int), .string (bg ((z).den - 1))]), .int .i64 0]) (by simp [results, Tryz.results102, go_sem, lx2 _ r0]) rfl ⟨rfl, HF.out.1⟩

set_option maxRecDepth 20000 in
set_option maxHeartbeats 4000000 in
theorem fnum_any (q : Rat) (w : World)  :
    Calls Tryz.prog 40 #[(Value.agg #[.int .u64 ((lo (Int.natAbs ((q).num)) : Nat) : Int), .string (bg (Int.natAbs ((q).num))), .bool (decide (((q).num) < 0)), .int .u64 ((lo ((q).den - 1) : Nat) : Int), .string (bg ((q).den - 1))])] w fun e w' => e = .returned (((Value.agg #[.int .u64 ((lo (Int.natAbs ((q).num)) : Nat) : Int), .string (bg (Int.natAbs ((q).num))), .bool (decide (((q).num) < 0))]))) ∧ Below w.heap.size w w' := by
  go_enter Tryz.func40, Tryz.ntmps40
  have HF := Lib.hid (hp0 w)
  refine kS fun K hK => ?_
  refine wp_region_lit ?_
  go_wp2
  refine hK.out _ _ ?_; clear hK K
  show Code.wp _ _ _ _ _
  refine fH (((HF.out).al (b := w.heap.size) (by first | rfl | simp) (by decide)).al (b := w.heap.size + 1) (by first | rfl | simp) (by decide)) fun Wx0 HG => ?_
  clear HF; have HF := HG; clear HG
  generalize w.heap.size + 1 = gx1 at *
  have lx0 := HF.out.c 0 rfl
  refine kS fun K hK => ?_
  refine sq 2 [(true, 0), (true, 1)] fun T hT => ?_
  iterate 2 refine tk ?_
  refine nlS hT HF fun vw1 HG => ?_
  clear hT T HF lx0
  have lx1 := HG.out.c 1 rfl; have fx1 := HG.out.f 1 rfl
  have r0 := Gr.refl vw1
  go_wp2
  refine hK.out _ _ ?_; clear hK K
  show Code.wp _ _ _ _ _
  clear r0 lx1 fx1
  refine fH ((((HG.out).put2 1 0 rfl).put 1 2 _ rfl).er 0) fun Wx1 HF => ?_
  clear HG
  refine wp_ret ?_
  try simp only [Exit.then, Exit.inBlock]
  have lx1 := HF.out.c 0 rfl
  have r0 := Gr.refl Wx1
  exact bodyPost_ret (v := .agg #[.int .u64 ((lo (Int.natAbs ((q).num)) : Nat) : Int), .string (bg (Int.natAbs ((q).num))), .bool (decide (((q).num) < 0))]) (by simp [results, Tryz.results40, go_sem, lx1 _ r0]) rfl ⟨rfl, HF.out.1⟩
theorem fnum_z (q : Rat) (z : Int) (w : World) (hz : q.num = z) :
    Calls Tryz.prog 40 #[(Value.agg #[.int .u64 ((lo (Int.natAbs ((q).num)) : Nat) : Int), .string (bg (Int.natAbs ((q).num))), .bool (decide (((q).num) < 0)), .int .u64 ((lo ((q).den - 1) : Nat) : Int), .string (bg ((q).den - 1))])] w fun e w' => e = .returned (Value.agg #[.int .u64 ((lo (Int.natAbs (z)) : Nat) : Int), .string (bg (Int.natAbs (z))), .bool (decide ((z) < 0))]) ∧ Below w.heap.size w w' := hz ▸ fnum_any q w

set_option maxRecDepth 20000 in
set_option maxHeartbeats 4000000 in
theorem fDen_any (q : Rat) (w : World) (hs : sz q ≤ 100000000000) :
    Calls Tryz.prog 38 #[(Value.agg #[.int .u64 ((lo (Int.natAbs ((q).num)) : Nat) : Int), .string (bg (Int.natAbs ((q).num))), .bool (decide (((q).num) < 0)), .int .u64 ((lo ((q).den - 1) : Nat) : Int), .string (bg ((q).den - 1))])] w fun e w' => e = .returned (((Value.agg #[.int .u64 ((lo ((q).den) : Nat) : Int), .string (bg ((q).den))]))) ∧ Below w.heap.size w w' := by
  go_enter Tryz.func38, Tryz.ntmps38
  have HF := Lib.hid (hp0 w)
  refine kS fun K hK => ?_
  refine wp_region_lit ?_
  go_wp2
  refine hK.out _ _ ?_; clear hK K
  show Code.wp _ _ _ _ _
  refine fH (((HF.out).al (b := w.heap.size) (by first | rfl | simp) (by decide)).al (b := w.heap.size + 1) (by first | rfl | simp) (by decide)) fun Wx0 HG => ?_
  clear HF; have HF := HG; clear HG
  generalize w.heap.size + 1 = gx1 at *
  have su1 : wl ((q).den) ≤ 100000000000 := Nat.le_trans (sz_den _) om
  have sp1 : 0 < (q).den := (q).den_pos
  have lx0 := HF.out.c 0 rfl
  refine kS fun K hK => ?_
  refine sq 2 [(true, 0), (true, 1)] fun T hT => ?_
  refine tk ?_
  refine ck Tryz.call114 (fun w' hw => fden_any (q) om _) ?_
  refine nlS hT HF fun vw1 HG => ?_
  clear hT T HF lx0
  have lx1 := HG.out.c 1 rfl; have fx1 := HG.out.f 1 rfl
  have r0 := Gr.refl vw1
  go_wp2
  refine hK.out _ _ ?_; clear hK K
  show Code.wp _ _ _ _ _
  clear r0 lx1 fx1
  refine fH (((HG.out).put2 1 0 rfl).er 0) fun Wx1 HF => ?_
  clear HG
  refine wp_ret ?_
  try simp only [Exit.then, Exit.inBlock]
  have lx1 := HF.out.c 0 rfl
  have r0 := Gr.refl Wx1
  exact bodyPost_ret (v := .agg #[.int .u64 ((lo ((q).den) : Nat) : Int), .string (bg ((q).den))]) (by simp [results, Tryz.results38, go_sem, lx1 _ r0]) rfl ⟨rfl, HF.out.1⟩

theorem wl_floor (q : Rat) : wl (Int.natAbs (q.floor)) ≤ sz q + 1 := by
  rw [Rat.floor_def]
  exact Nat.le_trans (wl_idiv _ _) (by have := sz_num q; omega)
theorem ceil_neg (q : Rat) : -((-q).floor) = q.ceil := (Rat.ceil_eq_neg_floor_neg q).symm
theorem wl_ceil (q : Rat) : wl (Int.natAbs (q.ceil)) ≤ sz q + 1 := by
  rw [← ceil_neg, Int.natAbs_neg, ← sz_neg q]
  exact wl_floor (-q)

set_option maxRecDepth 20000 in
set_option maxHeartbeats 4000000 in
theorem ffloor_any (q : Rat) (z : Int) (w : World) (HZ : Hid (q.floor = z)) (hs : sz q ≤ 10000000000) :
    Calls Tryz.prog 142 #[(Value.agg #[.int .u64 ((lo (Int.natAbs ((q).num)) : Nat) : Int), .string (bg (Int.natAbs ((q).num))), .bool (decide (((q).num) < 0)), .int .u64 ((lo ((q).den - 1) : Nat) : Int), .string (bg ((q).den - 1))])] w fun e w' => e = .returned (.agg #[.int .u64 ((lo (Int.natAbs (z)) : Nat) : Int), .string (bg (Int.natAbs (z))), .bool (decide ((z) < 0))]) ∧ Below w.heap.size w w' := by
  have hn_q : wl (Int.natAbs ((q).num)) ≤ 10000000000 := Nat.le_trans (sz_num q) hs
  have hp_q := q.den_pos
  go_enter Tryz.func142, Tryz.ntmps142
  have HF := Lib.hid (hp0 w)
  refine kS fun K hK => ?_
  refine wp_region_lit ?_
  go_wp2
  refine hK.out _ _ ?_; clear hK K
  show Code.wp _ _ _ _ _
  refine fH (((HF.out).al (b := w.heap.size) (by first | rfl | simp) (by decide)).al (b := w.heap.size + 1) (by first | rfl | simp) (by decide)) fun Wx0 HG => ?_
  clear HF; have HF := HG; clear HG
  generalize w.heap.size + 1 = gx1 at *
  obtain ⟨u1, HZ1⟩ : ∃ z, Hid (((q).den : Int) = z) := ⟨_, Lib.hid rfl⟩
  have su1 : wl (Int.natAbs (u1)) ≤ 10000000000 := by rw [← HZ1.out]; rw [Int.natAbs_natCast]; exact Nat.le_trans (sz_den _) (by omega)
  have HZ2 : Hid (((q).num) / (u1) = z) := Lib.hid (by rw [← HZ.out, Rat.floor_def]; simp only [← HZ1.out])
  have su2 : wl (Int.natAbs (z)) ≤ 10000000001 := by have e := HZ2.out; first | omega | (rw [← e]; have := wl_idiv ((q).num) (u1); omega)
  obtain ⟨u3, HZ3⟩ : ∃ z, Hid (((q).num) % (u1) = z) := ⟨_, Lib.hid rfl⟩
  have su3 : wl (Int.natAbs (u3)) ≤ 10000000000 := by rw [← HZ3.out]; have := wl_imod ((q).num) (u1) (by simp only [← HZ1.out]; omega); omega
  have lx0 := HF.out.c 0 rfl
  refine kS fun K hK => ?_
  refine wp_region_plan 11 [9, 10] [7, 8] (fun i => if i = 9 then 3 else 4) (fun i => if i = 9 then .cells #[.int .u64 0, .string ⟨#[]⟩, .bool false] 34 else .cells #[.int .u64 0, .string ⟨#[]⟩, .bool false] 34) [(true, 0), (true, 1), (true, 2), (true, 3), (true, 4), (true, 5), (true, 6), (true, 7), (true, 8)] (by kernel_rfl) (by kernel_rfl) (by intro i hi; simp only [List.mem_cons, List.not_mem_nil, or_false] at hi; rcases hi with rfl | rfl <;> exact ⟨_, rfl, rfl, rfl, by simp, fun ρ w => by kernel_rfl⟩) (by intro i hi; simp only [List.mem_cons, List.not_mem_nil, or_false] at hi; rcases hi with rfl | rfl <;> exact ⟨_, rfl, pure_extract⟩) (fun _ _ _ _ _ h => h) (fun T hT => ?_)
  iterate 3 refine tk ?_
  refine ck Tryz.call213 (fun w' hw => fsigned_any (q) (u1) _ HZ1.out om) ?_
  refine ck Tryz.call42 (fun w' hw => zidiv ((q).num) (u1) (z) (u3) _ HZ2.out HZ3.out (by simp only [← HZ3.out, ← HZ1.out]; omega) om om) ?_
  iterate 4 refine tk ?_
  refine wpPlan_nil (hT.out _ _ ?_)
  intro G vw1 hg hf
  simp only [puts, Act.put, lA, lB, lC, lD, lE, ↓reduceIte, Nat.reduceEqDiff]
  have HG := Lib.hid (HF.out.fr hg hf (zs := [(#[.int .u64 0, .string ⟨#[]⟩, .bool false], 34), (#[.int .u64 0, .string ⟨#[]⟩, .bool false], 34)]) rfl (by decide) (by decide))
  simp only [List.zip_cons_cons, List.zip_nil_right, List.map_cons, List.map_nil, lF, lG] at HG
  clear hT T HF hg hf lx0
  generalize G 9 = gx3 at *
  generalize G 10 = gx4 at *
  have lx3 := HG.out.c 2 rfl; have fx3 := HG.out.f 2 rfl
  have lx4 := HG.out.c 3 rfl; have fx4 := HG.out.f 3 rfl
  have r0 := Gr.refl vw1
  obtain ⟨d3_4, d4_3⟩ := HG.out.ne 2 3 rfl rfl (by decide)
  go_wp2
  refine hK.out _ _ ?_; clear hK K
  show Code.wp _ _ _ _ _
  clear r0 lx3 fx3 lx4 fx4 d3_4 d4_3
  refine fH (((((((HG.out).put2 2 0 rfl).put 2 2 _ rfl).put2 3 0 rfl).put 3 2 _ rfl).er 3).er 0) fun Wx1 HF => ?_
  clear HG
  have lx3 := HF.out.c 1 rfl
  refine kS fun K hK => ?_
  refine sq 1 [(true, 0)] fun T hT => ?_
  refine tk ?_
  refine nlS hT HF fun vw2 HG => ?_
  clear hT T HF lx3
  have lx1 := HG.out.c 0 rfl; have fx1 := HG.out.f 0 rfl
  have r0 := Gr.refl vw2
  go_wp2
  refine hK.out _ _ ?_; clear hK K
  show Code.wp _ _ _ _ _
  clear r0 lx1 fx1
  refine fH ((((HG.out).put2 0 0 rfl).put 0 2 _ rfl).er 1) fun Wx2 HF => ?_
  clear HG
  refine wp_ret ?_
  try simp only [Exit.then, Exit.inBlock]
  have lx1 := HF.out.c 0 rfl
  have r0 := Gr.refl Wx2
  exact bodyPost_ret (v := .agg #[.int .u64 ((lo (Int.natAbs (z)) : Nat) : Int), .string (bg (Int.natAbs (z))), .bool (decide ((z) < 0))]) (by simp [results, Tryz.results142, go_sem, lx1 _ r0]) rfl ⟨rfl, HF.out.1⟩

set_option maxRecDepth 20000 in
set_option maxHeartbeats 4000000 in
theorem fceil_any (q : Rat) (z : Int) (w : World) (HZ : Hid (q.ceil = z)) (hs : sz q ≤ 10000000000) :
    Calls Tryz.prog 148 #[(Value.agg #[.int .u64 ((lo (Int.natAbs ((q).num)) : Nat) : Int), .string (bg (Int.natAbs ((q).num))), .bool (decide (((q).num) < 0)), .int .u64 ((lo ((q).den - 1) : Nat) : Int), .string (bg ((q).den - 1))])] w fun e w' => e = .returned (.agg #[.int .u64 ((lo (Int.natAbs (z)) : Nat) : Int), .string (bg (Int.natAbs (z))), .bool (decide ((z) < 0))]) ∧ Below w.heap.size w w' := by
  go_enter Tryz.func148, Tryz.ntmps148
  have HF := Lib.hid (hp0 w)
  refine kS fun K hK => ?_
  refine wp_region_lit ?_
  go_wp2
  refine hK.out _ _ ?_; clear hK K
  show Code.wp _ _ _ _ _
  refine fH (((HF.out).al (b := w.heap.size) (by first | rfl | simp) (by decide)).al (b := w.heap.size + 1) (by first | rfl | simp) (by decide)) fun Wx0 HG => ?_
  clear HF; have HF := HG; clear HG
  generalize w.heap.size + 1 = gx1 at *
  obtain ⟨u1, HZ1⟩ : ∃ z, Hid (-(q) = z) := ⟨_, Lib.hid rfl⟩
  have su1 : sz (u1) ≤ 10000000000 := by rw [← HZ1.out]; rw [sz_neg]; omega
  obtain ⟨u2, HZ2⟩ : ∃ z, Hid ((u1).floor = z) := ⟨_, Lib.hid rfl⟩
  have su2 : wl (Int.natAbs (u2)) ≤ 10000000001 := by rw [← HZ2.out]; have := wl_floor (u1); omega
  have HZ3 : Hid (-(u2) = z) := Lib.hid (by rw [← HZ.out, ← ceil_neg]; simp only [← HZ2.out, ← HZ1.out])
  have su3 : wl (Int.natAbs (z)) ≤ 10000000001 := by have e := HZ3.out; first | omega | (rw [← e]; rw [Int.natAbs_neg]; omega)
  have lx0 := HF.out.c 0 rfl
  refine kS fun K hK => ?_
  refine sq 4 [(true, 0), (true, 1), (true, 2), (true, 3)] fun T hT => ?_
  refine tk ?_
  refine ck Tryz.call45 (fun w' hw => fneg_any (q) (u1) _ HZ1.out) ?_
  refine ck Tryz.call142 (fun w' hw => ffloor_any (u1) (u2) _ (Lib.hid HZ2.out) om) ?_
  refine ck Tryz.call44 (fun w' hw => zineg (u2) (z) _ HZ3.out) ?_
  refine nlS hT HF fun vw1 HG => ?_
  clear hT T HF lx0
  have lx1 := HG.out.c 1 rfl; have fx1 := HG.out.f 1 rfl
  have r0 := Gr.refl vw1
  go_wp2
  refine hK.out _ _ ?_; clear hK K
  show Code.wp _ _ _ _ _
  clear r0 lx1 fx1
  refine fH ((((HG.out).put2 1 0 rfl).put 1 2 _ rfl).er 0) fun Wx1 HF => ?_
  clear HG
  refine wp_ret ?_
  try simp only [Exit.then, Exit.inBlock]
  have lx1 := HF.out.c 0 rfl
  have r0 := Gr.refl Wx1
  exact bodyPost_ret (v := .agg #[.int .u64 ((lo (Int.natAbs (z)) : Nat) : Int), .string (bg (Int.natAbs (z))), .bool (decide ((z) < 0))]) (by simp [results, Tryz.results148, go_sem, lx1 _ r0]) rfl ⟨rfl, HF.out.1⟩

end Go.Proofs.YtobojnodohjiaaaGreatDoor


/- fracs.Pow. -/
namespace Go.Proofs.YtobojnodohjiaaaGreatDoor
open Go.RowKit
set_option linter.unusedSimpArgs false
set_option linter.unusedVariables false
attribute [local go_sem ↓] Go.wp_at_zero Go.wp_at_succ
attribute [local go_sem ↓] eq_nat eq_nat_zero eq_int
end Go.Proofs.YtobojnodohjiaaaGreatDoor


/- fracs.Max of no numbers and of two. -/
namespace Go.Proofs.YtobojnodohjiaaaGreatDoor
open Go.RowKit
set_option linter.unusedSimpArgs false
set_option linter.unusedVariables false
attribute [local go_sem ↓] Go.wp_at_zero Go.wp_at_succ
attribute [local go_sem ↓] eq_nat eq_nat_zero eq_int
end Go.Proofs.YtobojnodohjiaaaGreatDoor

namespace Go.Proofs.YtobojnodohjiaaaGreatDoor
open Go.RowKit
set_option linter.unusedSimpArgs false
set_option linter.unusedVariables false
attribute [local go_sem ↓] Go.wp_at_zero Go.wp_at_succ
attribute [local go_sem ↓] eq_nat eq_nat_zero eq_int
attribute [local go_sem ↓] eq_nat eq_nat_zero eq_frac eq_frac_zero
theorem cmpI_nonneg {x y : Int} (h : y ≤ x) : ¬ cmpI x y < 0 := by
  rcases Int.lt_or_eq_of_le h with h | h
  · rw [cmpI_gt h]; decide
  · rw [cmpI_eq h.symm]; decide
theorem wl_rmod {a : Int} {m k : Nat} (hm : 0 < m) (h : wl m ≤ k) : wl (Int.natAbs (a % ((m : Nat) : Int))) ≤ k := by
  have h1 := Int.emod_nonneg a (show ((m : Nat) : Int) ≠ 0 by omega)
  have h2 := Int.emod_lt_of_pos a (show (0 : Int) < ((m : Nat) : Int) by omega)
  exact Nat.le_trans (wl_mono (by omega)) h

set_option maxRecDepth 20000 in
set_option maxHeartbeats 4000000 in
theorem rwhole_any (n : Nat) (w : World)  :
    Calls Tryz.prog 95 #[(Value.agg #[.int .u64 ((lo (n) : Nat) : Int), .string (bg (n))])] w fun e w' => e = .returned (((Value.agg #[.int .u64 ((lo (Int.natAbs (((n : Nat) : Int))) : Nat) : Int), .string (bg (Int.natAbs (((n : Nat) : Int)))), .bool (decide ((((n : Nat) : Int)) < 0))]))) ∧ Below w.heap.size w w' := by
  go_enter Tryz.func95, Tryz.ntmps95
  have HF := Lib.hid (hp0 w)
  refine kS fun K hK => ?_
  refine wp_region_lit ?_
  go_wp2
  refine hK.out _ _ ?_; clear hK K
  show Code.wp _ _ _ _ _
  refine fH (((HF.out).al (b := w.heap.size) (by first | rfl | simp) (by decide)).al (b := w.heap.size + 1) (by first | rfl | simp) (by decide)) fun Wx0 HG => ?_
  clear HF; have HF := HG; clear HG
  generalize w.heap.size + 1 = gx1 at *
  have HZ1 : Hid ((if false then -((n : Nat) : Int) else ((n : Nat) : Int)) = ((n : Nat) : Int)) := Lib.hid (by rfl)
  have lx0 := HF.out.c 0 rfl
  refine kS fun K hK => ?_
  refine sq 2 [(true, 0), (true, 1)] fun T hT => ?_
  refine tk ?_
  refine ck Tryz.call37 (fun w' hw => from_any false (n) (((n : Nat) : Int)) _ HZ1.out) ?_
  refine nlS hT HF fun vw1 HG => ?_
  clear hT T HF lx0
  have lx1 := HG.out.c 1 rfl; have fx1 := HG.out.f 1 rfl
  have r0 := Gr.refl vw1
  go_wp2
  refine hK.out _ _ ?_; clear hK K
  show Code.wp _ _ _ _ _
  clear r0 lx1 fx1
  refine fH ((((HG.out).put2 1 0 rfl).put 1 2 _ rfl).er 0) fun Wx1 HF => ?_
  clear HG
  refine wp_ret ?_
  try simp only [Exit.then, Exit.inBlock]
  have lx1 := HF.out.c 0 rfl
  have r0 := Gr.refl Wx1
  exact bodyPost_ret (v := .agg #[.int .u64 ((lo (Int.natAbs (((n : Nat) : Int))) : Nat) : Int), .string (bg (Int.natAbs (((n : Nat) : Int)))), .bool (decide ((((n : Nat) : Int)) < 0))]) (by simp [results, Tryz.results95, go_sem, lx1 _ r0]) rfl ⟨rfl, HF.out.1⟩

set_option maxRecDepth 20000 in
set_option maxHeartbeats 4000000 in
theorem rleft_any (a z : Int) (m : Nat) (w : World) (HZ : Hid (a % ((m : Nat) : Int) = z)) (hm0 : 0 < m) (hwa : wl a.natAbs ≤ 5000) (hwm : wl m ≤ 1200) :
    Calls Tryz.prog 96 #[(Value.agg #[.int .u64 ((lo (Int.natAbs (a)) : Nat) : Int), .string (bg (Int.natAbs (a))), .bool (decide ((a) < 0))]), (Value.agg #[.int .u64 ((lo (m) : Nat) : Int), .string (bg (m))])] w fun e w' => e = .returned (((Value.agg #[.int .u64 ((lo (Int.natAbs (z)) : Nat) : Int), .string (bg (Int.natAbs (z))), .bool (decide ((z) < 0))]))) ∧ Below w.heap.size w w' := by
  go_enter Tryz.func96, Tryz.ntmps96
  have HF := Lib.hid (hp0 w)
  refine kS fun K hK => ?_
  refine wp_region_lit ?_
  go_wp2
  refine hK.out _ _ ?_; clear hK K
  show Code.wp _ _ _ _ _
  refine fH ((((HF.out).al (b := w.heap.size) (by first | rfl | simp) (by decide)).al (b := w.heap.size + 1) (by first | rfl | simp) (by decide)).al (b := w.heap.size + 1 + 1) (by first | rfl | simp) (by decide)) fun Wx0 HG => ?_
  clear HF; have HF := HG; clear HG
  generalize w.heap.size + 1 + 1 = gx2 at *
  generalize w.heap.size + 1 = gx1 at *
  have su1 : wl (Int.natAbs ((m : Nat) : Int)) ≤ 1200 := by rw [Int.natAbs_natCast]; omega
  obtain ⟨u2, HZ2⟩ : ∃ z, Hid ((a) / (((m : Nat) : Int)) = z) := ⟨_, Lib.hid rfl⟩
  have su2 : wl (Int.natAbs (u2)) ≤ 5001 := by rw [← HZ2.out]; have := wl_idiv (a) (((m : Nat) : Int)); omega
  have HZ3 : Hid ((a) % (((m : Nat) : Int)) = z) := Lib.hid (HZ.out)
  have su3 : wl (Int.natAbs (z)) ≤ 5000 := by have e := HZ3.out; first | omega | (rw [← e]; have := wl_imod (a) (((m : Nat) : Int)) (by omega); omega)
  have lx0 := HF.out.c 0 rfl
  have lx1 := HF.out.c 1 rfl
  refine kS fun K hK => ?_
  refine wp_region_plan 10 [8, 9] [6, 7] (fun i => if i = 8 then 5 else 6) (fun i => if i = 8 then .cells #[.int .u64 0, .string ⟨#[]⟩, .bool false] 34 else .cells #[.int .u64 0, .string ⟨#[]⟩, .bool false] 34) [(true, 0), (true, 1), (true, 2), (true, 3), (true, 4), (true, 5), (true, 6), (true, 7)] (by kernel_rfl) (by kernel_rfl) (by intro i hi; simp only [List.mem_cons, List.not_mem_nil, or_false] at hi; rcases hi with rfl | rfl <;> exact ⟨_, rfl, rfl, rfl, by simp, fun ρ w => by kernel_rfl⟩) (by intro i hi; simp only [List.mem_cons, List.not_mem_nil, or_false] at hi; rcases hi with rfl | rfl <;> exact ⟨_, rfl, pure_extract⟩) (fun _ _ _ _ _ h => h) (fun T hT => ?_)
  iterate 2 refine tk ?_
  refine ck Tryz.call95 (fun w' hw => rwhole_any (m) _) ?_
  refine ck Tryz.call42 (fun w' hw => zidiv (a) (((m : Nat) : Int)) (u2) (z) _ HZ2.out HZ3.out (by omega) om om) ?_
  iterate 4 refine tk ?_
  refine wpPlan_nil (hT.out _ _ ?_)
  intro G vw1 hg hf
  simp only [puts, Act.put, lA, lB, lC, lD, lE, ↓reduceIte, Nat.reduceEqDiff]
  have HG := Lib.hid (HF.out.fr hg hf (zs := [(#[.int .u64 0, .string ⟨#[]⟩, .bool false], 34), (#[.int .u64 0, .string ⟨#[]⟩, .bool false], 34)]) rfl (by decide) (by decide))
  simp only [List.zip_cons_cons, List.zip_nil_right, List.map_cons, List.map_nil, lF, lG] at HG
  clear hT T HF hg hf lx0 lx1
  generalize G 8 = gx4 at *
  generalize G 9 = gx5 at *
  have lx4 := HG.out.c 3 rfl; have fx4 := HG.out.f 3 rfl
  have lx5 := HG.out.c 4 rfl; have fx5 := HG.out.f 4 rfl
  have r0 := Gr.refl vw1
  obtain ⟨d4_5, d5_4⟩ := HG.out.ne 3 4 rfl rfl (by decide)
  go_wp2
  refine hK.out _ _ ?_; clear hK K
  show Code.wp _ _ _ _ _
  clear r0 lx4 fx4 lx5 fx5 d4_5 d5_4
  refine fH ((((((((HG.out).put2 3 0 rfl).put 3 2 _ rfl).put2 4 0 rfl).put 4 2 _ rfl).er 3).er 1).er 0) fun Wx1 HF => ?_
  clear HG
  have lx5 := HF.out.c 1 rfl
  refine kS fun K hK => ?_
  refine sq 1 [(true, 0)] fun T hT => ?_
  refine tk ?_
  refine nlS hT HF fun vw2 HG => ?_
  clear hT T HF lx5
  have lx2 := HG.out.c 0 rfl; have fx2 := HG.out.f 0 rfl
  have r0 := Gr.refl vw2
  go_wp2
  refine hK.out _ _ ?_; clear hK K
  show Code.wp _ _ _ _ _
  clear r0 lx2 fx2
  refine fH ((((HG.out).put2 0 0 rfl).put 0 2 _ rfl).er 1) fun Wx2 HF => ?_
  clear HG
  refine wp_ret ?_
  try simp only [Exit.then, Exit.inBlock]
  have lx2 := HF.out.c 0 rfl
  have r0 := Gr.refl Wx2
  exact bodyPost_ret (v := .agg #[.int .u64 ((lo (Int.natAbs (z)) : Nat) : Int), .string (bg (Int.natAbs (z))), .bool (decide ((z) < 0))]) (by simp [results, Tryz.results96, go_sem, lx2 _ r0]) rfl ⟨rfl, HF.out.1⟩

set_option maxRecDepth 20000 in
set_option maxHeartbeats 4000000 in
theorem rfar_y (n m x y : Nat) (w : World) (HX : Hid (n * n = x)) (HY : Hid (2 * x = y)) (HL : Hid (y < m)) (hwn : wl n ≤ 600) (hwm : wl m ≤ 1200) :
    Calls Tryz.prog 99 #[(Value.agg #[.int .u64 ((lo (n) : Nat) : Int), .string (bg (n))]), (Value.agg #[.int .u64 ((lo (m) : Nat) : Int), .string (bg (m))])] w fun e w' => e = .returned ((.bool true)) ∧ Below w.heap.size w w' := by
  go_enter Tryz.func99, Tryz.ntmps99
  have HF := Lib.hid (hp0 w)
  refine kS fun K hK => ?_
  refine wp_region_lit ?_
  go_wp2
  refine hK.out _ _ ?_; clear hK K
  show Code.wp _ _ _ _ _
  refine fH (((HF.out).al (b := w.heap.size) (by first | rfl | simp) (by decide)).al (b := w.heap.size + 1) (by first | rfl | simp) (by decide)) fun Wx0 HG => ?_
  clear HF; have HF := HG; clear HG
  generalize w.heap.size + 1 = gx1 at *
  have su_0_1 : wl 2 ≤ 1 := wl_le.2 (by decide +kernel)
  have HZ1 : Hid ((n) * (n) = x) := Lib.hid (HX.out)
  have su1 : wl (x) ≤ 1200 := by have e := HZ1.out; first | omega | (rw [← e]; have := wl_mul (n) (n); omega)
  have HZ2 : Hid ((2) * (x) = y) := Lib.hid (HY.out)
  have su2 : wl (y) ≤ 1201 := by have e := HZ2.out; first | omega | (rw [← e]; have := wl_mul (2) (x); omega)
  have lx0 := HF.out.c 0 rfl
  have lx1 := HF.out.c 1 rfl
  refine kS fun K hK => ?_
  refine pd 8 [(true, 1), (true, 2), (true, 5), (true, 0), (true, 3), (true, 4), (true, 6), (true, 7)] fun T hT => ?_
  iterate 3 refine tk ?_
  refine ck Tryz.call24 (fun w' hw => nzof 2 _ (by decide)) ?_
  refine ck Tryz.call110 (fun w' hw => nzmul (n) (n) (x) _ HZ1.out om om) ?_
  refine ck Tryz.call110 (fun w' hw => nzmul (2) (x) (y) _ HZ2.out om om) ?_
  refine ck Tryz.call119 (fun w' hw => nzcmp (y) (m) (-1) _ (cmpI_lt (by have e : (y) < (m) := (by first | exact ok | exact HL.out); first | exact e | omega)) om om) ?_
  refine tk ?_
  refine nlD hT HF fun vw1 HG => ?_
  clear hT T HF lx0 lx1
  go_wp2
  refine hK.out _ _ ?_; clear hK K
  show Code.wp _ _ _ _ _
  refine fH (((HG.out).er 1).er 0) fun Wx1 HF => ?_
  clear HG
  refine wp_ret ?_
  try simp only [Exit.then, Exit.inBlock]
  exact bodyPost_ret (v := .bool true) (by simp [results, Tryz.results99, go_sem]) rfl ⟨rfl, HF.out.1⟩

set_option maxRecDepth 20000 in
set_option maxHeartbeats 4000000 in
theorem rfar_n (n m x y : Nat) (w : World) (HX : Hid (n * n = x)) (HY : Hid (2 * x = y)) (HL : Hid (¬ y < m)) (hwn : wl n ≤ 600) (hwm : wl m ≤ 1200) :
    Calls Tryz.prog 99 #[(Value.agg #[.int .u64 ((lo (n) : Nat) : Int), .string (bg (n))]), (Value.agg #[.int .u64 ((lo (m) : Nat) : Int), .string (bg (m))])] w fun e w' => e = .returned ((.bool false)) ∧ Below w.heap.size w w' := by
  go_enter Tryz.func99, Tryz.ntmps99
  have HF := Lib.hid (hp0 w)
  refine kS fun K hK => ?_
  refine wp_region_lit ?_
  go_wp2
  refine hK.out _ _ ?_; clear hK K
  show Code.wp _ _ _ _ _
  refine fH (((HF.out).al (b := w.heap.size) (by first | rfl | simp) (by decide)).al (b := w.heap.size + 1) (by first | rfl | simp) (by decide)) fun Wx0 HG => ?_
  clear HF; have HF := HG; clear HG
  generalize w.heap.size + 1 = gx1 at *
  have su_0_1 : wl 2 ≤ 1 := wl_le.2 (by decide +kernel)
  have HZ1 : Hid ((n) * (n) = x) := Lib.hid (HX.out)
  have su1 : wl (x) ≤ 1200 := by have e := HZ1.out; first | omega | (rw [← e]; have := wl_mul (n) (n); omega)
  have HZ2 : Hid ((2) * (x) = y) := Lib.hid (HY.out)
  have su2 : wl (y) ≤ 1201 := by have e := HZ2.out; first | omega | (rw [← e]; have := wl_mul (2) (x); omega)
  obtain ⟨c3, HC3⟩ : ∃ c, Hid (cmpI (y : Nat) (m : Nat) = c) := ⟨_, Lib.hid rfl⟩
  have hc3 : ¬ c3 < 0 := by rw [← HC3.out]; exact cmpI_nonneg (by have e : (m) ≤ (y) := (by have e9 := HL.out; omega); omega)
  have hd1 : ¬ (c3 < 0) := by first | exact ok | exact HL.out
  have lx0 := HF.out.c 0 rfl
  have lx1 := HF.out.c 1 rfl
  refine kS fun K hK => ?_
  refine pd 8 [(true, 1), (true, 2), (true, 5), (true, 0), (true, 3), (true, 4), (true, 6), (true, 7)] fun T hT => ?_
  iterate 3 refine tk ?_
  refine ck Tryz.call24 (fun w' hw => nzof 2 _ (by decide)) ?_
  refine ck Tryz.call110 (fun w' hw => nzmul (n) (n) (x) _ HZ1.out om om) ?_
  refine ck Tryz.call110 (fun w' hw => nzmul (2) (x) (y) _ HZ2.out om om) ?_
  refine ck Tryz.call119 (fun w' hw => nzcmp (y) (m) (c3) _ (HC3.out) om om) ?_
  refine tk ?_
  refine nlD hT HF fun vw1 HG => ?_
  clear hT T HF lx0 lx1
  go_wp2
  refine hK.out _ _ ?_; clear hK K
  show Code.wp _ _ _ _ _
  refine fH (((HG.out).er 1).er 0) fun Wx1 HF => ?_
  clear HG
  clear hc3 hd1
  refine wp_ret ?_
  try simp only [Exit.then, Exit.inBlock]
  exact bodyPost_ret (v := .bool false) (by simp [results, Tryz.results99, go_sem]) rfl ⟨rfl, HF.out.1⟩

theorem rfar1 (n m : Nat) (b : Bool) (w : World) (hb : decide (2 * (n * n) < m) = b) (hn : wl n ≤ 600) (hm : wl m ≤ 1200) :
    Calls Tryz.prog 99 #[(Value.agg #[.int .u64 ((lo (n) : Nat) : Int), .string (bg (n))]), (Value.agg #[.int .u64 ((lo (m) : Nat) : Int), .string (bg (m))])] w fun e w' => e = .returned (.bool b) ∧ Below w.heap.size w w' := by
  subst hb
  by_cases h : 2 * (n * n) < m
  · rw [decide_eq_true h]; exact rfar_y n m _ _ w (Lib.hid rfl) (Lib.hid rfl) (Lib.hid h) hn hm
  · rw [decide_eq_false h]; exact rfar_n n m _ _ w (Lib.hid rfl) (Lib.hid rfl) (Lib.hid h) hn hm

end Go.Proofs.YtobojnodohjiaaaGreatDoor
