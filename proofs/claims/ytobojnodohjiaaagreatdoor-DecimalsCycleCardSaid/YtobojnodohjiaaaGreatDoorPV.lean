/- A pack of texts: Frac4, FPow, FMax2. No condition but those stated. -/
import Derived.Test.YtobojnodohjiaaaGreatDoorPL
import Derived.Test.YtobojnodohjiaaaGreatDoorIntDiv
import Derived.Test.YtobojnodohjiaaaGreatDoorHp
import Derived.Test.YtobojnodohjiaaaGreatDoorPJ
set_option linter.unusedVariables false
set_option linter.unusedSimpArgs false

/- fracs: From, Num, Den, Abs, Square, Floor, Ceil, Of at 0. -/
namespace Go.Proofs.YtobojnodohjiaaaGreatDoor
open Go.RowKit
set_option linter.unusedSimpArgs false
set_option linter.unusedVariables false
attribute [local go_sem ↓] Go.wp_at_zero Go.wp_at_succ
attribute [local go_sem ↓] eq_nat eq_nat_zero eq_int
set_option maxRecDepth 20000 in
set_option maxHeartbeats 4000000 in
theorem ffrom_ok (n : Int) (d : Nat) (z : Rat) (w : World) (HZ : Hid (mkRat n d = z)) (hd : 0 < d) (hn9 : wl n.natAbs ≤ 100000000000) (hd9 : wl d ≤ 100000000000) :
    Calls Tryz.prog 102 #[(Value.agg #[.int .u64 ((lo (Int.natAbs (n)) : Nat) : Int), .string (bg (Int.natAbs (n))), .bool (decide ((n) < 0))]), (Value.agg #[.int .u64 ((lo (d) : Nat) : Int), .string (bg (d))])] w fun e w' => e = .returned (.tuple #[(.agg #[.int .u64 ((lo (Int.natAbs ((z).num)) : Nat) : Int), .string (bg (Int.natAbs ((z).num))), .bool (decide (((z).num) < 0)), .int .u64 ((lo ((z).den - 1) : Nat) : Int), .string (bg ((z).den - 1))]), .int .i64 0]) ∧ Below w.heap.size w w' := by
  go_enter Tryz.func102, Tryz.ntmps102
  have HF := Lib.hid (hp0 w)
  refine kS fun K hK => ?_
  refine wp_region_lit ?_
  go_wp2
  refine hK.out _ _ ?_; clear hK K
  show Code.wp _ _ _ _ _
  refine fH ((((HF.out).al (b := w.heap.size) (by first | rfl | simp) (by decide)).al (b := w.heap.size + 1) (by first | rfl | simp) (by decide)).al (b := w.heap.size + 1 + 1) (by first | rfl | simp) (by decide)) fun Wx0 HG => ?_
  clear HF; have HF := HG; clear HG
  generalize w.heap.size + 1 + 1 = gx2 at *
  generalize w.heap.size + 1 = gx1 at *
  refine wp_seq ?_
  have hd1 : decide (d = 0) = false := decide_eq_false (ok)
  have lx1 := HF.out.c 1 rfl
  refine kS fun K hK => ?_
  refine sq 3 [(true, 0), (true, 1), (true, 2)] fun T hT => ?_
  iterate 3 refine tk ?_
  refine nlS hT HF fun vw1 HG => ?_
  clear hT T HF lx1
  go_wp2
  refine hK.out _ _ ?_; clear hK K
  show Code.wp _ _ _ _ _
  have HF := HG; clear HG
  clear hd1
  refine wp_cond_false (by rfl) ?_
  refine wp_skip ?_
  show Code.wp _ _ _ _ _
  have HZ1 : Hid (mkRat (n) (d) = z) := Lib.hid (HZ.out)
  have su1 : sz (z) ≤ 100000000000 := by have e := HZ1.out; first | omega | (rw [← e]; exact sz_mkRat (k := 100000000000) om om (by decide))
  have lx0 := HF.out.c 0 rfl
  have lx1 := HF.out.c 1 rfl
  refine kS fun K hK => ?_
  refine sq 3 [(true, 0), (true, 1), (true, 2)] fun T hT => ?_
  iterate 2 refine tk ?_
  refine ck Tryz.call189 (fun w' hw => lowest_any (n) (d) (z) HZ1 (ok) om om _) ?_
  refine nlS hT HF fun vw2 HG => ?_
  clear hT T HF lx0 lx1
  have lx2 := HG.out.c 2 rfl; have fx2 := HG.out.f 2 rfl
  have r0 := Gr.refl vw2
  go_wp2
  refine hK.out _ _ ?_; clear hK K
  show Code.wp _ _ _ _ _
  clear r0 lx2 fx2
  refine fH ((((((HG.out).put2 2 0 rfl).put2 2 2 rfl).put 2 4 _ rfl).er 1).er 0) fun Wx3 HF => ?_
  clear HG
  refine wp_ret ?_
  try simp only [Exit.then, Exit.inBlock]
  have lx2 := HF.out.c 0 rfl
  have r0 := Gr.refl Wx3
  exact bodyPost_ret (v := .tuple #[(.agg #[.int .u64 ((lo (Int.natAbs ((z).num)) : Nat) : Int), .string (bg (Int.natAbs ((z).num))), .bool (decide (((z).num) < 0)), .int .u64 ((lo ((z).den - 1) : Nat) : Int), .string (bg ((z).den - 1))]), .int .i64 0]) (by simp [results, Tryz.results102, go_sem, lx2 _ r0]) rfl ⟨rfl, HF.out.1⟩

set_option maxRecDepth 20000 in
set_option maxHeartbeats 4000000 in
theorem fDen_any (q : Rat) (w : World) (hs : sz q ≤ 100000000000) :
    Calls Tryz.prog 38 #[(Value.agg #[.int .u64 ((lo (Int.natAbs ((q).num)) : Nat) : Int), .string (bg (Int.natAbs ((q).num))), .bool (decide (((q).num) < 0)), .int .u64 ((lo ((q).den - 1) : Nat) : Int), .string (bg ((q).den - 1))])] w fun e w' => e = .returned (((Value.agg #[.int .u64 ((lo ((q).den) : Nat) : Int), .string (bg ((q).den))]))) ∧ Below w.heap.size w w' := by
  go_enter Tryz.func38, Tryz.ntmps38
  have HF := Lib.hid (hp0 w)
  refine kS fun K hK => ?_
  refine wp_region_lit ?_
  go_wp2
  refine hK.out _ _ ?_; clear hK K
  show Code.wp _ _ _ _ _
  refine fH (((HF.out).al (b := w.heap.size) (by first | rfl | simp) (by decide)).al (b := w.heap.size + 1) (by first | rfl | simp) (by decide)) fun Wx0 HG => ?_
  clear HF; have HF := HG; clear HG
  generalize w.heap.size + 1 = gx1 at *
  have su1 : wl ((q).den) ≤ 100000000000 := Nat.le_trans (sz_den _) om
  have sp1 : 0 < (q).den := (q).den_pos
  have lx0 := HF.out.c 0 rfl
  refine kS fun K hK => ?_
  refine sq 2 [(true, 0), (true, 1)] fun T hT => ?_
  refine tk ?_
  refine ck Tryz.call114 (fun w' hw => fden_any (q) om _) ?_
  refine nlS hT HF fun vw1 HG => ?_
  clear hT T HF lx0
  have lx1 := HG.out.c 1 rfl; have fx1 := HG.out.f 1 rfl
  have r0 := Gr.refl vw1
  go_wp2
  refine hK.out _ _ ?_; clear hK K
  show Code.wp _ _ _ _ _
  clear r0 lx1 fx1
  refine fH (((HG.out).put2 1 0 rfl).er 0) fun Wx1 HF => ?_
  clear HG
  refine wp_ret ?_
  try simp only [Exit.then, Exit.inBlock]
  have lx1 := HF.out.c 0 rfl
  have r0 := Gr.refl Wx1
  exact bodyPost_ret (v := .agg #[.int .u64 ((lo ((q).den) : Nat) : Int), .string (bg ((q).den))]) (by simp [results, Tryz.results38, go_sem, lx1 _ r0]) rfl ⟨rfl, HF.out.1⟩

theorem wl_floor (q : Rat) : wl (Int.natAbs (q.floor)) ≤ sz q + 1 := by
  rw [Rat.floor_def]
  exact Nat.le_trans (wl_idiv _ _) (by have := sz_num q; omega)
theorem ceil_neg (q : Rat) : -((-q).floor) = q.ceil := (Rat.ceil_eq_neg_floor_neg q).symm
theorem wl_ceil (q : Rat) : wl (Int.natAbs (q.ceil)) ≤ sz q + 1 := by
  rw [← ceil_neg, Int.natAbs_neg, ← sz_neg q]
  exact wl_floor (-q)

set_option maxRecDepth 20000 in
set_option maxHeartbeats 4000000 in
theorem ffloor_any (q : Rat) (z : Int) (w : World) (HZ : Hid (q.floor = z)) (hs : sz q ≤ 10000000000) :
    Calls Tryz.prog 142 #[(Value.agg #[.int .u64 ((lo (Int.natAbs ((q).num)) : Nat) : Int), .string (bg (Int.natAbs ((q).num))), .bool (decide (((q).num) < 0)), .int .u64 ((lo ((q).den - 1) : Nat) : Int), .string (bg ((q).den - 1))])] w fun e w' => e = .returned (.agg #[.int .u64 ((lo (Int.natAbs (z)) : Nat) : Int), .string (bg (Int.natAbs (z))), .bool (decide ((z) < 0))]) ∧ Below w.heap.size w w' := by
  have hn_q : wl (Int.natAbs ((q).num)) ≤ 10000000000 := Nat.le_trans (sz_num q) hs
  have hp_q := q.den_pos
  go_enter Tryz.func142, Tryz.ntmps142
  have HF := Lib.hid (hp0 w)
  refine kS fun K hK => ?_
  refine wp_region_lit ?_
  go_wp2
  refine hK.out _ _ ?_; clear hK K
  show Code.wp _ _ _ _ _
  refine fH (((HF.out).al (b := w.heap.size) (by first | rfl | simp) (by decide)).al (b := w.heap.size + 1) (by first | rfl | simp) (by decide)) fun Wx0 HG => ?_
  clear HF; have HF := HG; clear HG
  generalize w.heap.size + 1 = gx1 at *
  obtain ⟨u1, HZ1⟩ : ∃ z, Hid (((q).den : Int) = z) := ⟨_, Lib.hid rfl⟩
  have su1 : wl (Int.natAbs (u1)) ≤ 10000000000 := by rw [← HZ1.out]; rw [Int.natAbs_natCast]; exact Nat.le_trans (sz_den _) (by omega)
  have HZ2 : Hid (((q).num) / (u1) = z) := Lib.hid (by rw [← HZ.out, Rat.floor_def]; simp only [← HZ1.out])
  have su2 : wl (Int.natAbs (z)) ≤ 10000000001 := by have e := HZ2.out; first | omega | (rw [← e]; have := wl_idiv ((q).num) (u1); omega)
  obtain ⟨u3, HZ3⟩ : ∃ z, Hid (((q).num) % (u1) = z) := ⟨_, Lib.hid rfl⟩
  have su3 : wl (Int.natAbs (u3)) ≤ 10000000000 := by rw [← HZ3.out]; have := wl_imod ((q).num) (u1) (by simp only [← HZ1.out]; omega); omega
  have lx0 := HF.out.c 0 rfl
  refine kS fun K hK => ?_
  refine wp_region_plan 11 [9, 10] [7, 8] (fun i => if i = 9 then 3 else 4) (fun i => if i = 9 then .cells #[.int .u64 0, .string ⟨#[]⟩, .bool false] 34 else .cells #[.int .u64 0, .string ⟨#[]⟩, .bool false] 34) [(true, 0), (true, 1), (true, 2), (true, 3), (true, 4), (true, 5), (true, 6), (true, 7), (true, 8)] (by kernel_rfl) (by kernel_rfl) (by intro i hi; simp only [List.mem_cons, List.not_mem_nil, or_false] at hi; rcases hi with rfl | rfl <;> exact ⟨_, rfl, rfl, rfl, by simp, fun ρ w => by kernel_rfl⟩) (by intro i hi; simp only [List.mem_cons, List.not_mem_nil, or_false] at hi; rcases hi with rfl | rfl <;> exact ⟨_, rfl, pure_extract⟩) (fun _ _ _ _ _ h => h) (fun T hT => ?_)
  iterate 3 refine tk ?_
  refine ck Tryz.call213 (fun w' hw => fsigned_any (q) (u1) _ HZ1.out om) ?_
  refine ck Tryz.call42 (fun w' hw => zidiv ((q).num) (u1) (z) (u3) _ HZ2.out HZ3.out (by simp only [← HZ3.out, ← HZ1.out]; omega) om om) ?_
  iterate 4 refine tk ?_
  refine wpPlan_nil (hT.out _ _ ?_)
  intro G vw1 hg hf
  simp only [puts, Act.put, lA, lB, lC, lD, lE, ↓reduceIte, Nat.reduceEqDiff]
  have HG := Lib.hid (HF.out.fr hg hf (zs := [(#[.int .u64 0, .string ⟨#[]⟩, .bool false], 34), (#[.int .u64 0, .string ⟨#[]⟩, .bool false], 34)]) rfl (by decide) (by decide))
  simp only [List.zip_cons_cons, List.zip_nil_right, List.map_cons, List.map_nil, lF, lG] at HG
  clear hT T HF hg hf lx0
  generalize G 9 = gx3 at *
  generalize G 10 = gx4 at *
  have lx3 := HG.out.c 2 rfl; have fx3 := HG.out.f 2 rfl
  have lx4 := HG.out.c 3 rfl; have fx4 := HG.out.f 3 rfl
  have r0 := Gr.refl vw1
  obtain ⟨d3_4, d4_3⟩ := HG.out.ne 2 3 rfl rfl (by decide)
  go_wp2
  refine hK.out _ _ ?_; clear hK K
  show Code.wp _ _ _ _ _
  clear r0 lx3 fx3 lx4 fx4 d3_4 d4_3
  refine fH (((((((HG.out).put2 2 0 rfl).put 2 2 _ rfl).put2 3 0 rfl).put 3 2 _ rfl).er 3).er 0) fun Wx1 HF => ?_
  clear HG
  have lx3 := HF.out.c 1 rfl
  refine kS fun K hK => ?_
  refine sq 1 [(true, 0)] fun T hT => ?_
  refine tk ?_
  refine nlS hT HF fun vw2 HG => ?_
  clear hT T HF lx3
  have lx1 := HG.out.c 0 rfl; have fx1 := HG.out.f 0 rfl
  have r0 := Gr.refl vw2
  go_wp2
  refine hK.out _ _ ?_; clear hK K
  show Code.wp _ _ _ _ _
  clear r0 lx1 fx1
  refine fH ((((HG.out).put2 0 0 rfl).put 0 2 _ rfl).er 1) fun Wx2 HF => ?_
  clear HG
  refine wp_ret ?_
  try simp only [Exit.then, Exit.inBlock]
  have lx1 := HF.out.c 0 rfl
  have r0 := Gr.refl Wx2
  exact bodyPost_ret (v := .agg #[.int .u64 ((lo (Int.natAbs (z)) : Nat) : Int), .string (bg (Int.natAbs (z))), .bool (decide ((z) < 0))]) (by simp [results, Tryz.results142, go_sem, lx1 _ r0]) rfl ⟨rfl, HF.out.1⟩

set_option maxRecDepth 20000 in
set_option maxHeartbeats 4000000 in
theorem fceil_any (q : Rat) (z : Int) (w : World) (HZ : Hid (q.ceil = z)) (hs : sz q ≤ 10000000000) :
    Calls Tryz.prog 148 #[(Value.agg #[.int .u64 ((lo (Int.natAbs ((q).num)) : Nat) : Int), .string (bg (Int.natAbs ((q).num))), .bool (decide (((q).num) < 0)), .int .u64 ((lo ((q).den - 1) : Nat) : Int), .string (bg ((q).den - 1))])] w fun e w' => e = .returned (.agg #[.int .u64 ((lo (Int.natAbs (z)) : Nat) : Int), .string (bg (Int.natAbs (z))), .bool (decide ((z) < 0))]) ∧ Below w.heap.size w w' := by
  go_enter Tryz.func148, Tryz.ntmps148
  have HF := Lib.hid (hp0 w)
  refine kS fun K hK => ?_
  refine wp_region_lit ?_
  go_wp2
  refine hK.out _ _ ?_; clear hK K
  show Code.wp _ _ _ _ _
  refine fH (((HF.out).al (b := w.heap.size) (by first | rfl | simp) (by decide)).al (b := w.heap.size + 1) (by first | rfl | simp) (by decide)) fun Wx0 HG => ?_
  clear HF; have HF := HG; clear HG
  generalize w.heap.size + 1 = gx1 at *
  obtain ⟨u1, HZ1⟩ : ∃ z, Hid (-(q) = z) := ⟨_, Lib.hid rfl⟩
  have su1 : sz (u1) ≤ 10000000000 := by rw [← HZ1.out]; rw [sz_neg]; omega
  obtain ⟨u2, HZ2⟩ : ∃ z, Hid ((u1).floor = z) := ⟨_, Lib.hid rfl⟩
  have su2 : wl (Int.natAbs (u2)) ≤ 10000000001 := by rw [← HZ2.out]; have := wl_floor (u1); omega
  have HZ3 : Hid (-(u2) = z) := Lib.hid (by rw [← HZ.out, ← ceil_neg]; simp only [← HZ2.out, ← HZ1.out])
  have su3 : wl (Int.natAbs (z)) ≤ 10000000001 := by have e := HZ3.out; first | omega | (rw [← e]; rw [Int.natAbs_neg]; omega)
  have lx0 := HF.out.c 0 rfl
  refine kS fun K hK => ?_
  refine sq 4 [(true, 0), (true, 1), (true, 2), (true, 3)] fun T hT => ?_
  refine tk ?_
  refine ck Tryz.call45 (fun w' hw => fneg_any (q) (u1) _ HZ1.out) ?_
  refine ck Tryz.call142 (fun w' hw => ffloor_any (u1) (u2) _ (Lib.hid HZ2.out) om) ?_
  refine ck Tryz.call44 (fun w' hw => zineg (u2) (z) _ HZ3.out) ?_
  refine nlS hT HF fun vw1 HG => ?_
  clear hT T HF lx0
  have lx1 := HG.out.c 1 rfl; have fx1 := HG.out.f 1 rfl
  have r0 := Gr.refl vw1
  go_wp2
  refine hK.out _ _ ?_; clear hK K
  show Code.wp _ _ _ _ _
  clear r0 lx1 fx1
  refine fH ((((HG.out).put2 1 0 rfl).put 1 2 _ rfl).er 0) fun Wx1 HF => ?_
  clear HG
  refine wp_ret ?_
  try simp only [Exit.then, Exit.inBlock]
  have lx1 := HF.out.c 0 rfl
  have r0 := Gr.refl Wx1
  exact bodyPost_ret (v := .agg #[.int .u64 ((lo (Int.natAbs (z)) : Nat) : Int), .string (bg (Int.natAbs (z))), .bool (decide ((z) < 0))]) (by simp [results, Tryz.results148, go_sem, lx1 _ r0]) rfl ⟨rfl, HF.out.1⟩

end Go.Proofs.YtobojnodohjiaaaGreatDoor


/- fracs.Pow. -/
namespace Go.Proofs.YtobojnodohjiaaaGreatDoor
open Go.RowKit
set_option linter.unusedSimpArgs false
set_option linter.unusedVariables false
attribute [local go_sem ↓] Go.wp_at_zero Go.wp_at_succ
attribute [local go_sem ↓] eq_nat eq_nat_zero eq_int
end Go.Proofs.YtobojnodohjiaaaGreatDoor


/- fracs.Max of no numbers and of two. -/
namespace Go.Proofs.YtobojnodohjiaaaGreatDoor
open Go.RowKit
set_option linter.unusedSimpArgs false
set_option linter.unusedVariables false
attribute [local go_sem ↓] Go.wp_at_zero Go.wp_at_succ
attribute [local go_sem ↓] eq_nat eq_nat_zero eq_int
end Go.Proofs.YtobojnodohjiaaaGreatDoor
