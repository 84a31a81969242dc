
/- ReconsJoins: no moduli; long arguments; all ways. -/
import Derived.Test.YtobojnodohjiaaaGreatDoorRecJ
namespace Go.Proofs.YtobojnodohjiaaaGreatDoor
open Go.RowKit
set_option linter.unusedSimpArgs false
set_option linter.unusedVariables false
attribute [local go_sem ↓] Go.wp_at_zero Go.wp_at_succ
attribute [local go_sem ↓] eq_nat eq_nat_zero eq_int eq_frac eq_frac_zero
attribute [local go_sem] Instr.field asAgg
attribute [local go_sem ↓] eq_rest_self
theorem eq_rest_z (d : Nat) (a : Int) (m : Nat) (w : World) : (Op.equalIn (d + 5) 71 (.agg #[.int .u64 0, .string ⟨#[]⟩, .bool false, .int .u64 ((lo (m) : Nat) : Int), .string (bg (m))]) (.agg #[.int .u64 ((lo (Int.natAbs (a)) : Nat) : Int), .string (bg (Int.natAbs (a))), .bool (decide ((a) < 0)), .int .u64 ((lo (m) : Nat) : Int), .string (bg (m))])).run Tryz.prog w = .ok (decide ((0 : Int) = a)) w := by
  show (Op.equalIn (d + 5) 71 (.agg #[.int .u64 ((lo (Int.natAbs ((0 : Int))) : Nat) : Int), .string (bg (Int.natAbs ((0 : Int)))), .bool (decide (((0 : Int)) < 0)), .int .u64 ((lo (m) : Nat) : Int), .string (bg (m))]) (.agg #[.int .u64 ((lo (Int.natAbs (a)) : Nat) : Int), .string (bg (Int.natAbs (a))), .bool (decide ((a) < 0)), .int .u64 ((lo (m) : Nat) : Int), .string (bg (m))])).run Tryz.prog w = .ok (decide ((0 : Int) = a)) w
  by_cases h : (0 : Int) = a
  · subst h; rw [eq_rest_self, decide_eq_true rfl]
  · rw [decide_eq_false h]; simp [go_sem, eq_int, eq_nat, h]; omega
attribute [local go_sem ↓] eq_rest_z

theorem nzof1 (z : Nat) (w : World) (hz : 1 = z) :
    Calls Tryz.prog 24 #[.int .u64 1] w fun e w' => e = .returned (Value.agg #[.int .u64 ((lo (z) : Nat) : Int), .string (bg (z))]) ∧ Below w.heap.size w w' := hz ▸ nzof 1 w (by decide)

set_option maxRecDepth 100000 in
set_option maxHeartbeats 8000000 in
theorem joins_nil (bbx : Bool) (vx : Value) (kx : Nat) (fx : Nat → Nat) (mx : Nat) (a : Int) (v : Value) (fw : Nat → Nat) (f : Nat → Int × Nat) (t R0 : Int) (M0 : Nat) (w : World) (HWx : Hid (Wa w vx kx fx)) (HFx : Hid (∀ i, i < kx → fx i < 4294967296)) (HVx : Hid (vl fx kx = mx)) (HAx : Hid ((if bbx then -((mx : Nat) : Int) else ((mx : Nat) : Int)) = a)) (hkx : kx ≤ 8) (HWA : Hid (Wa w v 0 fw)) (HM0 : Hid (1 = M0)) (HRM : Hid (a % ((M0 : Nat) : Int) = R0)) (HR0 : Hid ((0 : Int) = R0)) (HCV : Hid (chv f 0 R0 M0 0)) (hwM : wl M0 ≤ 1) (hwR : wl R0.natAbs ≤ 1) (HT : Hid (Tab w)) :
    Calls Tryz.prog 7 #[.agg #[.bool bbx, vx], v, .int .i64 t] w fun e w' => e = .returned (.bool true) ∧ Below w.heap.size w w' := by
  obtain ⟨ao_x, c_x, rfl⟩ := HWx.out.slice
  have hm_x : wl mx ≤ 8 := by rw [← HVx.out]; have := wl_le.2 (vl_lt HFx.out); omega
  have hb_x : wl (Int.natAbs (a)) ≤ 8 := by rw [zsize HAx.out]; exact hm_x
  obtain ⟨ao, c, rfl⟩ := HWA.out.slice
  go_enter Tryz.func7, Tryz.ntmps7
  have HF := Lib.hid (hp0 w)
  refine kS fun K hK => ?_
  refine wp_region_lit ?_
  go_wp2
  refine hK.out _ _ ?_; clear hK K
  show Code.wp _ _ _ _ _
  refine fH ((HF.out).al (b := w.heap.size) (by first | rfl | simp) (by decide)) fun Wx0 HG => ?_
  clear HF; have HF := HG; clear HG
  refine wp_seq ?_
  have hx8 : ¬ 8 < (kx : Int) := by omega
  have hd1 : ¬ (6 < (((0 : Int) : Int))) := ok
  have lx0 := HF.out.c 0 rfl
  refine kS fun K hK => ?_
  refine sq 9 [(true, 0), (true, 1), (true, 2), (true, 3), (true, 4), (true, 5), (true, 6), (true, 7), (true, 8)] fun T hT => ?_
  iterate 9 refine tk ?_
  refine nlS hT HF fun vw1 HG => ?_
  clear hT T HF lx0
  go_wp2
  refine hK.out _ _ ?_; clear hK K
  show Code.wp _ _ _ _ _
  have HF := HG; clear HG
  clear hx8 hd1
  refine wp_cond_false (by rfl) ?_
  refine wp_skip ?_
  show Code.wp _ _ _ _ _
  have HB := HPb HF
  have lx0 := HF.out.c 0 rfl
  refine kS fun K hK => ?_
  refine sq 2 [(true, 0), (true, 1)] fun T hT => ?_
  refine tk ?_
  refine ck Tryz.call32 (fun w' hw => zlof bbx kx fx mx a ao_x c_x w' (Lib.hid (HWx.out.gr (Gr.trans HB.out hw))) HFx HVx HAx om om) ?_
  refine nlS hT HF fun vw2 HG => ?_
  clear hT T HF lx0 HB
  go_wp2
  refine hK.out _ _ ?_; clear hK K
  show Code.wp _ _ _ _ _
  refine fH (((HG.out).al (b := vw2.heap.size) (by first | rfl | simp) (by decide)).er 0) fun Wx3 HF => ?_
  clear HG
  generalize vw2.heap.size = gx2 at *
  refine kS fun K hK => ?_
  go_wp2
  refine hK.out _ _ ?_; clear hK K
  show Code.wp _ _ _ _ _
  refine wp_seq ?_
  refine kS fun K hK => ?_
  refine wp_region_lit ?_
  go_wp2
  refine hK.out _ _ ?_; clear hK K
  show Code.wp _ _ _ _ _
  refine fH (HF.out) fun Wx5 HG => ?_
  clear HF; have HF := HG; clear HG
  refine wp_block ?_
  refine wp_loop_rounds 1 ?_
  rw [rounds_succ]
  refine wp_seq ?_
  have hd2 : ¬ (0 < (((0 : Int) : Int))) := ok
  refine kS fun K hK => ?_
  refine sq 4 [(true, 0), (true, 1), (true, 2), (true, 3)] fun T hT => ?_
  iterate 4 refine tk ?_
  refine nlS hT HF fun vw3 HG => ?_
  clear hT T HF
  go_wp2
  refine hK.out _ _ ?_; clear hK K
  show Code.wp _ _ _ _ _
  have HF := HG; clear HG
  clear hd2
  refine wp_cond_false (by rfl) ?_
  refine wp_exit ?_
  show Code.wp _ _ _ _ _
  refine kS fun K hK => ?_
  refine wp_region_lit ?_
  go_wp2
  refine hK.out _ _ ?_; clear hK K
  show Code.wp _ _ _ _ _
  refine fH (HF.out) fun Wx10 HG => ?_
  clear HF; have HF := HG; clear HG
  refine wp_seq ?_
  refine kS fun K hK => ?_
  refine sq 3 [(true, 0), (true, 1), (true, 2)] fun T hT => ?_
  iterate 3 refine tk ?_
  refine nlS hT HF fun vw4 HG => ?_
  clear hT T HF
  go_wp2
  refine hK.out _ _ ?_; clear hK K
  show Code.wp _ _ _ _ _
  have HF := HG; clear HG
  refine wp_cond_false (by rfl) ?_
  refine wp_skip ?_
  show Code.wp _ _ _ _ _
  refine kS fun K hK => ?_
  go_wp2
  refine hK.out _ _ ?_; clear hK K
  show Code.wp _ _ _ _ _
  refine kS fun K hK => ?_
  go_wp2
  refine hK.out _ _ ?_; clear hK K
  show Code.wp _ _ _ _ _
  have su1a : wl (Int.natAbs (R0)) ≤ 20 := om
  have su1b : wl (M0) ≤ 20 := om
  refine kS fun K hK => ?_
  refine sq 5 [(true, 0), (true, 1), (true, 2), (true, 3), (true, 4)] fun T hT => ?_
  refine tk ?_
  refine ck Tryz.call29 (fun w' hw => rchinese _ 0 f (R0) (M0) (0) _ HCV.out (rs0 _ _) (by omega) (fun i hi => absurd hi (Nat.not_lt_zero _))) ?_
  iterate 3 refine tk ?_
  refine nlS hT HF fun vw5 HG => ?_
  clear hT T HF
  go_wp2
  refine hK.out _ _ ?_; clear hK K
  show Code.wp _ _ _ _ _
  refine fH ((HG.out).al (b := vw5.heap.size) (by first | rfl | simp) (by decide)) fun Wx15 HF => ?_
  clear HG
  generalize vw5.heap.size = gx3 at *
  have su2a : wl (Int.natAbs (R0)) ≤ 20 := om
  have su2b : wl (M0) ≤ 20 := om
  refine kS fun K hK => ?_
  refine sq 5 [(true, 0), (true, 1), (true, 2), (true, 3), (true, 4)] fun T hT => ?_
  refine tk ?_
  refine ck Tryz.call29 (fun w' hw => rchinese _ 0 f (R0) (M0) (0) _ HCV.out (rs0 _ _) (by omega) (fun i hi => absurd hi (Nat.not_lt_zero _))) ?_
  iterate 3 refine tk ?_
  refine nlS hT HF fun vw6 HG => ?_
  clear hT T HF
  go_wp2
  refine hK.out _ _ ?_; clear hK K
  show Code.wp _ _ _ _ _
  refine fH ((HG.out).al (b := vw6.heap.size) (by first | rfl | simp) (by decide)) fun Wx16 HF => ?_
  clear HG
  generalize vw6.heap.size = gx4 at *
  refine kS fun K hK => ?_
  refine sq 2 [(true, 0), (true, 1)] fun T hT => ?_
  refine ck Tryz.call24 (fun w' hw => nzof1 M0 _ HM0.out) ?_
  refine tk ?_
  refine nlS hT HF fun vw7 HG => ?_
  clear hT T HF
  go_wp2
  refine hK.out _ _ ?_; clear hK K
  show Code.wp _ _ _ _ _
  refine fH ((HG.out).al (b := vw7.heap.size) (by first | rfl | simp) (by decide)) fun Wx17 HF => ?_
  clear HG
  generalize vw7.heap.size = gx5 at *
  refine wp_seq ?_
  refine kS fun K hK => ?_
  refine wp_region_lit ?_
  go_wp2
  refine hK.out _ _ ?_; clear hK K
  show Code.wp _ _ _ _ _
  refine fH (HF.out) fun Wx18 HG => ?_
  clear HF; have HF := HG; clear HG
  refine wp_block ?_
  refine wp_loop_rounds 1 ?_
  rw [rounds_succ]
  refine wp_seq ?_
  refine kS fun K hK => ?_
  refine sq 4 [(true, 0), (true, 1), (true, 2), (true, 3)] fun T hT => ?_
  iterate 4 refine tk ?_
  refine nlS hT HF fun vw8 HG => ?_
  clear hT T HF
  go_wp2
  refine hK.out _ _ ?_; clear hK K
  show Code.wp _ _ _ _ _
  have HF := HG; clear HG
  refine wp_cond_false (by rfl) ?_
  refine wp_exit ?_
  show Code.wp _ _ _ _ _
  have HZ3 : Hid ((if false then -((M0 : Nat) : Int) else ((M0 : Nat) : Int)) = ((M0 : Nat) : Int)) := Lib.hid (by rfl)
  have su3 : wl (Int.natAbs (((M0 : Nat) : Int))) ≤ 20 := by have e := HZ3.out; first | omega | (rw [← e]; split <;> simp <;> omega)
  have HZ4 : Hid ((a) / (((M0 : Nat) : Int)) = (a / ((M0 : Nat) : Int))) := Lib.hid (rfl)
  have su4 : wl (Int.natAbs ((a / ((M0 : Nat) : Int)))) ≤ 9 := by have := wl_idiv (a) (((M0 : Nat) : Int)); omega
  have HZ5 : Hid ((a) % (((M0 : Nat) : Int)) = R0) := Lib.hid (HRM.out)
  have su5 : wl (Int.natAbs (R0)) ≤ 20 := by have e := HZ5.out; first | omega | (rw [← e]; have := wl_imod (a) (((M0 : Nat) : Int)) (by have e9 := HM0.out; omega); omega)
  have lx2 := HF.out.c 0 rfl
  have lx3 := HF.out.c 1 rfl
  refine kS fun K hK => ?_
  refine wp_region_plan 11 [9, 10] [7, 8] (fun i => if i = 9 then 19 else 20) (fun i => if i = 9 then .cells #[.int .u64 0, .string ⟨#[]⟩, .bool false] 34 else .cells #[.int .u64 0, .string ⟨#[]⟩, .bool false] 34) [(true, 0), (true, 1), (true, 2), (true, 3), (true, 4), (true, 5), (true, 6), (true, 7), (true, 8)] (by kernel_rfl) (by kernel_rfl) (by intro i hi; simp only [List.mem_cons, List.not_mem_nil, or_false] at hi; rcases hi with rfl | rfl <;> exact ⟨_, rfl, rfl, rfl, by simp, fun ρ w => by kernel_rfl⟩) (by intro i hi; simp only [List.mem_cons, List.not_mem_nil, or_false] at hi; rcases hi with rfl | rfl <;> exact ⟨_, rfl, pure_extract⟩) (fun _ _ _ _ _ h => h) (fun T hT => ?_)
  iterate 3 refine tk ?_
  refine ck Tryz.call37 (fun w' hw => from_any false (M0) (((M0 : Nat) : Int)) _ HZ3.out) ?_
  refine ck Tryz.call42 (fun w' hw => zidiv (a) (((M0 : Nat) : Int)) ((a / ((M0 : Nat) : Int))) (R0) _ HZ4.out HZ5.out (by have e9 := HM0.out; omega) om om) ?_
  iterate 4 refine tk ?_
  refine wpPlan_nil (hT.out _ _ ?_)
  intro G vw9 hg hf
  simp only [puts, Act.put, lA, lB, lC, lD, lE, ↓reduceIte, Nat.reduceEqDiff]
  have HG := Lib.hid (HF.out.fr hg hf (zs := [(#[.int .u64 0, .string ⟨#[]⟩, .bool false], 34), (#[.int .u64 0, .string ⟨#[]⟩, .bool false], 34)]) rfl (by decide) (by decide))
  simp only [List.zip_cons_cons, List.zip_nil_right, List.map_cons, List.map_nil, lF, lG] at HG
  clear hT T HF hg hf lx2 lx3
  generalize G 9 = gx6 at *
  generalize G 10 = gx7 at *
  have lx6 := HG.out.c 4 rfl; have fx6 := HG.out.f 4 rfl
  have lx7 := HG.out.c 5 rfl; have fx7 := HG.out.f 5 rfl
  have r0 := Gr.refl vw9
  obtain ⟨d6_7, d7_6⟩ := HG.out.ne 4 5 rfl rfl (by decide)
  go_wp2
  refine hK.out _ _ ?_; clear hK K
  show Code.wp _ _ _ _ _
  clear r0 lx6 fx6 lx7 fx7 d6_7 d7_6
  refine fH (((((((HG.out).put2 4 0 rfl).put 4 2 _ rfl).put2 5 0 rfl).put 5 2 _ rfl).er 4).er 0) fun Wx22 HF => ?_
  clear HG
  refine wp_seq ?_
  have hz14 : decide ((0 : Int) = R0) = true := decide_eq_true HR0.out
  have lx3 := HF.out.c 0 rfl
  have lx4 := HF.out.c 1 rfl
  have lx5 := HF.out.c 2 rfl
  have lx7 := HF.out.c 3 rfl
  refine kS fun K hK => ?_
  refine sq 26 [(true, 0), (true, 1), (true, 2), (true, 3), (true, 4), (true, 5), (true, 6), (true, 7), (true, 8), (true, 9), (true, 10), (true, 11), (true, 12), (true, 13), (true, 14), (true, 15), (true, 16), (true, 17), (true, 18), (true, 19), (true, 20), (true, 21), (true, 22), (true, 23), (true, 24), (true, 25)] fun T hT => ?_
  iterate 26 refine tk ?_
  refine nlS hT HF fun vw10 HG => ?_
  clear hT T HF lx3 lx4 lx5 lx7
  go_wp2
  refine hK.out _ _ ?_; clear hK K
  show Code.wp _ _ _ _ _
  refine fH ((((HG.out).er 3).er 2).er 1) fun Wx23 HF => ?_
  clear HG
  clear hz14
  refine wp_cond_false (by rfl) ?_
  refine wp_skip ?_
  show Code.wp _ _ _ _ _
  refine wp_seq ?_
  refine kS fun K hK => ?_
  refine wp_region_lit ?_
  go_wp2
  refine hK.out _ _ ?_; clear hK K
  show Code.wp _ _ _ _ _
  refine fH (HF.out) fun Wx25 HG => ?_
  clear HF; have HF := HG; clear HG
  refine wp_block ?_
  refine wp_loop_rounds 1 ?_
  rw [rounds_succ]
  refine wp_seq ?_
  refine kS fun K hK => ?_
  refine sq 4 [(true, 0), (true, 1), (true, 2), (true, 3)] fun T hT => ?_
  iterate 4 refine tk ?_
  refine nlS hT HF fun vw11 HG => ?_
  clear hT T HF
  go_wp2
  refine hK.out _ _ ?_; clear hK K
  show Code.wp _ _ _ _ _
  have HF := HG; clear HG
  refine wp_cond_false (by rfl) ?_
  refine wp_exit ?_
  show Code.wp _ _ _ _ _
  have HB := HPb HF
  refine kS fun K hK => ?_
  refine sq 2 [(true, 0), (true, 1)] fun T hT => ?_
  refine ck Tryz.call27 (fun w' hw => works7_any _ (Lib.hid (HT.out.gr (Gr.trans HB.out hw)))) ?_
  refine tk ?_
  refine nlS hT HF fun vw12 HG => ?_
  clear hT T HF HB
  go_wp2
  refine hK.out _ _ ?_; clear hK K
  show Code.wp _ _ _ _ _
  refine fH ((HG.out).er 0) fun Wx35 HF => ?_
  clear HG
  refine wp_ret ?_
  try simp only [Exit.then, Exit.inBlock]
  exact bodyPost_ret (v := .bool true) (by simp [results, Tryz.results7, go_sem]) rfl ⟨rfl, HF.out.1⟩

set_option maxRecDepth 100000 in
set_option maxHeartbeats 8000000 in
theorem joins_bigx (bbx : Bool) (vx : Value) (kx : Nat) (fx : Nat → Nat) (mx : Nat) (a : Int) (v : Value) (n : Nat) (fw : Nat → Nat) (t : Int) (w : World) (HWx : Hid (Wa w vx kx fx)) (HFx : Hid (∀ i, i < kx → fx i < 4294967296)) (HVx : Hid (vl fx kx = mx)) (HAx : Hid ((if bbx then -((mx : Nat) : Int) else ((mx : Nat) : Int)) = a)) (hkx : 8 < kx) (HWA : Hid (Wa w v n fw)) (HT : Hid (Tab w)) :
    Calls Tryz.prog 7 #[.agg #[.bool bbx, vx], v, .int .i64 t] w fun e w' => e = .returned (.bool true) ∧ Below w.heap.size w w' := by
  obtain ⟨ao_x, c_x, rfl⟩ := HWx.out.slice
  obtain ⟨ao, c, rfl⟩ := HWA.out.slice
  go_enter Tryz.func7, Tryz.ntmps7
  have HF := Lib.hid (hp0 w)
  refine kS fun K hK => ?_
  refine wp_region_lit ?_
  go_wp2
  refine hK.out _ _ ?_; clear hK K
  show Code.wp _ _ _ _ _
  refine fH ((HF.out).al (b := w.heap.size) (by first | rfl | simp) (by decide)) fun Wx0 HG => ?_
  clear HF; have HF := HG; clear HG
  refine wp_seq ?_
  have hx8 : 8 < (kx : Int) := by omega
  have lx0 := HF.out.c 0 rfl
  refine kS fun K hK => ?_
  refine sq 9 [(true, 0), (true, 1), (true, 2), (true, 3), (true, 4), (true, 5), (true, 6), (true, 7), (true, 8)] fun T hT => ?_
  iterate 5 refine tk ?_
  iterate 3 refine sk ?_
  refine tk ?_
  refine nlS hT HF fun vw1 HG => ?_
  clear hT T HF lx0
  go_wp2
  refine hK.out _ _ ?_; clear hK K
  show Code.wp _ _ _ _ _
  have HF := HG; clear HG
  clear hx8
  refine wp_cond_true (by rfl) ?_
  have HB := HPb HF
  refine kS fun K hK => ?_
  refine sq 2 [(true, 0), (true, 1)] fun T hT => ?_
  refine ck Tryz.call27 (fun w' hw => works7_any _ (Lib.hid (HT.out.gr (Gr.trans HB.out hw)))) ?_
  refine tk ?_
  refine nlS hT HF fun vw2 HG => ?_
  clear hT T HF HB
  go_wp2
  refine hK.out _ _ ?_; clear hK K
  show Code.wp _ _ _ _ _
  have HF := HG; clear HG
  refine wp_ret ?_
  try simp only [Exit.then, Exit.inBlock]
  exact bodyPost_ret (v := .bool true) (by simp [results, Tryz.results7, go_sem]) rfl ⟨rfl, HF.out.1⟩

set_option maxRecDepth 100000 in
set_option maxHeartbeats 8000000 in
theorem joins_bign (bbx : Bool) (vx : Value) (kx : Nat) (fx : Nat → Nat) (mx : Nat) (a : Int) (v : Value) (n : Nat) (fw : Nat → Nat) (t : Int) (w : World) (HWx : Hid (Wa w vx kx fx)) (HFx : Hid (∀ i, i < kx → fx i < 4294967296)) (HVx : Hid (vl fx kx = mx)) (HAx : Hid ((if bbx then -((mx : Nat) : Int) else ((mx : Nat) : Int)) = a)) (hkx : kx ≤ 8) (hn : 6 < n) (HWA : Hid (Wa w v n fw)) (HT : Hid (Tab w)) :
    Calls Tryz.prog 7 #[.agg #[.bool bbx, vx], v, .int .i64 t] w fun e w' => e = .returned (.bool true) ∧ Below w.heap.size w w' := by
  obtain ⟨ao_x, c_x, rfl⟩ := HWx.out.slice
  obtain ⟨ao, c, rfl⟩ := HWA.out.slice
  go_enter Tryz.func7, Tryz.ntmps7
  have HF := Lib.hid (hp0 w)
  refine kS fun K hK => ?_
  refine wp_region_lit ?_
  go_wp2
  refine hK.out _ _ ?_; clear hK K
  show Code.wp _ _ _ _ _
  refine fH ((HF.out).al (b := w.heap.size) (by first | rfl | simp) (by decide)) fun Wx0 HG => ?_
  clear HF; have HF := HG; clear HG
  refine wp_seq ?_
  have hx8 : ¬ 8 < (kx : Int) := by omega
  have hnx9 : 6 < (n : Int) := by omega
  have lx0 := HF.out.c 0 rfl
  refine kS fun K hK => ?_
  refine sq 9 [(true, 0), (true, 1), (true, 2), (true, 3), (true, 4), (true, 5), (true, 6), (true, 7), (true, 8)] fun T hT => ?_
  iterate 9 refine tk ?_
  refine nlS hT HF fun vw1 HG => ?_
  clear hT T HF lx0
  go_wp2
  refine hK.out _ _ ?_; clear hK K
  show Code.wp _ _ _ _ _
  have HF := HG; clear HG
  clear hx8 hnx9
  refine wp_cond_true (by rfl) ?_
  have HB := HPb HF
  refine kS fun K hK => ?_
  refine sq 2 [(true, 0), (true, 1)] fun T hT => ?_
  refine ck Tryz.call27 (fun w' hw => works7_any _ (Lib.hid (HT.out.gr (Gr.trans HB.out hw)))) ?_
  refine tk ?_
  refine nlS hT HF fun vw2 HG => ?_
  clear hT T HF HB
  go_wp2
  refine hK.out _ _ ?_; clear hK K
  show Code.wp _ _ _ _ _
  have HF := HG; clear HG
  refine wp_ret ?_
  try simp only [Exit.then, Exit.inBlock]
  exact bodyPost_ret (v := .bool true) (by simp [results, Tryz.results7, go_sem]) rfl ⟨rfl, HF.out.1⟩

theorem joins_law (bbx : Bool) (vx : Value) (kx : Nat) (fx : Nat → Nat) (v : Value) (n : Nat) (fw : Nat → Nat) (t : Int) (w : World) (HWx : Hid (Wa w vx kx fx)) (HFx : Hid (∀ i, i < kx → fx i < 4294967296)) (HWA : Hid (Wa w v n fw)) (HFW : Hid (∀ i, i < n → fw i < 4294967296)) (ht1 : -9223372036854775808 ≤ t) (ht2 : t ≤ 9223372036854775807) (HT : Hid (Tab w)) :
    Calls Tryz.prog 7 #[.agg #[.bool bbx, vx], v, .int .i64 t] w fun e w' => e = .returned (.bool true) ∧ Below w.heap.size w w' := by
  obtain ⟨a, HAx⟩ : ∃ z, Hid ((if bbx then -((vl fx kx : Nat) : Int) else ((vl fx kx : Nat) : Int)) = z) := ⟨_, Lib.hid rfl⟩
  by_cases hk : kx ≤ 8
  · by_cases hn : n ≤ 6
    · rcases Nat.eq_zero_or_pos n with h0 | h0
      · subst h0
        exact joins_nil bbx vx kx fx _ a v fw (jf a fw) t _ 1 w HWx HFx (Lib.hid rfl) HAx hk HWA (Lib.hid rfl) (Lib.hid rfl) (Lib.hid (Int.emod_one a).symm) (Lib.hid (by
          rw [show a % ((1 : Nat) : Int) = 0 from Int.emod_one a]
          exact chv_some (fun i hi => absurd hi (Nat.not_lt_zero _)) rfl)) (wl_small (by decide)) (by rw [show a % ((1 : Nat) : Int) = 0 from Int.emod_one a]; exact wl_small (by decide)) HT
      · have hw : wl a.natAbs ≤ 8 := by rw [zsize HAx.out]; have := wl_le.2 (vl_lt HFx.out); omega
        exact joins_main bbx vx kx fx _ a v n fw _ t w HWx HFx (Lib.hid rfl) HAx hk HWA HFW h0 hn ht1 ht2 (Lib.hid rfl) (Lib.hid (jf_pos a fw)) (Lib.hid (fun i hi => jf_wl hw (HFW.out i hi))) HT
    · exact joins_bign bbx vx kx fx _ a v n fw t w HWx HFx (Lib.hid rfl) HAx hk (by omega) HWA HT
  · exact joins_bigx bbx vx kx fx _ a v n fw t w HWx HFx (Lib.hid rfl) HAx (by omega) HWA HT

end Go.Proofs.YtobojnodohjiaaaGreatDoor
