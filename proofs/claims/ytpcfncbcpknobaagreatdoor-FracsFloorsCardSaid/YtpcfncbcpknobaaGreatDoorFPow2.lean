
/- fracs.Pow: what is rejected. -/
import Derived.Test.YtpcfncbcpknobaaGreatDoorPV
namespace Go.Proofs.YtpcfncbcpknobaaGreatDoor
open Go.RowKit
set_option linter.unusedSimpArgs false
set_option linter.unusedVariables false
attribute [local go_sem ↓] Go.wp_at_zero Go.wp_at_succ
attribute [local go_sem ↓] eq_nat eq_nat_zero eq_int
set_option maxRecDepth 20000 in
set_option maxHeartbeats 4000000 in
theorem fpow_l1 (a : Rat) (k : Nat) (w : World) (HP1 : Hid (¬ k * nb a.num.natAbs ≤ 262144)) (HP2 : Hid (¬ k * nb a.den ≤ 262144)) (hk : k ≤ 4096) (hs : sz a ≤ 8192) :
    Calls Tryz.prog 63 #[(Value.agg #[.int .u64 ((lo (Int.natAbs ((a).num)) : Nat) : Int), .string (bg (Int.natAbs ((a).num))), .bool (decide (((a).num) < 0)), .int .u64 ((lo ((a).den - 1) : Nat) : Int), .string (bg ((a).den - 1))]), .int .i64 (((k : Nat) : Int))] w fun e w' => e = .returned ((.tuple #[(.agg #[.int .u64 0, .string ⟨#[]⟩, .bool false, .int .u64 0, .string ⟨#[]⟩]), .int .i64 3])) ∧ Below w.heap.size w w' := by
  have hn_a : wl (Int.natAbs ((a).num)) ≤ 8192 := Nat.le_trans (sz_num a) hs
  have hd_a : wl ((a).den) ≤ 8192 := Nat.le_trans (sz_den a) hs
  go_enter Tryz.func63, Tryz.ntmps63
  have HF := Lib.hid (hp0 w)
  refine kS fun K hK => ?_
  refine wp_region_lit ?_
  go_wp2
  refine hK.out _ _ ?_; clear hK K
  show Code.wp _ _ _ _ _
  refine fH (((HF.out).al (b := w.heap.size) (by first | rfl | simp) (by decide)).al (b := w.heap.size + 1) (by first | rfl | simp) (by decide)) fun Wx0 HG => ?_
  clear HF; have HF := HG; clear HG
  generalize w.heap.size + 1 = gx1 at *
  refine wp_seq ?_
  refine wp_block ?_
  have hd1 : ¬ ((((k : Nat) : Int)) < -4096) := ok
  have hd2 : ¬ (4096 < (((k : Nat) : Int))) := ok
  refine kS fun K hK => ?_
  refine sq 7 [(true, 0), (true, 1), (true, 2), (true, 3), (true, 4), (true, 5), (true, 6)] fun T hT => ?_
  iterate 7 refine tk ?_
  refine nlS hT HF fun vw1 HG => ?_
  clear hT T HF
  go_wp2
  refine hK.out _ _ ?_; clear hK K
  show Code.wp _ _ _ _ _
  have HF := HG; clear HG
  clear hd1 hd2
  refine wp_cond_false (by rfl) ?_
  have hd3 : ¬ ((((k : Nat) : Int)) < 0) := ok
  have hd4 : ¬ (k < 0) := by have e := hd3; omega
  refine kS fun K hK => ?_
  refine sq 3 [(true, 0), (true, 1), (true, 2)] fun T hT => ?_
  iterate 3 refine tk ?_
  refine nlS hT HF fun vw2 HG => ?_
  clear hT T HF
  go_wp2
  refine hK.out _ _ ?_; clear hK K
  show Code.wp _ _ _ _ _
  have HF := HG; clear HG
  clear hd3 hd4
  refine wp_cond_false (by rfl) ?_
  refine wp_skip ?_
  show Code.wp _ _ _ _ _
  have lx0 := HF.out.c 0 rfl
  refine kS fun K hK => ?_
  refine sq 8 [(true, 0), (true, 1), (true, 2), (true, 3), (true, 4), (true, 5), (true, 6), (true, 7)] fun T hT => ?_
  iterate 2 refine tk ?_
  refine ck Tryz.call70 (fun w' hw => abs_any ((a).num) _) ?_
  refine tk ?_
  refine ck Tryz.call150 (fun w' hw => pow_great (Int.natAbs ((a).num)) k _ (by omega) (HP1.out) om) ?_
  iterate 3 refine tk ?_
  refine nlS hT HF fun vw3 HG => ?_
  clear hT T HF lx0
  go_wp2
  refine hK.out _ _ ?_; clear hK K
  show Code.wp _ _ _ _ _
  refine fH ((HG.out).al (b := vw3.heap.size) (by first | rfl | simp) (by decide)) fun Wx8 HF => ?_
  clear HG
  generalize vw3.heap.size = gx3 at *
  have su1 : wl ((a).den) ≤ 8192 := Nat.le_trans (sz_den _) om
  have sp1 : 0 < (a).den := (a).den_pos
  have lx0 := HF.out.c 0 rfl
  refine kS fun K hK => ?_
  refine sq 7 [(true, 0), (true, 1), (true, 2), (true, 3), (true, 4), (true, 5), (true, 6)] fun T hT => ?_
  refine tk ?_
  refine ck Tryz.call151 (fun w' hw => fden_any (a) om _) ?_
  refine tk ?_
  refine ck Tryz.call150 (fun w' hw => pow_great ((a).den) k _ (by omega) (HP2.out) om) ?_
  iterate 3 refine tk ?_
  refine nlS hT HF fun vw4 HG => ?_
  clear hT T HF lx0
  go_wp2
  refine hK.out _ _ ?_; clear hK K
  show Code.wp _ _ _ _ _
  refine fH ((HG.out).al (b := vw4.heap.size) (by first | rfl | simp) (by decide)) fun Wx9 HF => ?_
  clear HG
  generalize vw4.heap.size = gx4 at *
  refine wp_seq ?_
  refine kS fun K hK => ?_
  refine sq 6 [(true, 0), (true, 1), (true, 2), (true, 3), (true, 4), (true, 5)] fun T hT => ?_
  iterate 3 refine tk ?_
  iterate 2 refine sk ?_
  refine tk ?_
  refine nlS hT HF fun vw5 HG => ?_
  clear hT T HF
  go_wp2
  refine hK.out _ _ ?_; clear hK K
  show Code.wp _ _ _ _ _
  have HF := HG; clear HG
  refine wp_cond_true (by rfl) ?_
  refine kS fun K hK => ?_
  refine sq 1 [(true, 0)] fun T hT => ?_
  refine tk ?_
  refine nlS hT HF fun vw6 HG => ?_
  clear hT T HF
  have lx1 := HG.out.c 1 rfl; have fx1 := HG.out.f 1 rfl
  have r0 := Gr.refl vw6
  go_wp2
  refine hK.out _ _ ?_; clear hK K
  show Code.wp _ _ _ _ _
  clear r0 lx1 fx1
  refine fH ((((HG.out).put2 1 0 rfl).put2 1 2 rfl).put 1 4 _ rfl) fun Wx11 HF => ?_
  clear HG
  refine wp_ret ?_
  try simp only [Exit.then, Exit.inBlock]
  have lx1 := HF.out.c 1 rfl
  have r0 := Gr.refl Wx11
  exact bodyPost_ret (v := .tuple #[(.agg #[.int .u64 0, .string ⟨#[]⟩, .bool false, .int .u64 0, .string ⟨#[]⟩]), .int .i64 3]) (by simp [results, Tryz.results63, go_sem, lx1 _ r0]) rfl ⟨rfl, HF.out.1⟩

set_option maxRecDepth 20000 in
set_option maxHeartbeats 4000000 in
theorem fpow_l2 (a : Rat) (k : Nat) (w : World) (HP1 : Hid (¬ k * nb a.num.natAbs ≤ 262144)) (HP2 : Hid (k * nb a.den ≤ 262144)) (hk : k ≤ 4096) (hs : sz a ≤ 8192) :
    Calls Tryz.prog 63 #[(Value.agg #[.int .u64 ((lo (Int.natAbs ((a).num)) : Nat) : Int), .string (bg (Int.natAbs ((a).num))), .bool (decide (((a).num) < 0)), .int .u64 ((lo ((a).den - 1) : Nat) : Int), .string (bg ((a).den - 1))]), .int .i64 (((k : Nat) : Int))] w fun e w' => e = .returned ((.tuple #[(.agg #[.int .u64 0, .string ⟨#[]⟩, .bool false, .int .u64 0, .string ⟨#[]⟩]), .int .i64 3])) ∧ Below w.heap.size w w' := by
  have hn_a : wl (Int.natAbs ((a).num)) ≤ 8192 := Nat.le_trans (sz_num a) hs
  have hd_a : wl ((a).den) ≤ 8192 := Nat.le_trans (sz_den a) hs
  go_enter Tryz.func63, Tryz.ntmps63
  have HF := Lib.hid (hp0 w)
  refine kS fun K hK => ?_
  refine wp_region_lit ?_
  go_wp2
  refine hK.out _ _ ?_; clear hK K
  show Code.wp _ _ _ _ _
  refine fH (((HF.out).al (b := w.heap.size) (by first | rfl | simp) (by decide)).al (b := w.heap.size + 1) (by first | rfl | simp) (by decide)) fun Wx0 HG => ?_
  clear HF; have HF := HG; clear HG
  generalize w.heap.size + 1 = gx1 at *
  refine wp_seq ?_
  refine wp_block ?_
  have hd1 : ¬ ((((k : Nat) : Int)) < -4096) := ok
  have hd2 : ¬ (4096 < (((k : Nat) : Int))) := ok
  refine kS fun K hK => ?_
  refine sq 7 [(true, 0), (true, 1), (true, 2), (true, 3), (true, 4), (true, 5), (true, 6)] fun T hT => ?_
  iterate 7 refine tk ?_
  refine nlS hT HF fun vw1 HG => ?_
  clear hT T HF
  go_wp2
  refine hK.out _ _ ?_; clear hK K
  show Code.wp _ _ _ _ _
  have HF := HG; clear HG
  clear hd1 hd2
  refine wp_cond_false (by rfl) ?_
  have hd3 : ¬ ((((k : Nat) : Int)) < 0) := ok
  have hd4 : ¬ (k < 0) := by have e := hd3; omega
  refine kS fun K hK => ?_
  refine sq 3 [(true, 0), (true, 1), (true, 2)] fun T hT => ?_
  iterate 3 refine tk ?_
  refine nlS hT HF fun vw2 HG => ?_
  clear hT T HF
  go_wp2
  refine hK.out _ _ ?_; clear hK K
  show Code.wp _ _ _ _ _
  have HF := HG; clear HG
  clear hd3 hd4
  refine wp_cond_false (by rfl) ?_
  refine wp_skip ?_
  show Code.wp _ _ _ _ _
  have lx0 := HF.out.c 0 rfl
  refine kS fun K hK => ?_
  refine sq 8 [(true, 0), (true, 1), (true, 2), (true, 3), (true, 4), (true, 5), (true, 6), (true, 7)] fun T hT => ?_
  iterate 2 refine tk ?_
  refine ck Tryz.call70 (fun w' hw => abs_any ((a).num) _) ?_
  refine tk ?_
  refine ck Tryz.call150 (fun w' hw => pow_great (Int.natAbs ((a).num)) k _ (by omega) (HP1.out) om) ?_
  iterate 3 refine tk ?_
  refine nlS hT HF fun vw3 HG => ?_
  clear hT T HF lx0
  go_wp2
  refine hK.out _ _ ?_; clear hK K
  show Code.wp _ _ _ _ _
  refine fH ((HG.out).al (b := vw3.heap.size) (by first | rfl | simp) (by decide)) fun Wx8 HF => ?_
  clear HG
  generalize vw3.heap.size = gx3 at *
  have su1 : wl ((a).den) ≤ 8192 := Nat.le_trans (sz_den _) om
  have sp1 : 0 < (a).den := (a).den_pos
  obtain ⟨u2, HZ2⟩ : ∃ z, Hid (((a).den) ^ k = z) := ⟨_, Lib.hid rfl⟩
  have su2 : wl (u2) ≤ 8192 := by rw [← HZ2.out]; exact wl_pow _ _ (HP2.out)
  have lx0 := HF.out.c 0 rfl
  refine kS fun K hK => ?_
  refine sq 7 [(true, 0), (true, 1), (true, 2), (true, 3), (true, 4), (true, 5), (true, 6)] fun T hT => ?_
  refine tk ?_
  refine ck Tryz.call151 (fun w' hw => fden_any (a) om _) ?_
  refine tk ?_
  refine ck Tryz.call150 (fun w' hw => nzpow ((a).den) k (u2) _ HZ2.out (by omega) (HP2.out) om) ?_
  iterate 3 refine tk ?_
  refine nlS hT HF fun vw4 HG => ?_
  clear hT T HF lx0
  go_wp2
  refine hK.out _ _ ?_; clear hK K
  show Code.wp _ _ _ _ _
  refine fH ((HG.out).al (b := vw4.heap.size) (by first | rfl | simp) (by decide)) fun Wx9 HF => ?_
  clear HG
  generalize vw4.heap.size = gx4 at *
  refine wp_seq ?_
  refine kS fun K hK => ?_
  refine sq 6 [(true, 0), (true, 1), (true, 2), (true, 3), (true, 4), (true, 5)] fun T hT => ?_
  iterate 3 refine tk ?_
  iterate 2 refine sk ?_
  refine tk ?_
  refine nlS hT HF fun vw5 HG => ?_
  clear hT T HF
  go_wp2
  refine hK.out _ _ ?_; clear hK K
  show Code.wp _ _ _ _ _
  have HF := HG; clear HG
  refine wp_cond_true (by rfl) ?_
  refine kS fun K hK => ?_
  refine sq 1 [(true, 0)] fun T hT => ?_
  refine tk ?_
  refine nlS hT HF fun vw6 HG => ?_
  clear hT T HF
  have lx1 := HG.out.c 1 rfl; have fx1 := HG.out.f 1 rfl
  have r0 := Gr.refl vw6
  go_wp2
  refine hK.out _ _ ?_; clear hK K
  show Code.wp _ _ _ _ _
  clear r0 lx1 fx1
  refine fH ((((HG.out).put2 1 0 rfl).put2 1 2 rfl).put 1 4 _ rfl) fun Wx11 HF => ?_
  clear HG
  refine wp_ret ?_
  try simp only [Exit.then, Exit.inBlock]
  have lx1 := HF.out.c 1 rfl
  have r0 := Gr.refl Wx11
  exact bodyPost_ret (v := .tuple #[(.agg #[.int .u64 0, .string ⟨#[]⟩, .bool false, .int .u64 0, .string ⟨#[]⟩]), .int .i64 3]) (by simp [results, Tryz.results63, go_sem, lx1 _ r0]) rfl ⟨rfl, HF.out.1⟩

set_option maxRecDepth 20000 in
set_option maxHeartbeats 4000000 in
theorem fpow_l3 (a : Rat) (k : Nat) (w : World) (HP1 : Hid (k * nb a.num.natAbs ≤ 262144)) (HP2 : Hid (¬ k * nb a.den ≤ 262144)) (hk : k ≤ 4096) (hs : sz a ≤ 8192) :
    Calls Tryz.prog 63 #[(Value.agg #[.int .u64 ((lo (Int.natAbs ((a).num)) : Nat) : Int), .string (bg (Int.natAbs ((a).num))), .bool (decide (((a).num) < 0)), .int .u64 ((lo ((a).den - 1) : Nat) : Int), .string (bg ((a).den - 1))]), .int .i64 (((k : Nat) : Int))] w fun e w' => e = .returned ((.tuple #[(.agg #[.int .u64 0, .string ⟨#[]⟩, .bool false, .int .u64 0, .string ⟨#[]⟩]), .int .i64 3])) ∧ Below w.heap.size w w' := by
  have hn_a : wl (Int.natAbs ((a).num)) ≤ 8192 := Nat.le_trans (sz_num a) hs
  have hd_a : wl ((a).den) ≤ 8192 := Nat.le_trans (sz_den a) hs
  go_enter Tryz.func63, Tryz.ntmps63
  have HF := Lib.hid (hp0 w)
  refine kS fun K hK => ?_
  refine wp_region_lit ?_
  go_wp2
  refine hK.out _ _ ?_; clear hK K
  show Code.wp _ _ _ _ _
  refine fH (((HF.out).al (b := w.heap.size) (by first | rfl | simp) (by decide)).al (b := w.heap.size + 1) (by first | rfl | simp) (by decide)) fun Wx0 HG => ?_
  clear HF; have HF := HG; clear HG
  generalize w.heap.size + 1 = gx1 at *
  refine wp_seq ?_
  refine wp_block ?_
  have hd1 : ¬ ((((k : Nat) : Int)) < -4096) := ok
  have hd2 : ¬ (4096 < (((k : Nat) : Int))) := ok
  refine kS fun K hK => ?_
  refine sq 7 [(true, 0), (true, 1), (true, 2), (true, 3), (true, 4), (true, 5), (true, 6)] fun T hT => ?_
  iterate 7 refine tk ?_
  refine nlS hT HF fun vw1 HG => ?_
  clear hT T HF
  go_wp2
  refine hK.out _ _ ?_; clear hK K
  show Code.wp _ _ _ _ _
  have HF := HG; clear HG
  clear hd1 hd2
  refine wp_cond_false (by rfl) ?_
  have hd3 : ¬ ((((k : Nat) : Int)) < 0) := ok
  have hd4 : ¬ (k < 0) := by have e := hd3; omega
  refine kS fun K hK => ?_
  refine sq 3 [(true, 0), (true, 1), (true, 2)] fun T hT => ?_
  iterate 3 refine tk ?_
  refine nlS hT HF fun vw2 HG => ?_
  clear hT T HF
  go_wp2
  refine hK.out _ _ ?_; clear hK K
  show Code.wp _ _ _ _ _
  have HF := HG; clear HG
  clear hd3 hd4
  refine wp_cond_false (by rfl) ?_
  refine wp_skip ?_
  show Code.wp _ _ _ _ _
  obtain ⟨u1, HZ1⟩ : ∃ z, Hid ((Int.natAbs ((a).num)) ^ k = z) := ⟨_, Lib.hid rfl⟩
  have su1 : wl (u1) ≤ 8192 := by rw [← HZ1.out]; exact wl_pow _ _ (HP1.out)
  have lx0 := HF.out.c 0 rfl
  refine kS fun K hK => ?_
  refine sq 8 [(true, 0), (true, 1), (true, 2), (true, 3), (true, 4), (true, 5), (true, 6), (true, 7)] fun T hT => ?_
  iterate 2 refine tk ?_
  refine ck Tryz.call70 (fun w' hw => abs_any ((a).num) _) ?_
  refine tk ?_
  refine ck Tryz.call150 (fun w' hw => nzpow (Int.natAbs ((a).num)) k (u1) _ HZ1.out (by omega) (HP1.out) om) ?_
  iterate 3 refine tk ?_
  refine nlS hT HF fun vw3 HG => ?_
  clear hT T HF lx0
  go_wp2
  refine hK.out _ _ ?_; clear hK K
  show Code.wp _ _ _ _ _
  refine fH ((HG.out).al (b := vw3.heap.size) (by first | rfl | simp) (by decide)) fun Wx8 HF => ?_
  clear HG
  generalize vw3.heap.size = gx3 at *
  have su2 : wl ((a).den) ≤ 8192 := Nat.le_trans (sz_den _) om
  have sp2 : 0 < (a).den := (a).den_pos
  have lx0 := HF.out.c 0 rfl
  refine kS fun K hK => ?_
  refine sq 7 [(true, 0), (true, 1), (true, 2), (true, 3), (true, 4), (true, 5), (true, 6)] fun T hT => ?_
  refine tk ?_
  refine ck Tryz.call151 (fun w' hw => fden_any (a) om _) ?_
  refine tk ?_
  refine ck Tryz.call150 (fun w' hw => pow_great ((a).den) k _ (by omega) (HP2.out) om) ?_
  iterate 3 refine tk ?_
  refine nlS hT HF fun vw4 HG => ?_
  clear hT T HF lx0
  go_wp2
  refine hK.out _ _ ?_; clear hK K
  show Code.wp _ _ _ _ _
  refine fH ((HG.out).al (b := vw4.heap.size) (by first | rfl | simp) (by decide)) fun Wx9 HF => ?_
  clear HG
  generalize vw4.heap.size = gx4 at *
  refine wp_seq ?_
  refine kS fun K hK => ?_
  refine sq 6 [(true, 0), (true, 1), (true, 2), (true, 3), (true, 4), (true, 5)] fun T hT => ?_
  iterate 6 refine tk ?_
  refine nlS hT HF fun vw5 HG => ?_
  clear hT T HF
  go_wp2
  refine hK.out _ _ ?_; clear hK K
  show Code.wp _ _ _ _ _
  have HF := HG; clear HG
  refine wp_cond_true (by rfl) ?_
  refine kS fun K hK => ?_
  refine sq 1 [(true, 0)] fun T hT => ?_
  refine tk ?_
  refine nlS hT HF fun vw6 HG => ?_
  clear hT T HF
  have lx1 := HG.out.c 1 rfl; have fx1 := HG.out.f 1 rfl
  have r0 := Gr.refl vw6
  go_wp2
  refine hK.out _ _ ?_; clear hK K
  show Code.wp _ _ _ _ _
  clear r0 lx1 fx1
  refine fH ((((HG.out).put2 1 0 rfl).put2 1 2 rfl).put 1 4 _ rfl) fun Wx11 HF => ?_
  clear HG
  refine wp_ret ?_
  try simp only [Exit.then, Exit.inBlock]
  have lx1 := HF.out.c 1 rfl
  have r0 := Gr.refl Wx11
  exact bodyPost_ret (v := .tuple #[(.agg #[.int .u64 0, .string ⟨#[]⟩, .bool false, .int .u64 0, .string ⟨#[]⟩]), .int .i64 3]) (by simp [results, Tryz.results63, go_sem, lx1 _ r0]) rfl ⟨rfl, HF.out.1⟩

set_option maxRecDepth 20000 in
set_option maxHeartbeats 4000000 in
theorem fpow_lo0 (a : Rat) (n : Int) (w : World) (hn : n < -4096) :
    Calls Tryz.prog 63 #[(Value.agg #[.int .u64 ((lo (Int.natAbs ((a).num)) : Nat) : Int), .string (bg (Int.natAbs ((a).num))), .bool (decide (((a).num) < 0)), .int .u64 ((lo ((a).den - 1) : Nat) : Int), .string (bg ((a).den - 1))]), .int .i64 (n)] w fun e w' => e = .returned ((.tuple #[(.agg #[.int .u64 0, .string ⟨#[]⟩, .bool false, .int .u64 0, .string ⟨#[]⟩]), .int .i64 1])) ∧ Below w.heap.size w w' := by
  go_enter Tryz.func63, Tryz.ntmps63
  have HF := Lib.hid (hp0 w)
  refine kS fun K hK => ?_
  refine wp_region_lit ?_
  go_wp2
  refine hK.out _ _ ?_; clear hK K
  show Code.wp _ _ _ _ _
  refine fH (((HF.out).al (b := w.heap.size) (by first | rfl | simp) (by decide)).al (b := w.heap.size + 1) (by first | rfl | simp) (by decide)) fun Wx0 HG => ?_
  clear HF; have HF := HG; clear HG
  generalize w.heap.size + 1 = gx1 at *
  refine wp_seq ?_
  refine wp_block ?_
  have hd1 : n < -4096 := ok
  refine kS fun K hK => ?_
  refine sq 7 [(true, 0), (true, 1), (true, 2), (true, 3), (true, 4), (true, 5), (true, 6)] fun T hT => ?_
  iterate 3 refine tk ?_
  iterate 2 refine sk ?_
  iterate 2 refine tk ?_
  refine nlS hT HF fun vw1 HG => ?_
  clear hT T HF
  go_wp2
  refine hK.out _ _ ?_; clear hK K
  show Code.wp _ _ _ _ _
  have HF := HG; clear HG
  clear hd1
  refine wp_cond_true (by rfl) ?_
  refine kS fun K hK => ?_
  refine sq 1 [(true, 0)] fun T hT => ?_
  refine tk ?_
  refine nlS hT HF fun vw2 HG => ?_
  clear hT T HF
  have lx1 := HG.out.c 1 rfl; have fx1 := HG.out.f 1 rfl
  have r0 := Gr.refl vw2
  go_wp2
  refine hK.out _ _ ?_; clear hK K
  show Code.wp _ _ _ _ _
  clear r0 lx1 fx1
  refine fH ((((HG.out).put2 1 0 rfl).put2 1 2 rfl).put 1 4 _ rfl) fun Wx2 HF => ?_
  clear HG
  refine wp_ret ?_
  try simp only [Exit.then, Exit.inBlock]
  have lx1 := HF.out.c 1 rfl
  have r0 := Gr.refl Wx2
  exact bodyPost_ret (v := .tuple #[(.agg #[.int .u64 0, .string ⟨#[]⟩, .bool false, .int .u64 0, .string ⟨#[]⟩]), .int .i64 1]) (by simp [results, Tryz.results63, go_sem, lx1 _ r0]) rfl ⟨rfl, HF.out.1⟩

set_option maxRecDepth 20000 in
set_option maxHeartbeats 4000000 in
theorem fpow_hi0 (a : Rat) (n : Int) (w : World) (hn : 4096 < n) :
    Calls Tryz.prog 63 #[(Value.agg #[.int .u64 ((lo (Int.natAbs ((a).num)) : Nat) : Int), .string (bg (Int.natAbs ((a).num))), .bool (decide (((a).num) < 0)), .int .u64 ((lo ((a).den - 1) : Nat) : Int), .string (bg ((a).den - 1))]), .int .i64 (n)] w fun e w' => e = .returned ((.tuple #[(.agg #[.int .u64 0, .string ⟨#[]⟩, .bool false, .int .u64 0, .string ⟨#[]⟩]), .int .i64 1])) ∧ Below w.heap.size w w' := by
  go_enter Tryz.func63, Tryz.ntmps63
  have HF := Lib.hid (hp0 w)
  refine kS fun K hK => ?_
  refine wp_region_lit ?_
  go_wp2
  refine hK.out _ _ ?_; clear hK K
  show Code.wp _ _ _ _ _
  refine fH (((HF.out).al (b := w.heap.size) (by first | rfl | simp) (by decide)).al (b := w.heap.size + 1) (by first | rfl | simp) (by decide)) fun Wx0 HG => ?_
  clear HF; have HF := HG; clear HG
  generalize w.heap.size + 1 = gx1 at *
  refine wp_seq ?_
  refine wp_block ?_
  have hd1 : ¬ (n < -4096) := ok
  have hd2 : 4096 < n := ok
  refine kS fun K hK => ?_
  refine sq 7 [(true, 0), (true, 1), (true, 2), (true, 3), (true, 4), (true, 5), (true, 6)] fun T hT => ?_
  iterate 7 refine tk ?_
  refine nlS hT HF fun vw1 HG => ?_
  clear hT T HF
  go_wp2
  refine hK.out _ _ ?_; clear hK K
  show Code.wp _ _ _ _ _
  have HF := HG; clear HG
  clear hd1 hd2
  refine wp_cond_true (by rfl) ?_
  refine kS fun K hK => ?_
  refine sq 1 [(true, 0)] fun T hT => ?_
  refine tk ?_
  refine nlS hT HF fun vw2 HG => ?_
  clear hT T HF
  have lx1 := HG.out.c 1 rfl; have fx1 := HG.out.f 1 rfl
  have r0 := Gr.refl vw2
  go_wp2
  refine hK.out _ _ ?_; clear hK K
  show Code.wp _ _ _ _ _
  clear r0 lx1 fx1
  refine fH ((((HG.out).put2 1 0 rfl).put2 1 2 rfl).put 1 4 _ rfl) fun Wx2 HF => ?_
  clear HG
  refine wp_ret ?_
  try simp only [Exit.then, Exit.inBlock]
  have lx1 := HF.out.c 1 rfl
  have r0 := Gr.refl Wx2
  exact bodyPost_ret (v := .tuple #[(.agg #[.int .u64 0, .string ⟨#[]⟩, .bool false, .int .u64 0, .string ⟨#[]⟩]), .int .i64 1]) (by simp [results, Tryz.results63, go_sem, lx1 _ r0]) rfl ⟨rfl, HF.out.1⟩

theorem fpow_lim (a : Rat) (k : Nat) (w : World) (hk : k ≤ 4096) (h : ¬ k * nb a.num.natAbs ≤ 262144 ∨ ¬ k * nb a.den ≤ 262144) (hs : sz a ≤ 8192) :
    Calls Tryz.prog 63 #[(Value.agg #[.int .u64 ((lo (Int.natAbs ((a).num)) : Nat) : Int), .string (bg (Int.natAbs ((a).num))), .bool (decide (((a).num) < 0)), .int .u64 ((lo ((a).den - 1) : Nat) : Int), .string (bg ((a).den - 1))]), .int .i64 ((k : Nat) : Int)] w fun e w' => e = .returned (.tuple #[(Value.agg #[.int .u64 ((lo (Int.natAbs (((0 : Rat)).num)) : Nat) : Int), .string (bg (Int.natAbs (((0 : Rat)).num))), .bool (decide ((((0 : Rat)).num) < 0)), .int .u64 ((lo (((0 : Rat)).den - 1) : Nat) : Int), .string (bg (((0 : Rat)).den - 1))]), .int .i64 3]) ∧ Below w.heap.size w w' := by
  by_cases h1 : k * nb a.num.natAbs ≤ 262144
  · by_cases h2 : k * nb a.den ≤ 262144
    · omega
    · exact fpow_l3 a k w (Lib.hid h1) (Lib.hid h2) hk hs
  · by_cases h2 : k * nb a.den ≤ 262144
    · exact fpow_l2 a k w (Lib.hid h1) (Lib.hid h2) hk hs
    · exact fpow_l1 a k w (Lib.hid h1) (Lib.hid h2) hk hs

theorem fpow_lo (a : Rat) (n : Int) (w : World) (hn : n < -4096) :
    Calls Tryz.prog 63 #[(Value.agg #[.int .u64 ((lo (Int.natAbs ((a).num)) : Nat) : Int), .string (bg (Int.natAbs ((a).num))), .bool (decide (((a).num) < 0)), .int .u64 ((lo ((a).den - 1) : Nat) : Int), .string (bg ((a).den - 1))]), .int .i64 n] w fun e w' => e = .returned (.tuple #[(Value.agg #[.int .u64 ((lo (Int.natAbs (((0 : Rat)).num)) : Nat) : Int), .string (bg (Int.natAbs (((0 : Rat)).num))), .bool (decide ((((0 : Rat)).num) < 0)), .int .u64 ((lo (((0 : Rat)).den - 1) : Nat) : Int), .string (bg (((0 : Rat)).den - 1))]), .int .i64 1]) ∧ Below w.heap.size w w' := fpow_lo0 a n w hn

theorem fpow_hi (a : Rat) (n : Int) (w : World) (hn : 4096 < n) :
    Calls Tryz.prog 63 #[(Value.agg #[.int .u64 ((lo (Int.natAbs ((a).num)) : Nat) : Int), .string (bg (Int.natAbs ((a).num))), .bool (decide (((a).num) < 0)), .int .u64 ((lo ((a).den - 1) : Nat) : Int), .string (bg ((a).den - 1))]), .int .i64 n] w fun e w' => e = .returned (.tuple #[(Value.agg #[.int .u64 ((lo (Int.natAbs (((0 : Rat)).num)) : Nat) : Int), .string (bg (Int.natAbs (((0 : Rat)).num))), .bool (decide ((((0 : Rat)).num) < 0)), .int .u64 ((lo (((0 : Rat)).den - 1) : Nat) : Int), .string (bg (((0 : Rat)).den - 1))]), .int .i64 1]) ∧ Below w.heap.size w w' := fpow_hi0 a n w hn

set_option maxRecDepth 20000 in
set_option maxHeartbeats 4000000 in
theorem fpow_negl0 (a r : Rat) (n : Int) (j : Nat) (w : World) (HR : Hid (1 / a = r)) (HN : Hid (n = -((j : Nat) : Int))) (hj0 : 0 < j) (hj : j ≤ 4096) (HA0 : Hid (a ≠ 0)) (HL : Hid (¬ j * nb r.num.natAbs ≤ 262144 ∨ ¬ j * nb r.den ≤ 262144)) (hsr : sz r ≤ 8192) (hn1 : n < 0) (hn2 : -4096 ≤ n) (hs : sz a ≤ 8192) :
    Calls Tryz.prog 63 #[(Value.agg #[.int .u64 ((lo (Int.natAbs ((a).num)) : Nat) : Int), .string (bg (Int.natAbs ((a).num))), .bool (decide (((a).num) < 0)), .int .u64 ((lo ((a).den - 1) : Nat) : Int), .string (bg ((a).den - 1))]), .int .i64 (n)] w fun e w' => e = .returned ((.tuple #[(Value.agg #[.int .u64 ((lo (Int.natAbs (((0 : Rat)).num)) : Nat) : Int), .string (bg (Int.natAbs (((0 : Rat)).num))), .bool (decide ((((0 : Rat)).num) < 0)), .int .u64 ((lo (((0 : Rat)).den - 1) : Nat) : Int), .string (bg (((0 : Rat)).den - 1))]), .int .i64 3])) ∧ Below w.heap.size w w' := by
  go_enter Tryz.func63, Tryz.ntmps63
  have HF := Lib.hid (hp0 w)
  refine kS fun K hK => ?_
  refine wp_region_lit ?_
  go_wp2
  refine hK.out _ _ ?_; clear hK K
  show Code.wp _ _ _ _ _
  refine fH (((HF.out).al (b := w.heap.size) (by first | rfl | simp) (by decide)).al (b := w.heap.size + 1) (by first | rfl | simp) (by decide)) fun Wx0 HG => ?_
  clear HF; have HF := HG; clear HG
  generalize w.heap.size + 1 = gx1 at *
  refine wp_seq ?_
  refine wp_block ?_
  have hd1 : ¬ (n < -4096) := by first | exact ok | exact HA0.out
  have hd2 : ¬ (4096 < n) := by first | exact ok | exact HA0.out
  refine kS fun K hK => ?_
  refine sq 7 [(true, 0), (true, 1), (true, 2), (true, 3), (true, 4), (true, 5), (true, 6)] fun T hT => ?_
  iterate 7 refine tk ?_
  refine nlS hT HF fun vw1 HG => ?_
  clear hT T HF
  go_wp2
  refine hK.out _ _ ?_; clear hK K
  show Code.wp _ _ _ _ _
  have HF := HG; clear HG
  clear hd1 hd2
  refine wp_cond_false (by rfl) ?_
  have hd3 : n < 0 := by first | exact ok | exact HA0.out
  refine kS fun K hK => ?_
  refine sq 3 [(true, 0), (true, 1), (true, 2)] fun T hT => ?_
  iterate 3 refine tk ?_
  refine nlS hT HF fun vw2 HG => ?_
  clear hT T HF
  go_wp2
  refine hK.out _ _ ?_; clear hK K
  show Code.wp _ _ _ _ _
  have HF := HG; clear HG
  clear hd3
  refine wp_cond_true (by rfl) ?_
  have HZ1 : Hid (((1 : Int) : Rat) = (1 : Rat)) := Lib.hid (by decide +kernel)
  have su1 : sz ((1 : Rat)) ≤ 2 := sz_of (wl_le.2 (by decide +kernel)) (wl_le.2 (by decide +kernel))
  have HZ2 : Hid ((1 : Rat) / (a) = r) := Lib.hid (HR.out)
  have su2 : sz (r) ≤ 8192 := by have e := HZ2.out; first | omega | (rw [← e]; have := sz_div (1 : Rat) (a); omega)
  have lx0 := HF.out.c 0 rfl
  refine kS fun K hK => ?_
  refine wp_region_plan 7 [6] [5] (fun _ => 6) (fun _ => .cells #[.int .u64 0, .string ⟨#[]⟩, .bool false, .int .u64 0, .string ⟨#[]⟩] 51) [(true, 1), (true, 0), (true, 2), (true, 3), (true, 4), (true, 5)] (by kernel_rfl) (by kernel_rfl) (by intro i hi; simp only [List.mem_cons, List.not_mem_nil, or_false] at hi; rcases hi with rfl <;> exact ⟨_, rfl, rfl, rfl, by simp, fun ρ w => by kernel_rfl⟩) (by intro i hi; simp only [List.mem_cons, List.not_mem_nil, or_false] at hi; rcases hi with rfl <;> exact ⟨_, rfl, pure_extract⟩) (fun _ _ _ _ _ h => h) (fun T hT => ?_)
  refine tk ?_
  refine ck Tryz.call66 (fun w' hw => fint_any (1) (1 : Rat) _ HZ1.out om om) ?_
  refine ck Tryz.call75 (fun w' hw => fdiv_any (1 : Rat) (a) (r) _ HZ2.out (by first | exact ok | exact HA0.out) om om) ?_
  iterate 3 refine tk ?_
  refine wpPlan_nil (hT.out _ _ ?_)
  intro G vw3 hg hf
  simp only [puts, Act.put, lA, lB, lC, lD, lE, ↓reduceIte, Nat.reduceEqDiff]
  have HG := Lib.hid (HF.out.fr hg hf (zs := [(#[.int .u64 0, .string ⟨#[]⟩, .bool false, .int .u64 0, .string ⟨#[]⟩], 51)]) rfl (by decide) (by decide))
  simp only [List.zip_cons_cons, List.zip_nil_right, List.map_cons, List.map_nil, lF, lG] at HG
  clear hT T HF hg hf lx0
  generalize G 6 = gx3 at *
  have lx3 := HG.out.c 2 rfl; have fx3 := HG.out.f 2 rfl
  have r0 := Gr.refl vw3
  go_wp2
  refine hK.out _ _ ?_; clear hK K
  show Code.wp _ _ _ _ _
  clear r0 lx3 fx3
  refine fH ((((HG.out).put2 2 0 rfl).put2 2 2 rfl).put 2 4 _ rfl) fun Wx4 HF => ?_
  clear HG
  refine wp_seq ?_
  refine kS fun K hK => ?_
  refine sq 2 [(true, 0), (true, 1)] fun T hT => ?_
  iterate 2 refine tk ?_
  refine nlS hT HF fun vw4 HG => ?_
  clear hT T HF
  go_wp2
  refine hK.out _ _ ?_; clear hK K
  show Code.wp _ _ _ _ _
  have HF := HG; clear HG
  refine wp_cond_false (by rfl) ?_
  refine wp_skip ?_
  show Code.wp _ _ _ _ _
  have hng : IntKind.i64.wrap (-n) = ((j : Nat) : Int) := by rw [HN.out, Int.neg_neg, IntKind.wrap_i64]; omega
  have lx3 := HF.out.c 2 rfl
  refine kS fun K hK => ?_
  refine sq 6 [(true, 0), (true, 1), (true, 2), (true, 3), (true, 4), (true, 5)] fun T hT => ?_
  iterate 2 refine tk ?_
  refine wpPlan_takeL (v := ?_) rfl (by rfl) (fun w' hw => ?_) ?_
  rotate_left
  · go_simp
    first | (simp only [hng]; with_reducible rfl) | with_reducible rfl
  simp only [Act.put, lA, lB, lC]
  refine ck Tryz.call63 (fun w' hw => fpow_lim (r) j _ (by omega) HL.out om) ?_
  iterate 2 refine tk ?_
  refine nlS hT HF fun vw5 HG => ?_
  clear hT T HF lx3
  have lx1 := HG.out.c 1 rfl; have fx1 := HG.out.f 1 rfl
  have r0 := Gr.refl vw5
  go_wp2
  refine hK.out _ _ ?_; clear hK K
  show Code.wp _ _ _ _ _
  clear r0 lx1 fx1
  refine fH (((((HG.out).put2 1 0 rfl).put2 1 2 rfl).put 1 4 _ rfl).er 2) fun Wx7 HF => ?_
  clear HG
  clear hng
  refine wp_ret ?_
  try simp only [Exit.then, Exit.inBlock]
  have lx1 := HF.out.c 1 rfl
  have r0 := Gr.refl Wx7
  exact bodyPost_ret (v := .tuple #[(.agg #[.int .u64 ((lo (Int.natAbs (((0 : Rat)).num)) : Nat) : Int), .string (bg (Int.natAbs (((0 : Rat)).num))), .bool (decide ((((0 : Rat)).num) < 0)), .int .u64 ((lo (((0 : Rat)).den - 1) : Nat) : Int), .string (bg (((0 : Rat)).den - 1))]), .int .i64 3]) (by simp [results, Tryz.results63, go_sem, lx1 _ r0]) rfl ⟨rfl, HF.out.1⟩

theorem fpow_neglim (a : Rat) (j : Nat) (w : World) (hj0 : 0 < j) (hj : j ≤ 4096) (ha : a ≠ 0) (h : ¬ j * nb a.num.natAbs ≤ 262144 ∨ ¬ j * nb a.den ≤ 262144) (hs : sz a ≤ 8192) :
    Calls Tryz.prog 63 #[(Value.agg #[.int .u64 ((lo (Int.natAbs ((a).num)) : Nat) : Int), .string (bg (Int.natAbs ((a).num))), .bool (decide (((a).num) < 0)), .int .u64 ((lo ((a).den - 1) : Nat) : Int), .string (bg ((a).den - 1))]), .int .i64 (-((j : Nat) : Int))] w fun e w' => e = .returned (.tuple #[(Value.agg #[.int .u64 ((lo (Int.natAbs (((0 : Rat)).num)) : Nat) : Int), .string (bg (Int.natAbs (((0 : Rat)).num))), .bool (decide ((((0 : Rat)).num) < 0)), .int .u64 ((lo (((0 : Rat)).den - 1) : Nat) : Int), .string (bg (((0 : Rat)).den - 1))]), .int .i64 3]) ∧ Below w.heap.size w w' := by
  have hn : a.num ≠ 0 := fun e => ha (num_zero.1 e)
  obtain ⟨i1, i2⟩ := inv_sz a
  rw [if_neg hn] at i1 i2
  exact fpow_negl0 a _ _ j w (Lib.hid rfl) (Lib.hid rfl) hj0 hj (Lib.hid ha) (Lib.hid (by rw [i1, i2]; exact h.symm)) (one_div_sz a hs) (by omega) (by omega) hs

end Go.Proofs.YtpcfncbcpknobaaGreatDoor
