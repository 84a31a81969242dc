
/- decimals: Round, Between. -/
import Derived.Test.YtobojnodohjiaaaGreatDoorDecA
namespace Go.Proofs.YtobojnodohjiaaaGreatDoor
open Go.RowKit
set_option linter.unusedSimpArgs false
set_option linter.unusedVariables false
attribute [local go_sem ↓] Go.wp_at_zero Go.wp_at_succ
attribute [local go_sem ↓] eq_nat eq_nat_zero eq_int
set_option maxRecDepth 20000 in
set_option maxHeartbeats 4000000 in
theorem dround0 (a z : Rat) (k : Nat) (way m : Int) (w : World) (HM : Hid (rnd way (a * (((10 ^ k : Nat) : Int) : Rat)) = m)) (HZ : Hid (mkRat m (10 ^ k) = z)) (hk : k ≤ 100) (hw1 : 1 ≤ way) (hw2 : way ≤ 3) (hs : sz a ≤ 900) :
    Calls Tryz.prog 168 #[(Value.agg #[.int .u64 ((lo (Int.natAbs ((a).num)) : Nat) : Int), .string (bg (Int.natAbs ((a).num))), .bool (decide (((a).num) < 0)), .int .u64 ((lo ((a).den - 1) : Nat) : Int), .string (bg ((a).den - 1))]), .int .i64 (((k : Nat) : Int)), .int .i64 (way)] w fun e w' => e = .returned (.tuple #[(.agg #[.int .u64 ((lo (Int.natAbs ((z).num)) : Nat) : Int), .string (bg (Int.natAbs ((z).num))), .bool (decide (((z).num) < 0)), .int .u64 ((lo ((z).den - 1) : Nat) : Int), .string (bg ((z).den - 1))]), .int .i64 0]) ∧ Below w.heap.size w w' := by
  go_enter Tryz.func168, Tryz.ntmps168
  have HF := Lib.hid (hp0 w)
  refine kS fun K hK => ?_
  refine wp_region_lit ?_
  go_wp2
  refine hK.out _ _ ?_; clear hK K
  show Code.wp _ _ _ _ _
  refine fH (((HF.out).al (b := w.heap.size) (by first | rfl | simp) (by decide)).al (b := w.heap.size + 1) (by first | rfl | simp) (by decide)) fun Wx0 HG => ?_
  clear HF; have HF := HG; clear HG
  generalize w.heap.size + 1 = gx1 at *
  have HZ1 : Hid (rnd (way) ((a) * (((10 ^ k : Nat) : Int) : Rat)) = m) := Lib.hid (HM.out)
  have su1 : wl (Int.natAbs (m)) ≤ 914 := by have e := HZ1.out; first | omega | (rw [← e]; have e1 := wl_rnd (way) ((a) * (((10 ^ k : Nat) : Int) : Rat)); have e2 := sz_mul (a) (((10 ^ k : Nat) : Int) : Rat); have e3 := sz_tenq (k := k) (by omega); omega)
  have lx0 := HF.out.c 0 rfl
  refine kS fun K hK => ?_
  refine sq 7 [(true, 0), (true, 1), (true, 2), (true, 3), (true, 4), (true, 5), (true, 6)] fun T hT => ?_
  iterate 3 refine tk ?_
  refine ck Tryz.call239 (fun w' hw => drounded (way) (a) k (m) _ (by omega) (by omega) HZ1.out (by omega) om) ?_
  iterate 3 refine tk ?_
  refine nlS hT HF fun vw1 HG => ?_
  clear hT T HF lx0
  go_wp2
  refine hK.out _ _ ?_; clear hK K
  show Code.wp _ _ _ _ _
  refine fH (((HG.out).al (b := vw1.heap.size) (by first | rfl | simp) (by decide)).er 0) fun Wx1 HF => ?_
  clear HG
  generalize vw1.heap.size = gx3 at *
  refine wp_seq ?_
  refine kS fun K hK => ?_
  refine sq 2 [(true, 0), (true, 1)] fun T hT => ?_
  iterate 2 refine tk ?_
  refine nlS hT HF fun vw2 HG => ?_
  clear hT T HF
  go_wp2
  refine hK.out _ _ ?_; clear hK K
  show Code.wp _ _ _ _ _
  have HF := HG; clear HG
  refine wp_cond_false (by rfl) ?_
  refine wp_skip ?_
  show Code.wp _ _ _ _ _
  have HZ2 : Hid (mkRat (m) (10 ^ k) = z) := Lib.hid (HZ.out)
  have su2 : sz (z) ≤ 914 := by have e := HZ2.out; first | omega | (rw [← e]; exact sz_mkRat (k := 914) om (Nat.le_trans (wl_ten (by omega)) (by decide)) (by decide))
  have lx3 := HF.out.c 1 rfl
  refine kS fun K hK => ?_
  refine sq 3 [(true, 0), (true, 1), (true, 2)] fun T hT => ?_
  iterate 2 refine tk ?_
  refine ck Tryz.call240 (fun w' hw => dby_any (m) k _ (z) _ (Lib.hid rfl) (Lib.hid (Nat.pow_pos (by decide))) (Lib.hid HZ2.out) (by omega) om) ?_
  refine nlS hT HF fun vw3 HG => ?_
  clear hT T HF lx3
  have lx1 := HG.out.c 0 rfl; have fx1 := HG.out.f 0 rfl
  have r0 := Gr.refl vw3
  go_wp2
  refine hK.out _ _ ?_; clear hK K
  show Code.wp _ _ _ _ _
  clear r0 lx1 fx1
  refine fH (((((HG.out).put2 0 0 rfl).put2 0 2 rfl).put 0 4 _ rfl).er 1) fun Wx4 HF => ?_
  clear HG
  refine wp_ret ?_
  try simp only [Exit.then, Exit.inBlock]
  have lx1 := HF.out.c 0 rfl
  have r0 := Gr.refl Wx4
  exact bodyPost_ret (v := .tuple #[(.agg #[.int .u64 ((lo (Int.natAbs ((z).num)) : Nat) : Int), .string (bg (Int.natAbs ((z).num))), .bool (decide (((z).num) < 0)), .int .u64 ((lo ((z).den - 1) : Nat) : Int), .string (bg ((z).den - 1))]), .int .i64 0]) (by simp [results, Tryz.results168, go_sem, lx1 _ r0]) rfl ⟨rfl, HF.out.1⟩

theorem dround (way : Int) (a : Rat) (k : Nat) (z : Rat) (w : World) (hz : rdd way a k = z) (hw1 : 1 ≤ way) (hw2 : way ≤ 3) (hk : k ≤ 100) (hs : sz a ≤ 900) :
    Calls Tryz.prog 168 #[(Value.agg #[.int .u64 ((lo (Int.natAbs ((a).num)) : Nat) : Int), .string (bg (Int.natAbs ((a).num))), .bool (decide (((a).num) < 0)), .int .u64 ((lo ((a).den - 1) : Nat) : Int), .string (bg ((a).den - 1))]), .int .i64 ((k : Nat) : Int), .int .i64 way] w fun e w' => e = .returned (.tuple #[(Value.agg #[.int .u64 ((lo (Int.natAbs ((z).num)) : Nat) : Int), .string (bg (Int.natAbs ((z).num))), .bool (decide (((z).num) < 0)), .int .u64 ((lo ((z).den - 1) : Nat) : Int), .string (bg ((z).den - 1))]), .int .i64 0]) ∧ Below w.heap.size w w' :=
  dround0 a z k way _ w (Lib.hid rfl) (Lib.hid hz) hk hw1 hw2 hs
set_option maxRecDepth 20000 in
set_option maxHeartbeats 4000000 in
theorem dbtw_any (a yl yh : Rat) (k : Nat) (w : World) (HLO : Hid (rdd 1 a k = yl)) (HHI : Hid (rdd 2 a k = yh)) (hk : k ≤ 100) (hs : sz a ≤ 900) :
    Calls Tryz.prog 169 #[(Value.agg #[.int .u64 ((lo (Int.natAbs ((a).num)) : Nat) : Int), .string (bg (Int.natAbs ((a).num))), .bool (decide (((a).num) < 0)), .int .u64 ((lo ((a).den - 1) : Nat) : Int), .string (bg ((a).den - 1))]), .int .i64 (((k : Nat) : Int))] w fun e w' => e = .returned (.tuple #[(.agg #[.int .u64 ((lo (Int.natAbs ((yl).num)) : Nat) : Int), .string (bg (Int.natAbs ((yl).num))), .bool (decide (((yl).num) < 0)), .int .u64 ((lo ((yl).den - 1) : Nat) : Int), .string (bg ((yl).den - 1))]), (.agg #[.int .u64 ((lo (Int.natAbs ((yh).num)) : Nat) : Int), .string (bg (Int.natAbs ((yh).num))), .bool (decide (((yh).num) < 0)), .int .u64 ((lo ((yh).den - 1) : Nat) : Int), .string (bg ((yh).den - 1))]), .int .i64 0]) ∧ Below w.heap.size w w' := by
  go_enter Tryz.func169, Tryz.ntmps169
  have HF := Lib.hid (hp0 w)
  refine kS fun K hK => ?_
  refine wp_region_lit ?_
  go_wp2
  refine hK.out _ _ ?_; clear hK K
  show Code.wp _ _ _ _ _
  refine fH ((((HF.out).al (b := w.heap.size) (by first | rfl | simp) (by decide)).al (b := w.heap.size + 1) (by first | rfl | simp) (by decide)).al (b := w.heap.size + 1 + 1) (by first | rfl | simp) (by decide)) fun Wx0 HG => ?_
  clear HF; have HF := HG; clear HG
  generalize w.heap.size + 1 + 1 = gx2 at *
  generalize w.heap.size + 1 = gx1 at *
  have HZ1 : Hid (rdd (1) (a) k = yl) := Lib.hid (HLO.out)
  have su1 : sz (yl) ≤ 913 := by have e := HZ1.out; first | omega | (rw [← e]; exact sz_rdd (by omega) om)
  have lx0 := HF.out.c 0 rfl
  refine kS fun K hK => ?_
  refine sq 6 [(true, 0), (true, 1), (true, 2), (true, 3), (true, 4), (true, 5)] fun T hT => ?_
  iterate 2 refine tk ?_
  refine ck Tryz.call168 (fun w' hw => dround (1) (a) k (yl) _ HZ1.out (by omega) (by omega) (by omega) om) ?_
  iterate 3 refine tk ?_
  refine nlS hT HF fun vw1 HG => ?_
  clear hT T HF lx0
  have lx1 := HG.out.c 1 rfl; have fx1 := HG.out.f 1 rfl
  have r0 := Gr.refl vw1
  go_wp2
  refine hK.out _ _ ?_; clear hK K
  show Code.wp _ _ _ _ _
  clear r0 lx1 fx1
  refine fH ((((HG.out).put2 1 0 rfl).put2 1 2 rfl).put 1 4 _ rfl) fun Wx1 HF => ?_
  clear HG
  have HZ2 : Hid (rdd (2) (a) k = yh) := Lib.hid (HHI.out)
  have su2 : sz (yh) ≤ 913 := by have e := HZ2.out; first | omega | (rw [← e]; exact sz_rdd (by omega) om)
  have lx0 := HF.out.c 0 rfl
  refine kS fun K hK => ?_
  refine sq 6 [(true, 0), (true, 1), (true, 2), (true, 3), (true, 4), (true, 5)] fun T hT => ?_
  iterate 2 refine tk ?_
  refine ck Tryz.call168 (fun w' hw => dround (2) (a) k (yh) _ HZ2.out (by omega) (by omega) (by omega) om) ?_
  iterate 3 refine tk ?_
  refine nlS hT HF fun vw2 HG => ?_
  clear hT T HF lx0
  have lx2 := HG.out.c 2 rfl; have fx2 := HG.out.f 2 rfl
  have r0 := Gr.refl vw2
  go_wp2
  refine hK.out _ _ ?_; clear hK K
  show Code.wp _ _ _ _ _
  clear r0 lx2 fx2
  refine fH (((((HG.out).put2 2 0 rfl).put2 2 2 rfl).put 2 4 _ rfl).er 0) fun Wx2 HF => ?_
  clear HG
  have lx1 := HF.out.c 0 rfl; have fx1 := HF.out.f 0 rfl
  have lx2 := HF.out.c 1 rfl; have fx2 := HF.out.f 1 rfl
  have r0 := Gr.refl Wx2
  obtain ⟨d1_2, d2_1⟩ := HF.out.ne 0 1 rfl rfl (by decide)
  refine kS fun K hK => ?_
  go_region
  go_wp2
  refine hK.out _ _ ?_; clear hK K
  show Code.wp _ _ _ _ _
  clear r0 lx1 fx1 lx2 fx2 d1_2 d2_1
  refine fH ((((((((HF.out).put2 0 0 rfl).put2 0 2 rfl).put 0 4 _ rfl).put2 1 0 rfl).put2 1 2 rfl).put 1 4 _ rfl).gr ((Below.refl _ _).drew)) fun Wx3 HG => ?_
  clear HF; have HF := HG; clear HG
  refine wp_ret ?_
  try simp only [Exit.then, Exit.inBlock]
  have lx1 := HF.out.c 0 rfl
  have lx2 := HF.out.c 1 rfl
  have r0 := Gr.refl Wx3
  exact bodyPost_ret (v := .tuple #[(.agg #[.int .u64 ((lo (Int.natAbs ((yl).num)) : Nat) : Int), .string (bg (Int.natAbs ((yl).num))), .bool (decide (((yl).num) < 0)), .int .u64 ((lo ((yl).den - 1) : Nat) : Int), .string (bg ((yl).den - 1))]), (.agg #[.int .u64 ((lo (Int.natAbs ((yh).num)) : Nat) : Int), .string (bg (Int.natAbs ((yh).num))), .bool (decide (((yh).num) < 0)), .int .u64 ((lo ((yh).den - 1) : Nat) : Int), .string (bg ((yh).den - 1))]), .int .i64 0]) (by simp [results, Tryz.results169, go_sem, lx1 _ r0, lx2 _ r0]) rfl ⟨rfl, HF.out.1⟩

end Go.Proofs.YtobojnodohjiaaaGreatDoor
