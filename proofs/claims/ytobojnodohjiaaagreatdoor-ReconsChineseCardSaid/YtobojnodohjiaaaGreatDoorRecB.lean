
/- recons: Far, Fits. -/
import Derived.Test.YtobojnodohjiaaaGreatDoorRecA
namespace Go.Proofs.YtobojnodohjiaaaGreatDoor
open Go.RowKit
set_option linter.unusedSimpArgs false
set_option linter.unusedVariables false
attribute [local go_sem ↓] Go.wp_at_zero Go.wp_at_succ
attribute [local go_sem ↓] eq_nat eq_nat_zero eq_int
attribute [local go_sem ↓] eq_nat eq_nat_zero eq_frac eq_frac_zero
set_option maxRecDepth 20000 in
set_option maxHeartbeats 4000000 in
theorem rFar_a (q : Rat) (m : Nat) (w : World) (HA : Hid (¬ 2 * ((q.num).natAbs * (q.num).natAbs) < m)) (hs : sz q ≤ 600) (hwm : wl m ≤ 1200) :
    Calls Tryz.prog 34 #[(Value.agg #[.int .u64 ((lo (Int.natAbs ((q).num)) : Nat) : Int), .string (bg (Int.natAbs ((q).num))), .bool (decide (((q).num) < 0)), .int .u64 ((lo ((q).den - 1) : Nat) : Int), .string (bg ((q).den - 1))]), (Value.agg #[.int .u64 ((lo (m) : Nat) : Int), .string (bg (m))])] w fun e w' => e = .returned ((.bool false)) ∧ Below w.heap.size w w' := by
  go_enter Tryz.func34, Tryz.ntmps34
  have HF := Lib.hid (hp0 w)
  refine kS fun K hK => ?_
  refine wp_region_lit ?_
  go_wp2
  refine hK.out _ _ ?_; clear hK K
  show Code.wp _ _ _ _ _
  refine fH (((HF.out).al (b := w.heap.size) (by first | rfl | simp) (by decide)).al (b := w.heap.size + 1) (by first | rfl | simp) (by decide)) fun Wx0 HG => ?_
  clear HF; have HF := HG; clear HG
  generalize w.heap.size + 1 = gx1 at *
  have su1 : wl (Int.natAbs ((q).num)) ≤ 600 := Nat.le_trans (sz_num _) om
  have lx0 := HF.out.c 0 rfl
  have lx1 := HF.out.c 1 rfl
  refine kS fun K hK => ?_
  refine pd 11 [(true, 0), (true, 3), (true, 1), (true, 2), (true, 4), (true, 5), (true, 6), (true, 8), (true, 7), (true, 9), (true, 10)] fun T hT => ?_
  iterate 2 refine tk ?_
  refine ck Tryz.call40 (fun w' hw => fnum_any (q) _) ?_
  refine ck Tryz.call100 (fun w' hw => abs_any ((q).num) _) ?_
  refine ck Tryz.call99 (fun w' hw => rfar1 (Int.natAbs ((q).num)) (m) false _ (decide_eq_false (HA.out)) om om) ?_
  refine tk ?_
  iterate 4 refine sk ?_
  refine tk ?_
  refine nlD hT HF fun vw1 HG => ?_
  clear hT T HF lx0 lx1
  go_wp2
  refine hK.out _ _ ?_; clear hK K
  show Code.wp _ _ _ _ _
  refine fH (((HG.out).er 1).er 0) fun Wx1 HF => ?_
  clear HG
  refine wp_ret ?_
  try simp only [Exit.then, Exit.inBlock]
  exact bodyPost_ret (v := .bool false) (by simp [results, Tryz.results34, go_sem]) rfl ⟨rfl, HF.out.1⟩

set_option maxRecDepth 20000 in
set_option maxHeartbeats 4000000 in
theorem rFar_b (q : Rat) (m : Nat) (w : World) (HA : Hid (2 * ((q.num).natAbs * (q.num).natAbs) < m)) (HFB : Hid (¬ 2 * (q.den * q.den) < m)) (hs : sz q ≤ 600) (hwm : wl m ≤ 1200) :
    Calls Tryz.prog 34 #[(Value.agg #[.int .u64 ((lo (Int.natAbs ((q).num)) : Nat) : Int), .string (bg (Int.natAbs ((q).num))), .bool (decide (((q).num) < 0)), .int .u64 ((lo ((q).den - 1) : Nat) : Int), .string (bg ((q).den - 1))]), (Value.agg #[.int .u64 ((lo (m) : Nat) : Int), .string (bg (m))])] w fun e w' => e = .returned ((.bool false)) ∧ Below w.heap.size w w' := by
  go_enter Tryz.func34, Tryz.ntmps34
  have HF := Lib.hid (hp0 w)
  refine kS fun K hK => ?_
  refine wp_region_lit ?_
  go_wp2
  refine hK.out _ _ ?_; clear hK K
  show Code.wp _ _ _ _ _
  refine fH (((HF.out).al (b := w.heap.size) (by first | rfl | simp) (by decide)).al (b := w.heap.size + 1) (by first | rfl | simp) (by decide)) fun Wx0 HG => ?_
  clear HF; have HF := HG; clear HG
  generalize w.heap.size + 1 = gx1 at *
  have su1 : wl (Int.natAbs ((q).num)) ≤ 600 := Nat.le_trans (sz_num _) om
  have su2 : wl ((q).den) ≤ 600 := Nat.le_trans (sz_den _) om
  have sp2 : 0 < (q).den := (q).den_pos
  have lx0 := HF.out.c 0 rfl
  have lx1 := HF.out.c 1 rfl
  refine kS fun K hK => ?_
  refine pd 11 [(true, 0), (true, 3), (true, 1), (true, 2), (true, 4), (true, 5), (true, 6), (true, 8), (true, 7), (true, 9), (true, 10)] fun T hT => ?_
  iterate 2 refine tk ?_
  refine ck Tryz.call40 (fun w' hw => fnum_any (q) _) ?_
  refine ck Tryz.call100 (fun w' hw => abs_any ((q).num) _) ?_
  refine ck Tryz.call99 (fun w' hw => rfar1 (Int.natAbs ((q).num)) (m) true _ (decide_eq_true (HA.out)) om om) ?_
  iterate 3 refine tk ?_
  refine ck Tryz.call38 (fun w' hw => fDen_any (q) _ om) ?_
  refine ck Tryz.call99 (fun w' hw => rfar1 ((q).den) (m) false _ (decide_eq_false (HFB.out)) om om) ?_
  refine tk ?_
  refine nlD hT HF fun vw1 HG => ?_
  clear hT T HF lx0 lx1
  go_wp2
  refine hK.out _ _ ?_; clear hK K
  show Code.wp _ _ _ _ _
  refine fH (((HG.out).er 1).er 0) fun Wx1 HF => ?_
  clear HG
  refine wp_ret ?_
  try simp only [Exit.then, Exit.inBlock]
  exact bodyPost_ret (v := .bool false) (by simp [results, Tryz.results34, go_sem]) rfl ⟨rfl, HF.out.1⟩

set_option maxRecDepth 20000 in
set_option maxHeartbeats 4000000 in
theorem rFar_y (q : Rat) (m : Nat) (w : World) (HA : Hid (2 * ((q.num).natAbs * (q.num).natAbs) < m)) (HFB : Hid (2 * (q.den * q.den) < m)) (hs : sz q ≤ 600) (hwm : wl m ≤ 1200) :
    Calls Tryz.prog 34 #[(Value.agg #[.int .u64 ((lo (Int.natAbs ((q).num)) : Nat) : Int), .string (bg (Int.natAbs ((q).num))), .bool (decide (((q).num) < 0)), .int .u64 ((lo ((q).den - 1) : Nat) : Int), .string (bg ((q).den - 1))]), (Value.agg #[.int .u64 ((lo (m) : Nat) : Int), .string (bg (m))])] w fun e w' => e = .returned ((.bool true)) ∧ Below w.heap.size w w' := by
  go_enter Tryz.func34, Tryz.ntmps34
  have HF := Lib.hid (hp0 w)
  refine kS fun K hK => ?_
  refine wp_region_lit ?_
  go_wp2
  refine hK.out _ _ ?_; clear hK K
  show Code.wp _ _ _ _ _
  refine fH (((HF.out).al (b := w.heap.size) (by first | rfl | simp) (by decide)).al (b := w.heap.size + 1) (by first | rfl | simp) (by decide)) fun Wx0 HG => ?_
  clear HF; have HF := HG; clear HG
  generalize w.heap.size + 1 = gx1 at *
  have su1 : wl (Int.natAbs ((q).num)) ≤ 600 := Nat.le_trans (sz_num _) om
  have su2 : wl ((q).den) ≤ 600 := Nat.le_trans (sz_den _) om
  have sp2 : 0 < (q).den := (q).den_pos
  have lx0 := HF.out.c 0 rfl
  have lx1 := HF.out.c 1 rfl
  refine kS fun K hK => ?_
  refine pd 11 [(true, 0), (true, 3), (true, 1), (true, 2), (true, 4), (true, 5), (true, 6), (true, 8), (true, 7), (true, 9), (true, 10)] fun T hT => ?_
  iterate 2 refine tk ?_
  refine ck Tryz.call40 (fun w' hw => fnum_any (q) _) ?_
  refine ck Tryz.call100 (fun w' hw => abs_any ((q).num) _) ?_
  refine ck Tryz.call99 (fun w' hw => rfar1 (Int.natAbs ((q).num)) (m) true _ (decide_eq_true (HA.out)) om om) ?_
  iterate 3 refine tk ?_
  refine ck Tryz.call38 (fun w' hw => fDen_any (q) _ om) ?_
  refine ck Tryz.call99 (fun w' hw => rfar1 ((q).den) (m) true _ (decide_eq_true (HFB.out)) om om) ?_
  refine tk ?_
  refine nlD hT HF fun vw1 HG => ?_
  clear hT T HF lx0 lx1
  go_wp2
  refine hK.out _ _ ?_; clear hK K
  show Code.wp _ _ _ _ _
  refine fH (((HG.out).er 1).er 0) fun Wx1 HF => ?_
  clear HG
  refine wp_ret ?_
  try simp only [Exit.then, Exit.inBlock]
  exact bodyPost_ret (v := .bool true) (by simp [results, Tryz.results34, go_sem]) rfl ⟨rfl, HF.out.1⟩

theorem rFar (q : Rat) (m : Nat) (b : Bool) (w : World) (hb : decide (rfar q m) = b) (hs : sz q ≤ 600) (hm : wl m ≤ 1200) :
    Calls Tryz.prog 34 #[(Value.agg #[.int .u64 ((lo (Int.natAbs ((q).num)) : Nat) : Int), .string (bg (Int.natAbs ((q).num))), .bool (decide (((q).num) < 0)), .int .u64 ((lo ((q).den - 1) : Nat) : Int), .string (bg ((q).den - 1))]), (Value.agg #[.int .u64 ((lo (m) : Nat) : Int), .string (bg (m))])] w fun e w' => e = .returned (.bool b) ∧ Below w.heap.size w w' := by
  subst hb
  by_cases h1 : 2 * ((q.num).natAbs * (q.num).natAbs) < m
  · by_cases h2 : 2 * (q.den * q.den) < m
    · rw [decide_eq_true (show rfar q m from ⟨h1, h2⟩)]; exact rFar_y q m w (Lib.hid h1) (Lib.hid h2) hs hm
    · rw [decide_eq_false (show ¬ rfar q m from fun h => h2 h.2)]; exact rFar_b q m w (Lib.hid h1) (Lib.hid h2) hs hm
  · rw [decide_eq_false (show ¬ rfar q m from fun h => h1 h.1)]; exact rFar_a q m w (Lib.hid h1) hs hm

set_option maxRecDepth 20000 in
set_option maxHeartbeats 4000000 in
theorem rFits_z (q : Rat) (a : Int) (m : Nat) (w : World) (HM0 : Hid (m = 0)) (hs : sz q ≤ 600) (hwa : wl a.natAbs ≤ 1200) (hwm : wl m ≤ 1200) :
    Calls Tryz.prog 33 #[(Value.agg #[.int .u64 ((lo (Int.natAbs ((q).num)) : Nat) : Int), .string (bg (Int.natAbs ((q).num))), .bool (decide (((q).num) < 0)), .int .u64 ((lo ((q).den - 1) : Nat) : Int), .string (bg ((q).den - 1))]), (Value.agg #[.int .u64 ((lo (Int.natAbs (a)) : Nat) : Int), .string (bg (Int.natAbs (a))), .bool (decide ((a) < 0))]), (Value.agg #[.int .u64 ((lo (m) : Nat) : Int), .string (bg (m))])] w fun e w' => e = .returned ((.bool false)) ∧ Below w.heap.size w w' := by
  go_enter Tryz.func33, Tryz.ntmps33
  have HF := Lib.hid (hp0 w)
  refine kS fun K hK => ?_
  refine wp_region_lit ?_
  go_wp2
  refine hK.out _ _ ?_; clear hK K
  show Code.wp _ _ _ _ _
  refine fH ((((HF.out).al (b := w.heap.size) (by first | rfl | simp) (by decide)).al (b := w.heap.size + 1) (by first | rfl | simp) (by decide)).al (b := w.heap.size + 1 + 1) (by first | rfl | simp) (by decide)) fun Wx0 HG => ?_
  clear HF; have HF := HG; clear HG
  generalize w.heap.size + 1 + 1 = gx2 at *
  generalize w.heap.size + 1 = gx1 at *
  refine wp_seq ?_
  have hd1 : decide (m = 0) = true := decide_eq_true (by first | exact ok | exact HM0.out | exact HC1.out | exact HZ0.out)
  have lx0 := HF.out.c 0 rfl
  have lx2 := HF.out.c 2 rfl
  refine kS fun K hK => ?_
  refine pd 10 [(true, 0), (true, 1), (true, 2), (true, 3), (true, 4), (true, 6), (true, 5), (true, 7), (true, 8), (true, 9)] fun T hT => ?_
  iterate 4 refine tk ?_
  iterate 6 refine sk ?_
  refine nlD hT HF fun vw1 HG => ?_
  clear hT T HF lx0 lx2
  go_wp2
  refine hK.out _ _ ?_; clear hK K
  show Code.wp _ _ _ _ _
  have HF := HG; clear HG
  clear hd1
  refine wp_cond_true (by rfl) ?_
  refine kS fun K hK => ?_
  refine wp_region_lit ?_
  go_wp2
  refine hK.out _ _ ?_; clear hK K
  show Code.wp _ _ _ _ _
  refine fH (HF.out) fun Wx2 HG => ?_
  clear HF; have HF := HG; clear HG
  refine wp_ret ?_
  try simp only [Exit.then, Exit.inBlock]
  exact bodyPost_ret (v := .bool false) (by simp [results, Tryz.results33, go_sem]) rfl ⟨rfl, HF.out.1⟩

set_option maxRecDepth 20000 in
set_option maxHeartbeats 4000000 in
theorem rFits_g (q : Rat) (a : Int) (m : Nat) (c : Nat) (w : World) (HM0 : Hid (¬ m = 0)) (HC : Hid (Nat.gcd q.den m = c)) (HC1 : Hid (¬ c = 1)) (hs : sz q ≤ 600) (hwa : wl a.natAbs ≤ 1200) (hwm : wl m ≤ 1200) :
    Calls Tryz.prog 33 #[(Value.agg #[.int .u64 ((lo (Int.natAbs ((q).num)) : Nat) : Int), .string (bg (Int.natAbs ((q).num))), .bool (decide (((q).num) < 0)), .int .u64 ((lo ((q).den - 1) : Nat) : Int), .string (bg ((q).den - 1))]), (Value.agg #[.int .u64 ((lo (Int.natAbs (a)) : Nat) : Int), .string (bg (Int.natAbs (a))), .bool (decide ((a) < 0))]), (Value.agg #[.int .u64 ((lo (m) : Nat) : Int), .string (bg (m))])] w fun e w' => e = .returned ((.bool false)) ∧ Below w.heap.size w w' := by
  go_enter Tryz.func33, Tryz.ntmps33
  have HF := Lib.hid (hp0 w)
  refine kS fun K hK => ?_
  refine wp_region_lit ?_
  go_wp2
  refine hK.out _ _ ?_; clear hK K
  show Code.wp _ _ _ _ _
  refine fH ((((HF.out).al (b := w.heap.size) (by first | rfl | simp) (by decide)).al (b := w.heap.size + 1) (by first | rfl | simp) (by decide)).al (b := w.heap.size + 1 + 1) (by first | rfl | simp) (by decide)) fun Wx0 HG => ?_
  clear HF; have HF := HG; clear HG
  generalize w.heap.size + 1 + 1 = gx2 at *
  generalize w.heap.size + 1 = gx1 at *
  refine wp_seq ?_
  have hd1 : decide (m = 0) = false := decide_eq_false (by first | exact ok | exact HM0.out | exact HC1.out | exact HZ0.out)
  have su1 : wl ((q).den) ≤ 600 := Nat.le_trans (sz_den _) om
  have sp1 : 0 < (q).den := (q).den_pos
  have HZ2 : Hid (Nat.gcd ((q).den) (m) = c) := Lib.hid (HC.out)
  have su2 : wl (c) ≤ 1200 := by have e := HZ2.out; first | omega | (rw [← e]; have := wl_gcd ((q).den) (m); omega)
  have su_0_1 : wl 1 ≤ 1 := wl_le.2 (by decide +kernel)
  have hd2 : decide (c = 1) = false := decide_eq_false (by first | exact ok | exact HM0.out | exact HC1.out | exact HZ0.out)
  have lx0 := HF.out.c 0 rfl
  have lx2 := HF.out.c 2 rfl
  refine kS fun K hK => ?_
  refine pd 10 [(true, 0), (true, 1), (true, 2), (true, 3), (true, 4), (true, 6), (true, 5), (true, 7), (true, 8), (true, 9)] fun T hT => ?_
  iterate 6 refine tk ?_
  refine ck Tryz.call38 (fun w' hw => fDen_any (q) _ om) ?_
  refine ck Tryz.call111 (fun w' hw => nzgcd ((q).den) (m) (c) _ HZ2.out om om) ?_
  refine ck Tryz.call24 (fun w' hw => nzof 1 _ (by decide)) ?_
  refine tk ?_
  refine nlD hT HF fun vw1 HG => ?_
  clear hT T HF lx0 lx2
  go_wp2
  refine hK.out _ _ ?_; clear hK K
  show Code.wp _ _ _ _ _
  have HF := HG; clear HG
  clear hd1 hd2
  refine wp_cond_true (by rfl) ?_
  refine kS fun K hK => ?_
  refine wp_region_lit ?_
  go_wp2
  refine hK.out _ _ ?_; clear hK K
  show Code.wp _ _ _ _ _
  refine fH (HF.out) fun Wx2 HG => ?_
  clear HF; have HF := HG; clear HG
  refine wp_ret ?_
  try simp only [Exit.then, Exit.inBlock]
  exact bodyPost_ret (v := .bool false) (by simp [results, Tryz.results33, go_sem]) rfl ⟨rfl, HF.out.1⟩

set_option maxRecDepth 20000 in
set_option maxHeartbeats 4000000 in
theorem rFits_r (q : Rat) (a : Int) (m : Nat) (p d : Int) (z : Int) (w : World) (HM0 : Hid (¬ m = 0)) (HC : Hid (Nat.gcd q.den m = 1)) (HP : Hid (a * ((q.den : Nat) : Int) = p)) (HD : Hid (q.num - p = d)) (HZ : Hid (d % ((m : Nat) : Int) = z)) (HZ0 : Hid (¬ z = 0)) (hs : sz q ≤ 600) (hwa : wl a.natAbs ≤ 1200) (hwm : wl m ≤ 1200) :
    Calls Tryz.prog 33 #[(Value.agg #[.int .u64 ((lo (Int.natAbs ((q).num)) : Nat) : Int), .string (bg (Int.natAbs ((q).num))), .bool (decide (((q).num) < 0)), .int .u64 ((lo ((q).den - 1) : Nat) : Int), .string (bg ((q).den - 1))]), (Value.agg #[.int .u64 ((lo (Int.natAbs (a)) : Nat) : Int), .string (bg (Int.natAbs (a))), .bool (decide ((a) < 0))]), (Value.agg #[.int .u64 ((lo (m) : Nat) : Int), .string (bg (m))])] w fun e w' => e = .returned ((.bool false)) ∧ Below w.heap.size w w' := by
  go_enter Tryz.func33, Tryz.ntmps33
  have HF := Lib.hid (hp0 w)
  refine kS fun K hK => ?_
  refine wp_region_lit ?_
  go_wp2
  refine hK.out _ _ ?_; clear hK K
  show Code.wp _ _ _ _ _
  refine fH ((((HF.out).al (b := w.heap.size) (by first | rfl | simp) (by decide)).al (b := w.heap.size + 1) (by first | rfl | simp) (by decide)).al (b := w.heap.size + 1 + 1) (by first | rfl | simp) (by decide)) fun Wx0 HG => ?_
  clear HF; have HF := HG; clear HG
  generalize w.heap.size + 1 + 1 = gx2 at *
  generalize w.heap.size + 1 = gx1 at *
  refine wp_seq ?_
  have hd1 : decide (m = 0) = false := decide_eq_false (by first | exact ok | exact HM0.out | exact HC1.out | exact HZ0.out)
  have su1 : wl ((q).den) ≤ 600 := Nat.le_trans (sz_den _) om
  have sp1 : 0 < (q).den := (q).den_pos
  have HZ2 : Hid (Nat.gcd ((q).den) (m) = 1) := Lib.hid (HC.out)
  have su2 : wl (1) ≤ 1200 := by have e := HZ2.out; first | omega | (rw [← e]; have := wl_gcd ((q).den) (m); omega) | exact wl_le.2 (by decide +kernel)
  have su_0_1 : wl 1 ≤ 1 := wl_le.2 (by decide +kernel)
  have lx0 := HF.out.c 0 rfl
  have lx2 := HF.out.c 2 rfl
  refine kS fun K hK => ?_
  refine pd 10 [(true, 0), (true, 1), (true, 2), (true, 3), (true, 4), (true, 6), (true, 5), (true, 7), (true, 8), (true, 9)] fun T hT => ?_
  iterate 6 refine tk ?_
  refine ck Tryz.call38 (fun w' hw => fDen_any (q) _ om) ?_
  refine ck Tryz.call111 (fun w' hw => nzgcd ((q).den) (m) (1) _ HZ2.out om om) ?_
  refine ck Tryz.call24 (fun w' hw => nzof 1 _ (by decide)) ?_
  refine tk ?_
  refine nlD hT HF fun vw1 HG => ?_
  clear hT T HF lx0 lx2
  go_wp2
  refine hK.out _ _ ?_; clear hK K
  show Code.wp _ _ _ _ _
  have HF := HG; clear HG
  clear hd1
  refine wp_cond_false (by rfl) ?_
  refine wp_skip ?_
  show Code.wp _ _ _ _ _
  have su3 : wl (Int.natAbs ((q).num)) ≤ 600 := Nat.le_trans (sz_num _) om
  have su4 : wl ((q).den) ≤ 600 := Nat.le_trans (sz_den _) om
  have sp4 : 0 < (q).den := (q).den_pos
  have su5 : wl (Int.natAbs (((q).den : Nat) : Int)) ≤ 600 := by rw [Int.natAbs_natCast]; omega
  have HZ6 : Hid ((a) * ((((q).den : Nat) : Int)) = p) := Lib.hid (HP.out)
  have su6 : wl (Int.natAbs (p)) ≤ 1800 := by have e := HZ6.out; first | omega | (rw [← e]; have := wl_imul (a) ((((q).den : Nat) : Int)); omega)
  have HZ7 : Hid (((q).num) - (p) = d) := Lib.hid (HD.out)
  have su7 : wl (Int.natAbs (d)) ≤ 1801 := by have e := HZ7.out; first | omega | (rw [← e]; have := wl_isub ((q).num) (p); omega)
  have HZ8 : Hid ((d) % ((m : Nat) : Int) = z) := Lib.hid (HZ.out)
  have su8 : wl (Int.natAbs (z)) ≤ 1200 := by have e := HZ8.out; first | omega | (rw [← e]; exact wl_rmod (by have e9 := HM0.out; omega) om)
  have lx0 := HF.out.c 0 rfl
  have lx1 := HF.out.c 1 rfl
  have lx2 := HF.out.c 2 rfl
  refine kS fun K hK => ?_
  refine wp_region_plan 11 [10] [] (fun _ => 7) (fun _ => .cells #[.int .u64 0, .string ⟨#[]⟩, .bool false] 34) [(true, 0), (true, 2), (true, 3), (true, 8), (true, 1), (true, 4), (true, 5), (true, 6), (true, 7), (true, 9)] (by kernel_rfl) (by kernel_rfl) (by intro i hi; simp only [List.mem_cons, List.not_mem_nil, or_false] at hi; rcases hi with rfl <;> exact ⟨_, rfl, rfl, rfl, by simp, fun ρ w => by kernel_rfl⟩) (fun i hi => by cases hi) (fun _ _ _ _ _ h => h) (fun T hT => ?_)
  iterate 4 refine tk ?_
  refine ck Tryz.call40 (fun w' hw => fnum_any (q) _) ?_
  refine ck Tryz.call38 (fun w' hw => fDen_any (q) _ om) ?_
  refine ck Tryz.call95 (fun w' hw => rwhole_any ((q).den) _) ?_
  refine ck Tryz.call39 (fun w' hw => zimul (a) ((((q).den : Nat) : Int)) (p) _ HZ6.out om om) ?_
  refine ck Tryz.call98 (fun w' hw => zisub ((q).num) (p) (d) _ HZ7.out om om) ?_
  refine ck Tryz.call96 (fun w' hw => rleft_any (d) (z) (m) _ (Lib.hid HZ8.out) (by have e9 := HM0.out; omega) om om) ?_
  refine wpPlan_nil (hT.out _ _ ?_)
  intro G vw2 hg hf
  simp only [puts, Act.put, lA, lB, lC, lD, lE, ↓reduceIte, Nat.reduceEqDiff]
  have HG := Lib.hid (HF.out.fr hg hf (zs := [(#[.int .u64 0, .string ⟨#[]⟩, .bool false], 34)]) rfl (by decide) (by decide))
  simp only [List.zip_cons_cons, List.zip_nil_right, List.map_cons, List.map_nil, lF, lG] at HG
  clear hT T HF hg hf lx0 lx1 lx2
  generalize G 10 = gx4 at *
  have lx4 := HG.out.c 3 rfl; have fx4 := HG.out.f 3 rfl
  have r0 := Gr.refl vw2
  go_wp2
  refine hK.out _ _ ?_; clear hK K
  show Code.wp _ _ _ _ _
  clear r0 lx4 fx4
  refine fH ((((((HG.out).put2 3 0 rfl).put 3 2 _ rfl).er 2).er 1).er 0) fun Wx3 HF => ?_
  clear HG
  have hd2 : decide (z = 0) = false := decide_eq_false (by first | exact ok | exact HM0.out | exact HC1.out | exact HZ0.out)
  have lx4 := HF.out.c 0 rfl
  refine kS fun K hK => ?_
  refine sq 4 [(true, 0), (true, 1), (true, 2), (true, 3)] fun T hT => ?_
  iterate 4 refine tk ?_
  refine nlS hT HF fun vw3 HG => ?_
  clear hT T HF lx4
  go_wp2
  refine hK.out _ _ ?_; clear hK K
  show Code.wp _ _ _ _ _
  refine fH ((HG.out).er 0) fun Wx4 HF => ?_
  clear HG
  clear hd2
  refine wp_ret ?_
  try simp only [Exit.then, Exit.inBlock]
  exact bodyPost_ret (v := .bool false) (by simp [results, Tryz.results33, go_sem]) rfl ⟨rfl, HF.out.1⟩

set_option maxRecDepth 20000 in
set_option maxHeartbeats 4000000 in
theorem rFits_y (q : Rat) (a : Int) (m : Nat) (p d : Int) (w : World) (HM0 : Hid (¬ m = 0)) (HC : Hid (Nat.gcd q.den m = 1)) (HP : Hid (a * ((q.den : Nat) : Int) = p)) (HD : Hid (q.num - p = d)) (HZ : Hid (d % ((m : Nat) : Int) = 0)) (hs : sz q ≤ 600) (hwa : wl a.natAbs ≤ 1200) (hwm : wl m ≤ 1200) :
    Calls Tryz.prog 33 #[(Value.agg #[.int .u64 ((lo (Int.natAbs ((q).num)) : Nat) : Int), .string (bg (Int.natAbs ((q).num))), .bool (decide (((q).num) < 0)), .int .u64 ((lo ((q).den - 1) : Nat) : Int), .string (bg ((q).den - 1))]), (Value.agg #[.int .u64 ((lo (Int.natAbs (a)) : Nat) : Int), .string (bg (Int.natAbs (a))), .bool (decide ((a) < 0))]), (Value.agg #[.int .u64 ((lo (m) : Nat) : Int), .string (bg (m))])] w fun e w' => e = .returned ((.bool true)) ∧ Below w.heap.size w w' := by
  go_enter Tryz.func33, Tryz.ntmps33
  have HF := Lib.hid (hp0 w)
  refine kS fun K hK => ?_
  refine wp_region_lit ?_
  go_wp2
  refine hK.out _ _ ?_; clear hK K
  show Code.wp _ _ _ _ _
  refine fH ((((HF.out).al (b := w.heap.size) (by first | rfl | simp) (by decide)).al (b := w.heap.size + 1) (by first | rfl | simp) (by decide)).al (b := w.heap.size + 1 + 1) (by first | rfl | simp) (by decide)) fun Wx0 HG => ?_
  clear HF; have HF := HG; clear HG
  generalize w.heap.size + 1 + 1 = gx2 at *
  generalize w.heap.size + 1 = gx1 at *
  refine wp_seq ?_
  have hd1 : decide (m = 0) = false := decide_eq_false (by first | exact ok | exact HM0.out | exact HC1.out | exact HZ0.out)
  have su1 : wl ((q).den) ≤ 600 := Nat.le_trans (sz_den _) om
  have sp1 : 0 < (q).den := (q).den_pos
  have HZ2 : Hid (Nat.gcd ((q).den) (m) = 1) := Lib.hid (HC.out)
  have su2 : wl (1) ≤ 1200 := by have e := HZ2.out; first | omega | (rw [← e]; have := wl_gcd ((q).den) (m); omega) | exact wl_le.2 (by decide +kernel)
  have su_0_1 : wl 1 ≤ 1 := wl_le.2 (by decide +kernel)
  have lx0 := HF.out.c 0 rfl
  have lx2 := HF.out.c 2 rfl
  refine kS fun K hK => ?_
  refine pd 10 [(true, 0), (true, 1), (true, 2), (true, 3), (true, 4), (true, 6), (true, 5), (true, 7), (true, 8), (true, 9)] fun T hT => ?_
  iterate 6 refine tk ?_
  refine ck Tryz.call38 (fun w' hw => fDen_any (q) _ om) ?_
  refine ck Tryz.call111 (fun w' hw => nzgcd ((q).den) (m) (1) _ HZ2.out om om) ?_
  refine ck Tryz.call24 (fun w' hw => nzof 1 _ (by decide)) ?_
  refine tk ?_
  refine nlD hT HF fun vw1 HG => ?_
  clear hT T HF lx0 lx2
  go_wp2
  refine hK.out _ _ ?_; clear hK K
  show Code.wp _ _ _ _ _
  have HF := HG; clear HG
  clear hd1
  refine wp_cond_false (by rfl) ?_
  refine wp_skip ?_
  show Code.wp _ _ _ _ _
  have su3 : wl (Int.natAbs ((q).num)) ≤ 600 := Nat.le_trans (sz_num _) om
  have su4 : wl ((q).den) ≤ 600 := Nat.le_trans (sz_den _) om
  have sp4 : 0 < (q).den := (q).den_pos
  have su5 : wl (Int.natAbs (((q).den : Nat) : Int)) ≤ 600 := by rw [Int.natAbs_natCast]; omega
  have HZ6 : Hid ((a) * ((((q).den : Nat) : Int)) = p) := Lib.hid (HP.out)
  have su6 : wl (Int.natAbs (p)) ≤ 1800 := by have e := HZ6.out; first | omega | (rw [← e]; have := wl_imul (a) ((((q).den : Nat) : Int)); omega)
  have HZ7 : Hid (((q).num) - (p) = d) := Lib.hid (HD.out)
  have su7 : wl (Int.natAbs (d)) ≤ 1801 := by have e := HZ7.out; first | omega | (rw [← e]; have := wl_isub ((q).num) (p); omega)
  have HZ8 : Hid ((d) % ((m : Nat) : Int) = 0) := Lib.hid (HZ.out)
  have su8 : wl (Int.natAbs (0)) ≤ 1200 := by have e := HZ8.out; first | omega | (rw [← e]; exact wl_rmod (by have e9 := HM0.out; omega) om) | exact wl_le.2 (by decide +kernel)
  have lx0 := HF.out.c 0 rfl
  have lx1 := HF.out.c 1 rfl
  have lx2 := HF.out.c 2 rfl
  refine kS fun K hK => ?_
  refine wp_region_plan 11 [10] [] (fun _ => 7) (fun _ => .cells #[.int .u64 0, .string ⟨#[]⟩, .bool false] 34) [(true, 0), (true, 2), (true, 3), (true, 8), (true, 1), (true, 4), (true, 5), (true, 6), (true, 7), (true, 9)] (by kernel_rfl) (by kernel_rfl) (by intro i hi; simp only [List.mem_cons, List.not_mem_nil, or_false] at hi; rcases hi with rfl <;> exact ⟨_, rfl, rfl, rfl, by simp, fun ρ w => by kernel_rfl⟩) (fun i hi => by cases hi) (fun _ _ _ _ _ h => h) (fun T hT => ?_)
  iterate 4 refine tk ?_
  refine ck Tryz.call40 (fun w' hw => fnum_any (q) _) ?_
  refine ck Tryz.call38 (fun w' hw => fDen_any (q) _ om) ?_
  refine ck Tryz.call95 (fun w' hw => rwhole_any ((q).den) _) ?_
  refine ck Tryz.call39 (fun w' hw => zimul (a) ((((q).den : Nat) : Int)) (p) _ HZ6.out om om) ?_
  refine ck Tryz.call98 (fun w' hw => zisub ((q).num) (p) (d) _ HZ7.out om om) ?_
  refine ck Tryz.call96 (fun w' hw => rleft_any (d) (0) (m) _ (Lib.hid HZ8.out) (by have e9 := HM0.out; omega) om om) ?_
  refine wpPlan_nil (hT.out _ _ ?_)
  intro G vw2 hg hf
  simp only [puts, Act.put, lA, lB, lC, lD, lE, ↓reduceIte, Nat.reduceEqDiff]
  have HG := Lib.hid (HF.out.fr hg hf (zs := [(#[.int .u64 0, .string ⟨#[]⟩, .bool false], 34)]) rfl (by decide) (by decide))
  simp only [List.zip_cons_cons, List.zip_nil_right, List.map_cons, List.map_nil, lF, lG] at HG
  clear hT T HF hg hf lx0 lx1 lx2
  generalize G 10 = gx4 at *
  have lx4 := HG.out.c 3 rfl; have fx4 := HG.out.f 3 rfl
  have r0 := Gr.refl vw2
  go_wp2
  refine hK.out _ _ ?_; clear hK K
  show Code.wp _ _ _ _ _
  clear r0 lx4 fx4
  refine fH ((((((HG.out).put2 3 0 rfl).put 3 2 _ rfl).er 2).er 1).er 0) fun Wx3 HF => ?_
  clear HG
  have lx4 := HF.out.c 0 rfl
  refine kS fun K hK => ?_
  refine sq 4 [(true, 0), (true, 1), (true, 2), (true, 3)] fun T hT => ?_
  iterate 4 refine tk ?_
  refine nlS hT HF fun vw3 HG => ?_
  clear hT T HF lx4
  go_wp2
  refine hK.out _ _ ?_; clear hK K
  show Code.wp _ _ _ _ _
  refine fH ((HG.out).er 0) fun Wx4 HF => ?_
  clear HG
  refine wp_ret ?_
  try simp only [Exit.then, Exit.inBlock]
  exact bodyPost_ret (v := .bool true) (by simp [results, Tryz.results33, go_sem]) rfl ⟨rfl, HF.out.1⟩

theorem rFits (q : Rat) (a : Int) (m : Nat) (b : Bool) (w : World) (hb : decide (rfit q a m) = b) (hs : sz q ≤ 600) (ha : wl a.natAbs ≤ 1200) (hm : wl m ≤ 1200) :
    Calls Tryz.prog 33 #[(Value.agg #[.int .u64 ((lo (Int.natAbs ((q).num)) : Nat) : Int), .string (bg (Int.natAbs ((q).num))), .bool (decide (((q).num) < 0)), .int .u64 ((lo ((q).den - 1) : Nat) : Int), .string (bg ((q).den - 1))]), (Value.agg #[.int .u64 ((lo (Int.natAbs (a)) : Nat) : Int), .string (bg (Int.natAbs (a))), .bool (decide ((a) < 0))]), (Value.agg #[.int .u64 ((lo (m) : Nat) : Int), .string (bg (m))])] w fun e w' => e = .returned (.bool b) ∧ Below w.heap.size w w' := by
  subst hb
  by_cases h0 : m = 0
  · rw [decide_eq_false (show ¬ rfit q a m from fun h => h.1 h0)]; exact rFits_z q a m w (Lib.hid h0) hs ha hm
  · by_cases h1 : Nat.gcd q.den m = 1
    · by_cases h2 : (q.num - a * ((q.den : Nat) : Int)) % ((m : Nat) : Int) = 0
      · rw [decide_eq_true (show rfit q a m from ⟨h0, h1, h2⟩)]; exact rFits_y q a m _ _ w (Lib.hid h0) (Lib.hid h1) (Lib.hid rfl) (Lib.hid rfl) (Lib.hid h2) hs ha hm
      · rw [decide_eq_false (show ¬ rfit q a m from fun h => h2 h.2.2)]; exact rFits_r q a m _ _ _ w (Lib.hid h0) (Lib.hid h1) (Lib.hid rfl) (Lib.hid rfl) (Lib.hid rfl) (Lib.hid h2) hs ha hm
    · rw [decide_eq_false (show ¬ rfit q a m from fun h => h1 h.2.1)]; exact rFits_g q a m _ w (Lib.hid h0) (Lib.hid rfl) (Lib.hid h1) hs ha hm

end Go.Proofs.YtobojnodohjiaaaGreatDoor
