
/- ints.Div: quotient and rest as Lean's / and %. -/
import Derived.Test.YtobojnodohjiaaaGreatDoorIntE
import Derived.Test.YtobojnodohjiaaaGreatDoorPJ
import Derived.Test.YtobojnodohjiaaaGreatDoorHp
namespace Go.Proofs.YtobojnodohjiaaaGreatDoor
open Go.RowKit
set_option linter.unusedSimpArgs false
set_option linter.unusedVariables false
attribute [local go_sem ↓] Go.wp_at_zero Go.wp_at_succ
attribute [local go_sem ↓] eq_nat eq_nat_zero eq_int
set_option maxRecDepth 20000 in
set_option maxHeartbeats 4000000 in
theorem div_pp (a b q r : Int) (w : World) (HQ : Hid (a / b = q)) (HR : Hid (a % b = r)) (HBS : Hid (0 < b)) (H0 : Hid (0 ≤ a)) (HRS : Hid (0 ≤ r)) (ha9 : wl a.natAbs ≤ 100000000000) (hb9 : wl b.natAbs ≤ 100000000000) :
    Calls Tryz.prog 42 #[(Value.agg #[.int .u64 ((lo (Int.natAbs (a)) : Nat) : Int), .string (bg (Int.natAbs (a))), .bool (decide ((a) < 0))]), (Value.agg #[.int .u64 ((lo (Int.natAbs (b)) : Nat) : Int), .string (bg (Int.natAbs (b))), .bool (decide ((b) < 0))])] w fun e w' => e = .returned (.tuple #[(.agg #[.int .u64 ((lo (Int.natAbs (q)) : Nat) : Int), .string (bg (Int.natAbs (q))), .bool (decide ((q) < 0))]), (.agg #[.int .u64 ((lo (Int.natAbs (r)) : Nat) : Int), .string (bg (Int.natAbs (r))), .bool (decide ((r) < 0))]), .bool true]) ∧ Below w.heap.size w w' := by
  go_enter Tryz.func42, Tryz.ntmps42
  have HF := Lib.hid (hp0 w)
  refine kS fun K hK => ?_
  refine wp_region_lit ?_
  go_wp2
  refine hK.out _ _ ?_; clear hK K
  show Code.wp _ _ _ _ _
  refine fH (((((HF.out).al (b := w.heap.size) (by first | rfl | simp) (by decide)).al (b := w.heap.size + 1) (by first | rfl | simp) (by decide)).al (b := w.heap.size + 1 + 1) (by first | rfl | simp) (by decide)).al (b := w.heap.size + 1 + 1 + 1) (by first | rfl | simp) (by decide)) fun Wx0 HG => ?_
  clear HF; have HF := HG; clear HG
  generalize w.heap.size + 1 + 1 + 1 = gx3 at *
  generalize w.heap.size + 1 + 1 = gx2 at *
  generalize w.heap.size + 1 = gx1 at *
  obtain ⟨u1, HZ1⟩ : ∃ z, Hid ((Int.natAbs (a)) / (Int.natAbs (b)) = z) := ⟨_, Lib.hid rfl⟩
  have su1 : wl (u1) ≤ 100000000000 := by rw [← HZ1.out]; have := wl_div (Int.natAbs (a)) (Int.natAbs (b)); omega
  obtain ⟨u2, HZ2⟩ : ∃ z, Hid ((Int.natAbs (a)) % (Int.natAbs (b)) = z) := ⟨_, Lib.hid rfl⟩
  have su2 : wl (u2) ≤ 100000000000 := by rw [← HZ2.out]; have := wl_mod (Int.natAbs (a)) (Int.natAbs (b)); omega
  have lx0 := HF.out.c 0 rfl
  have lx1 := HF.out.c 1 rfl
  refine kS fun K hK => ?_
  refine sq 11 [(true, 0), (true, 1), (true, 2), (true, 3), (true, 4), (true, 5), (true, 6), (true, 7), (true, 8), (true, 9), (true, 10)] fun T hT => ?_
  iterate 6 refine tk ?_
  refine ck Tryz.call43 (fun w' hw => nzdiv (Int.natAbs (a)) (Int.natAbs (b)) (u1) (u2) _ HZ1.out HZ2.out (by have h0 := H0.out; have hb := HBS.out; have hr := HRS.out; first | exact ok | (simp only [← HZ2.out, ← HZ1.out] <;> first | exact ok)) om om) ?_
  iterate 4 refine tk ?_
  refine nlS hT HF fun vw1 HG => ?_
  clear hT T HF lx0 lx1
  go_wp2
  refine hK.out _ _ ?_; clear hK K
  show Code.wp _ _ _ _ _
  refine fH (((HG.out).al (b := vw1.heap.size) (by first | rfl | simp) (by decide)).al (b := vw1.heap.size + 1) (by first | rfl | simp) (by decide)) fun Wx1 HF => ?_
  clear HG
  generalize vw1.heap.size + 1 = gx6 at *
  generalize vw1.heap.size = gx5 at *
  refine wp_seq ?_
  refine kS fun K hK => ?_
  refine sq 2 [(true, 0), (true, 1)] fun T hT => ?_
  iterate 2 refine tk ?_
  refine nlS hT HF fun vw2 HG => ?_
  clear hT T HF
  go_wp2
  refine hK.out _ _ ?_; clear hK K
  show Code.wp _ _ _ _ _
  have HF := HG; clear HG
  refine wp_cond_false (by rfl) ?_
  refine wp_skip ?_
  show Code.wp _ _ _ _ _
  have hd1 : decide ((a) < 0) = false := decide_eq_false (by have h0 := H0.out; have hb := HBS.out; have hr := HRS.out; first | exact ok | (simp only [← HZ2.out, ← HZ1.out] <;> first | exact ok))
  have hd2 : decide ((b) < 0) = false := decide_eq_false (by have h0 := H0.out; have hb := HBS.out; have hr := HRS.out; first | exact ok | (simp only [← HZ2.out, ← HZ1.out] <;> first | exact ok))
  have hd3 : decide ((a) < 0) = false := decide_eq_false (by have h0 := H0.out; have hb := HBS.out; have hr := HRS.out; first | exact ok | (simp only [← HZ2.out, ← HZ1.out] <;> first | exact ok))
  have HZ3 : Hid ((if false then -((u1 : Nat) : Int) else ((u1 : Nat) : Int)) = q) := Lib.hid (by have h0 := H0.out; have hb := HBS.out; have hr := HRS.out; rw [← HQ.out, ← HZ1.out]; exact dq false false (decide_eq_false (by omega)) (decide_eq_false (by omega)) (by omega) (.inl (by omega)))
  have su3 : wl (Int.natAbs (q)) ≤ 100000000000 := by have e := HZ3.out; first | omega | (rw [← e]; split <;> simp <;> omega)
  have HZ4 : Hid ((if false then -((u2 : Nat) : Int) else ((u2 : Nat) : Int)) = r) := Lib.hid (by have h0 := H0.out; have hb := HBS.out; have hr := HRS.out; rw [← HR.out, ← HZ2.out]; exact dr false (decide_eq_false (by omega)) (by omega) (.inl (by omega)))
  have su4 : wl (Int.natAbs (r)) ≤ 100000000000 := by have e := HZ4.out; first | omega | (rw [← e]; split <;> simp <;> omega)
  have lx0 := HF.out.c 0 rfl
  have lx1 := HF.out.c 1 rfl
  have lx5 := HF.out.c 4 rfl
  have lx6 := HF.out.c 5 rfl
  refine kS fun K hK => ?_
  refine pd 11 [(true, 0), (true, 1), (true, 2), (true, 3), (true, 4), (true, 5), (true, 7), (true, 8), (true, 9), (true, 6), (true, 10)] fun T hT => ?_
  iterate 9 refine tk ?_
  refine ck Tryz.call37 (fun w' hw => from_any false (u1) (q) _ HZ3.out) ?_
  refine ck Tryz.call37 (fun w' hw => from_any false (u2) (r) _ HZ4.out) ?_
  refine nlD hT HF fun vw3 HG => ?_
  clear hT T HF lx0 lx1 lx5 lx6
  have lx2 := HG.out.c 2 rfl; have fx2 := HG.out.f 2 rfl
  have lx3 := HG.out.c 3 rfl; have fx3 := HG.out.f 3 rfl
  have r0 := Gr.refl vw3
  obtain ⟨d2_3, d3_2⟩ := HG.out.ne 2 3 rfl rfl (by decide)
  go_wp2
  refine hK.out _ _ ?_; clear hK K
  show Code.wp _ _ _ _ _
  clear r0 lx2 fx2 lx3 fx3 d2_3 d3_2
  refine fH ((((((((HG.out).put2 2 0 rfl).put 2 2 _ rfl).put2 3 0 rfl).put 3 2 _ rfl).er 5).er 4).er 0) fun Wx4 HF => ?_
  clear HG
  clear hd1 hd2 hd3
  refine wp_seq ?_
  have hd4 : decide ((r) < 0) = false := decide_eq_false (by have h0 := H0.out; have hb := HBS.out; have hr := HRS.out; first | exact ok | (simp only [← HZ2.out, ← HZ1.out] <;> first | exact ok))
  have lx3 := HF.out.c 2 rfl
  refine kS fun K hK => ?_
  refine sq 2 [(true, 0), (true, 1)] fun T hT => ?_
  iterate 2 refine tk ?_
  refine nlS hT HF fun vw4 HG => ?_
  clear hT T HF lx3
  go_wp2
  refine hK.out _ _ ?_; clear hK K
  show Code.wp _ _ _ _ _
  have HF := HG; clear HG
  clear hd4
  refine wp_cond_false (by rfl) ?_
  refine wp_skip ?_
  show Code.wp _ _ _ _ _
  have lx2 := HF.out.c 1 rfl; have fx2 := HF.out.f 1 rfl
  have lx3 := HF.out.c 2 rfl; have fx3 := HF.out.f 2 rfl
  have r0 := Gr.refl vw4
  obtain ⟨d2_3, d3_2⟩ := HF.out.ne 1 2 rfl rfl (by decide)
  refine kS fun K hK => ?_
  go_region
  go_wp2
  refine hK.out _ _ ?_; clear hK K
  show Code.wp _ _ _ _ _
  clear r0 lx2 fx2 lx3 fx3 d2_3 d3_2
  refine fH (((((((HF.out).put2 1 0 rfl).put 1 2 _ rfl).put2 2 0 rfl).put 2 2 _ rfl).er 0).gr ((Below.refl _ _).drew)) fun Wx8 HG => ?_
  clear HF; have HF := HG; clear HG
  refine wp_ret ?_
  try simp only [Exit.then, Exit.inBlock]
  have lx2 := HF.out.c 0 rfl
  have lx3 := HF.out.c 1 rfl
  have r0 := Gr.refl Wx8
  exact bodyPost_ret (v := .tuple #[(.agg #[.int .u64 ((lo (Int.natAbs (q)) : Nat) : Int), .string (bg (Int.natAbs (q))), .bool (decide ((q) < 0))]), (.agg #[.int .u64 ((lo (Int.natAbs (r)) : Nat) : Int), .string (bg (Int.natAbs (r))), .bool (decide ((r) < 0))]), .bool true]) (by simp [results, Tryz.results42, go_sem, lx2 _ r0, lx3 _ r0]) rfl ⟨rfl, HF.out.1⟩

set_option maxRecDepth 20000 in
set_option maxHeartbeats 4000000 in
theorem div_pn (a b q r : Int) (w : World) (HQ : Hid (a / b = q)) (HR : Hid (a % b = r)) (HBS : Hid (b < 0)) (H0 : Hid (0 ≤ a)) (HRS : Hid (0 ≤ r)) (ha9 : wl a.natAbs ≤ 100000000000) (hb9 : wl b.natAbs ≤ 100000000000) :
    Calls Tryz.prog 42 #[(Value.agg #[.int .u64 ((lo (Int.natAbs (a)) : Nat) : Int), .string (bg (Int.natAbs (a))), .bool (decide ((a) < 0))]), (Value.agg #[.int .u64 ((lo (Int.natAbs (b)) : Nat) : Int), .string (bg (Int.natAbs (b))), .bool (decide ((b) < 0))])] w fun e w' => e = .returned (.tuple #[(.agg #[.int .u64 ((lo (Int.natAbs (q)) : Nat) : Int), .string (bg (Int.natAbs (q))), .bool (decide ((q) < 0))]), (.agg #[.int .u64 ((lo (Int.natAbs (r)) : Nat) : Int), .string (bg (Int.natAbs (r))), .bool (decide ((r) < 0))]), .bool true]) ∧ Below w.heap.size w w' := by
  go_enter Tryz.func42, Tryz.ntmps42
  have HF := Lib.hid (hp0 w)
  refine kS fun K hK => ?_
  refine wp_region_lit ?_
  go_wp2
  refine hK.out _ _ ?_; clear hK K
  show Code.wp _ _ _ _ _
  refine fH (((((HF.out).al (b := w.heap.size) (by first | rfl | simp) (by decide)).al (b := w.heap.size + 1) (by first | rfl | simp) (by decide)).al (b := w.heap.size + 1 + 1) (by first | rfl | simp) (by decide)).al (b := w.heap.size + 1 + 1 + 1) (by first | rfl | simp) (by decide)) fun Wx0 HG => ?_
  clear HF; have HF := HG; clear HG
  generalize w.heap.size + 1 + 1 + 1 = gx3 at *
  generalize w.heap.size + 1 + 1 = gx2 at *
  generalize w.heap.size + 1 = gx1 at *
  obtain ⟨u1, HZ1⟩ : ∃ z, Hid ((Int.natAbs (a)) / (Int.natAbs (b)) = z) := ⟨_, Lib.hid rfl⟩
  have su1 : wl (u1) ≤ 100000000000 := by rw [← HZ1.out]; have := wl_div (Int.natAbs (a)) (Int.natAbs (b)); omega
  obtain ⟨u2, HZ2⟩ : ∃ z, Hid ((Int.natAbs (a)) % (Int.natAbs (b)) = z) := ⟨_, Lib.hid rfl⟩
  have su2 : wl (u2) ≤ 100000000000 := by rw [← HZ2.out]; have := wl_mod (Int.natAbs (a)) (Int.natAbs (b)); omega
  have lx0 := HF.out.c 0 rfl
  have lx1 := HF.out.c 1 rfl
  refine kS fun K hK => ?_
  refine sq 11 [(true, 0), (true, 1), (true, 2), (true, 3), (true, 4), (true, 5), (true, 6), (true, 7), (true, 8), (true, 9), (true, 10)] fun T hT => ?_
  iterate 6 refine tk ?_
  refine ck Tryz.call43 (fun w' hw => nzdiv (Int.natAbs (a)) (Int.natAbs (b)) (u1) (u2) _ HZ1.out HZ2.out (by have h0 := H0.out; have hb := HBS.out; have hr := HRS.out; first | exact ok | (simp only [← HZ2.out, ← HZ1.out] <;> first | exact ok)) om om) ?_
  iterate 4 refine tk ?_
  refine nlS hT HF fun vw1 HG => ?_
  clear hT T HF lx0 lx1
  go_wp2
  refine hK.out _ _ ?_; clear hK K
  show Code.wp _ _ _ _ _
  refine fH (((HG.out).al (b := vw1.heap.size) (by first | rfl | simp) (by decide)).al (b := vw1.heap.size + 1) (by first | rfl | simp) (by decide)) fun Wx1 HF => ?_
  clear HG
  generalize vw1.heap.size + 1 = gx6 at *
  generalize vw1.heap.size = gx5 at *
  refine wp_seq ?_
  refine kS fun K hK => ?_
  refine sq 2 [(true, 0), (true, 1)] fun T hT => ?_
  iterate 2 refine tk ?_
  refine nlS hT HF fun vw2 HG => ?_
  clear hT T HF
  go_wp2
  refine hK.out _ _ ?_; clear hK K
  show Code.wp _ _ _ _ _
  have HF := HG; clear HG
  refine wp_cond_false (by rfl) ?_
  refine wp_skip ?_
  show Code.wp _ _ _ _ _
  have hd1 : decide ((a) < 0) = false := decide_eq_false (by have h0 := H0.out; have hb := HBS.out; have hr := HRS.out; first | exact ok | (simp only [← HZ2.out, ← HZ1.out] <;> first | exact ok))
  have hd2 : decide ((b) < 0) = true := decide_eq_true (by have h0 := H0.out; have hb := HBS.out; have hr := HRS.out; first | exact ok | (simp only [← HZ2.out, ← HZ1.out] <;> first | exact ok))
  have hd3 : decide ((a) < 0) = false := decide_eq_false (by have h0 := H0.out; have hb := HBS.out; have hr := HRS.out; first | exact ok | (simp only [← HZ2.out, ← HZ1.out] <;> first | exact ok))
  have HZ3 : Hid ((if true then -((u1 : Nat) : Int) else ((u1 : Nat) : Int)) = q) := Lib.hid (by have h0 := H0.out; have hb := HBS.out; have hr := HRS.out; rw [← HQ.out, ← HZ1.out]; exact dq false true (decide_eq_false (by omega)) (decide_eq_true (by omega)) (by omega) (.inl (by omega)))
  have su3 : wl (Int.natAbs (q)) ≤ 100000000000 := by have e := HZ3.out; first | omega | (rw [← e]; split <;> simp <;> omega)
  have HZ4 : Hid ((if false then -((u2 : Nat) : Int) else ((u2 : Nat) : Int)) = r) := Lib.hid (by have h0 := H0.out; have hb := HBS.out; have hr := HRS.out; rw [← HR.out, ← HZ2.out]; exact dr false (decide_eq_false (by omega)) (by omega) (.inl (by omega)))
  have su4 : wl (Int.natAbs (r)) ≤ 100000000000 := by have e := HZ4.out; first | omega | (rw [← e]; split <;> simp <;> omega)
  have lx0 := HF.out.c 0 rfl
  have lx1 := HF.out.c 1 rfl
  have lx5 := HF.out.c 4 rfl
  have lx6 := HF.out.c 5 rfl
  refine kS fun K hK => ?_
  refine pd 11 [(true, 0), (true, 1), (true, 2), (true, 3), (true, 4), (true, 5), (true, 7), (true, 8), (true, 9), (true, 6), (true, 10)] fun T hT => ?_
  iterate 9 refine tk ?_
  refine ck Tryz.call37 (fun w' hw => from_any true (u1) (q) _ HZ3.out) ?_
  refine ck Tryz.call37 (fun w' hw => from_any false (u2) (r) _ HZ4.out) ?_
  refine nlD hT HF fun vw3 HG => ?_
  clear hT T HF lx0 lx1 lx5 lx6
  have lx2 := HG.out.c 2 rfl; have fx2 := HG.out.f 2 rfl
  have lx3 := HG.out.c 3 rfl; have fx3 := HG.out.f 3 rfl
  have r0 := Gr.refl vw3
  obtain ⟨d2_3, d3_2⟩ := HG.out.ne 2 3 rfl rfl (by decide)
  go_wp2
  refine hK.out _ _ ?_; clear hK K
  show Code.wp _ _ _ _ _
  clear r0 lx2 fx2 lx3 fx3 d2_3 d3_2
  refine fH ((((((((HG.out).put2 2 0 rfl).put 2 2 _ rfl).put2 3 0 rfl).put 3 2 _ rfl).er 5).er 4).er 0) fun Wx4 HF => ?_
  clear HG
  clear hd1 hd2 hd3
  refine wp_seq ?_
  have hd4 : decide ((r) < 0) = false := decide_eq_false (by have h0 := H0.out; have hb := HBS.out; have hr := HRS.out; first | exact ok | (simp only [← HZ2.out, ← HZ1.out] <;> first | exact ok))
  have lx3 := HF.out.c 2 rfl
  refine kS fun K hK => ?_
  refine sq 2 [(true, 0), (true, 1)] fun T hT => ?_
  iterate 2 refine tk ?_
  refine nlS hT HF fun vw4 HG => ?_
  clear hT T HF lx3
  go_wp2
  refine hK.out _ _ ?_; clear hK K
  show Code.wp _ _ _ _ _
  have HF := HG; clear HG
  clear hd4
  refine wp_cond_false (by rfl) ?_
  refine wp_skip ?_
  show Code.wp _ _ _ _ _
  have lx2 := HF.out.c 1 rfl; have fx2 := HF.out.f 1 rfl
  have lx3 := HF.out.c 2 rfl; have fx3 := HF.out.f 2 rfl
  have r0 := Gr.refl vw4
  obtain ⟨d2_3, d3_2⟩ := HF.out.ne 1 2 rfl rfl (by decide)
  refine kS fun K hK => ?_
  go_region
  go_wp2
  refine hK.out _ _ ?_; clear hK K
  show Code.wp _ _ _ _ _
  clear r0 lx2 fx2 lx3 fx3 d2_3 d3_2
  refine fH (((((((HF.out).put2 1 0 rfl).put 1 2 _ rfl).put2 2 0 rfl).put 2 2 _ rfl).er 0).gr ((Below.refl _ _).drew)) fun Wx8 HG => ?_
  clear HF; have HF := HG; clear HG
  refine wp_ret ?_
  try simp only [Exit.then, Exit.inBlock]
  have lx2 := HF.out.c 0 rfl
  have lx3 := HF.out.c 1 rfl
  have r0 := Gr.refl Wx8
  exact bodyPost_ret (v := .tuple #[(.agg #[.int .u64 ((lo (Int.natAbs (q)) : Nat) : Int), .string (bg (Int.natAbs (q))), .bool (decide ((q) < 0))]), (.agg #[.int .u64 ((lo (Int.natAbs (r)) : Nat) : Int), .string (bg (Int.natAbs (r))), .bool (decide ((r) < 0))]), .bool true]) (by simp [results, Tryz.results42, go_sem, lx2 _ r0, lx3 _ r0]) rfl ⟨rfl, HF.out.1⟩

set_option maxRecDepth 20000 in
set_option maxHeartbeats 4000000 in
theorem div_zp (a b q r : Int) (w : World) (HQ : Hid (a / b = q)) (HR : Hid (a % b = r)) (HBS : Hid (0 < b)) (H0 : Hid (a < 0)) (HM : Hid (a.natAbs % b.natAbs = 0)) (HRS : Hid (0 ≤ r)) (ha9 : wl a.natAbs ≤ 100000000000) (hb9 : wl b.natAbs ≤ 100000000000) :
    Calls Tryz.prog 42 #[(Value.agg #[.int .u64 ((lo (Int.natAbs (a)) : Nat) : Int), .string (bg (Int.natAbs (a))), .bool (decide ((a) < 0))]), (Value.agg #[.int .u64 ((lo (Int.natAbs (b)) : Nat) : Int), .string (bg (Int.natAbs (b))), .bool (decide ((b) < 0))])] w fun e w' => e = .returned (.tuple #[(.agg #[.int .u64 ((lo (Int.natAbs (q)) : Nat) : Int), .string (bg (Int.natAbs (q))), .bool (decide ((q) < 0))]), (.agg #[.int .u64 ((lo (Int.natAbs (r)) : Nat) : Int), .string (bg (Int.natAbs (r))), .bool (decide ((r) < 0))]), .bool true]) ∧ Below w.heap.size w w' := by
  go_enter Tryz.func42, Tryz.ntmps42
  have HF := Lib.hid (hp0 w)
  refine kS fun K hK => ?_
  refine wp_region_lit ?_
  go_wp2
  refine hK.out _ _ ?_; clear hK K
  show Code.wp _ _ _ _ _
  refine fH (((((HF.out).al (b := w.heap.size) (by first | rfl | simp) (by decide)).al (b := w.heap.size + 1) (by first | rfl | simp) (by decide)).al (b := w.heap.size + 1 + 1) (by first | rfl | simp) (by decide)).al (b := w.heap.size + 1 + 1 + 1) (by first | rfl | simp) (by decide)) fun Wx0 HG => ?_
  clear HF; have HF := HG; clear HG
  generalize w.heap.size + 1 + 1 + 1 = gx3 at *
  generalize w.heap.size + 1 + 1 = gx2 at *
  generalize w.heap.size + 1 = gx1 at *
  obtain ⟨u1, HZ1⟩ : ∃ z, Hid ((Int.natAbs (a)) / (Int.natAbs (b)) = z) := ⟨_, Lib.hid rfl⟩
  have su1 : wl (u1) ≤ 100000000000 := by rw [← HZ1.out]; have := wl_div (Int.natAbs (a)) (Int.natAbs (b)); omega
  have HZ2 : Hid ((Int.natAbs (a)) % (Int.natAbs (b)) = 0) := Lib.hid (HM.out)
  have su2 : wl (0) ≤ 100000000000 := by have e := HZ2.out; first | omega | (rw [← e]; have := wl_mod (Int.natAbs (a)) (Int.natAbs (b)); omega) | exact wl_le.2 (by decide +kernel)
  have lx0 := HF.out.c 0 rfl
  have lx1 := HF.out.c 1 rfl
  refine kS fun K hK => ?_
  refine sq 11 [(true, 0), (true, 1), (true, 2), (true, 3), (true, 4), (true, 5), (true, 6), (true, 7), (true, 8), (true, 9), (true, 10)] fun T hT => ?_
  iterate 6 refine tk ?_
  refine ck Tryz.call43 (fun w' hw => nzdiv (Int.natAbs (a)) (Int.natAbs (b)) (u1) (0) _ HZ1.out HZ2.out (by have h0 := H0.out; have hb := HBS.out; have hr := HRS.out; first | exact ok | (simp only [← HZ1.out] <;> first | exact ok)) om om) ?_
  iterate 4 refine tk ?_
  refine nlS hT HF fun vw1 HG => ?_
  clear hT T HF lx0 lx1
  go_wp2
  refine hK.out _ _ ?_; clear hK K
  show Code.wp _ _ _ _ _
  refine fH (((HG.out).al (b := vw1.heap.size) (by first | rfl | simp) (by decide)).al (b := vw1.heap.size + 1) (by first | rfl | simp) (by decide)) fun Wx1 HF => ?_
  clear HG
  generalize vw1.heap.size + 1 = gx6 at *
  generalize vw1.heap.size = gx5 at *
  refine wp_seq ?_
  refine kS fun K hK => ?_
  refine sq 2 [(true, 0), (true, 1)] fun T hT => ?_
  iterate 2 refine tk ?_
  refine nlS hT HF fun vw2 HG => ?_
  clear hT T HF
  go_wp2
  refine hK.out _ _ ?_; clear hK K
  show Code.wp _ _ _ _ _
  have HF := HG; clear HG
  refine wp_cond_false (by rfl) ?_
  refine wp_skip ?_
  show Code.wp _ _ _ _ _
  have hd1 : decide ((a) < 0) = true := decide_eq_true (by have h0 := H0.out; have hb := HBS.out; have hr := HRS.out; first | exact ok | (simp only [← HZ1.out] <;> first | exact ok))
  have hd2 : decide ((b) < 0) = false := decide_eq_false (by have h0 := H0.out; have hb := HBS.out; have hr := HRS.out; first | exact ok | (simp only [← HZ1.out] <;> first | exact ok))
  have hd3 : decide ((a) < 0) = true := decide_eq_true (by have h0 := H0.out; have hb := HBS.out; have hr := HRS.out; first | exact ok | (simp only [← HZ1.out] <;> first | exact ok))
  have HZ3 : Hid ((if true then -((u1 : Nat) : Int) else ((u1 : Nat) : Int)) = q) := Lib.hid (by have h0 := H0.out; have hb := HBS.out; have hr := HRS.out; rw [← HQ.out, ← HZ1.out]; exact dq true false (decide_eq_true (by omega)) (decide_eq_false (by omega)) (by omega) (.inr HM.out))
  have su3 : wl (Int.natAbs (q)) ≤ 100000000000 := by have e := HZ3.out; first | omega | (rw [← e]; split <;> simp <;> omega)
  have HZ4 : Hid ((if true then -((0 : Nat) : Int) else ((0 : Nat) : Int)) = r) := Lib.hid (by have h0 := H0.out; have hb := HBS.out; have hr := HRS.out; rw [← HR.out]; have e9 := dr (a := a) (b := b) true (decide_eq_true (by omega)) (by omega) (.inr HM.out); rw [HM.out] at e9; exact e9)
  have su4 : wl (Int.natAbs (r)) ≤ 100000000000 := by have e := HZ4.out; first | omega | (rw [← e]; split <;> simp <;> omega)
  have lx0 := HF.out.c 0 rfl
  have lx1 := HF.out.c 1 rfl
  have lx5 := HF.out.c 4 rfl
  have lx6 := HF.out.c 5 rfl
  refine kS fun K hK => ?_
  refine pd 11 [(true, 0), (true, 1), (true, 2), (true, 3), (true, 4), (true, 5), (true, 7), (true, 8), (true, 9), (true, 6), (true, 10)] fun T hT => ?_
  iterate 9 refine tk ?_
  refine ck Tryz.call37 (fun w' hw => from_any true (u1) (q) _ HZ3.out) ?_
  refine ck Tryz.call37 (fun w' hw => from_any true (0) (r) _ HZ4.out) ?_
  refine nlD hT HF fun vw3 HG => ?_
  clear hT T HF lx0 lx1 lx5 lx6
  have lx2 := HG.out.c 2 rfl; have fx2 := HG.out.f 2 rfl
  have lx3 := HG.out.c 3 rfl; have fx3 := HG.out.f 3 rfl
  have r0 := Gr.refl vw3
  obtain ⟨d2_3, d3_2⟩ := HG.out.ne 2 3 rfl rfl (by decide)
  go_wp2
  refine hK.out _ _ ?_; clear hK K
  show Code.wp _ _ _ _ _
  clear r0 lx2 fx2 lx3 fx3 d2_3 d3_2
  refine fH ((((((((HG.out).put2 2 0 rfl).put 2 2 _ rfl).put2 3 0 rfl).put 3 2 _ rfl).er 5).er 4).er 0) fun Wx4 HF => ?_
  clear HG
  clear hd1 hd2 hd3
  refine wp_seq ?_
  have hd4 : decide ((r) < 0) = false := decide_eq_false (by have h0 := H0.out; have hb := HBS.out; have hr := HRS.out; first | exact ok | (simp only [← HZ1.out] <;> first | exact ok))
  have lx3 := HF.out.c 2 rfl
  refine kS fun K hK => ?_
  refine sq 2 [(true, 0), (true, 1)] fun T hT => ?_
  iterate 2 refine tk ?_
  refine nlS hT HF fun vw4 HG => ?_
  clear hT T HF lx3
  go_wp2
  refine hK.out _ _ ?_; clear hK K
  show Code.wp _ _ _ _ _
  have HF := HG; clear HG
  clear hd4
  refine wp_cond_false (by rfl) ?_
  refine wp_skip ?_
  show Code.wp _ _ _ _ _
  have lx2 := HF.out.c 1 rfl; have fx2 := HF.out.f 1 rfl
  have lx3 := HF.out.c 2 rfl; have fx3 := HF.out.f 2 rfl
  have r0 := Gr.refl vw4
  obtain ⟨d2_3, d3_2⟩ := HF.out.ne 1 2 rfl rfl (by decide)
  refine kS fun K hK => ?_
  go_region
  go_wp2
  refine hK.out _ _ ?_; clear hK K
  show Code.wp _ _ _ _ _
  clear r0 lx2 fx2 lx3 fx3 d2_3 d3_2
  refine fH (((((((HF.out).put2 1 0 rfl).put 1 2 _ rfl).put2 2 0 rfl).put 2 2 _ rfl).er 0).gr ((Below.refl _ _).drew)) fun Wx8 HG => ?_
  clear HF; have HF := HG; clear HG
  refine wp_ret ?_
  try simp only [Exit.then, Exit.inBlock]
  have lx2 := HF.out.c 0 rfl
  have lx3 := HF.out.c 1 rfl
  have r0 := Gr.refl Wx8
  exact bodyPost_ret (v := .tuple #[(.agg #[.int .u64 ((lo (Int.natAbs (q)) : Nat) : Int), .string (bg (Int.natAbs (q))), .bool (decide ((q) < 0))]), (.agg #[.int .u64 ((lo (Int.natAbs (r)) : Nat) : Int), .string (bg (Int.natAbs (r))), .bool (decide ((r) < 0))]), .bool true]) (by simp [results, Tryz.results42, go_sem, lx2 _ r0, lx3 _ r0]) rfl ⟨rfl, HF.out.1⟩

set_option maxRecDepth 20000 in
set_option maxHeartbeats 4000000 in
theorem div_zn (a b q r : Int) (w : World) (HQ : Hid (a / b = q)) (HR : Hid (a % b = r)) (HBS : Hid (b < 0)) (H0 : Hid (a < 0)) (HM : Hid (a.natAbs % b.natAbs = 0)) (HRS : Hid (0 ≤ r)) (ha9 : wl a.natAbs ≤ 100000000000) (hb9 : wl b.natAbs ≤ 100000000000) :
    Calls Tryz.prog 42 #[(Value.agg #[.int .u64 ((lo (Int.natAbs (a)) : Nat) : Int), .string (bg (Int.natAbs (a))), .bool (decide ((a) < 0))]), (Value.agg #[.int .u64 ((lo (Int.natAbs (b)) : Nat) : Int), .string (bg (Int.natAbs (b))), .bool (decide ((b) < 0))])] w fun e w' => e = .returned (.tuple #[(.agg #[.int .u64 ((lo (Int.natAbs (q)) : Nat) : Int), .string (bg (Int.natAbs (q))), .bool (decide ((q) < 0))]), (.agg #[.int .u64 ((lo (Int.natAbs (r)) : Nat) : Int), .string (bg (Int.natAbs (r))), .bool (decide ((r) < 0))]), .bool true]) ∧ Below w.heap.size w w' := by
  go_enter Tryz.func42, Tryz.ntmps42
  have HF := Lib.hid (hp0 w)
  refine kS fun K hK => ?_
  refine wp_region_lit ?_
  go_wp2
  refine hK.out _ _ ?_; clear hK K
  show Code.wp _ _ _ _ _
  refine fH (((((HF.out).al (b := w.heap.size) (by first | rfl | simp) (by decide)).al (b := w.heap.size + 1) (by first | rfl | simp) (by decide)).al (b := w.heap.size + 1 + 1) (by first | rfl | simp) (by decide)).al (b := w.heap.size + 1 + 1 + 1) (by first | rfl | simp) (by decide)) fun Wx0 HG => ?_
  clear HF; have HF := HG; clear HG
  generalize w.heap.size + 1 + 1 + 1 = gx3 at *
  generalize w.heap.size + 1 + 1 = gx2 at *
  generalize w.heap.size + 1 = gx1 at *
  obtain ⟨u1, HZ1⟩ : ∃ z, Hid ((Int.natAbs (a)) / (Int.natAbs (b)) = z) := ⟨_, Lib.hid rfl⟩
  have su1 : wl (u1) ≤ 100000000000 := by rw [← HZ1.out]; have := wl_div (Int.natAbs (a)) (Int.natAbs (b)); omega
  have HZ2 : Hid ((Int.natAbs (a)) % (Int.natAbs (b)) = 0) := Lib.hid (HM.out)
  have su2 : wl (0) ≤ 100000000000 := by have e := HZ2.out; first | omega | (rw [← e]; have := wl_mod (Int.natAbs (a)) (Int.natAbs (b)); omega) | exact wl_le.2 (by decide +kernel)
  have lx0 := HF.out.c 0 rfl
  have lx1 := HF.out.c 1 rfl
  refine kS fun K hK => ?_
  refine sq 11 [(true, 0), (true, 1), (true, 2), (true, 3), (true, 4), (true, 5), (true, 6), (true, 7), (true, 8), (true, 9), (true, 10)] fun T hT => ?_
  iterate 6 refine tk ?_
  refine ck Tryz.call43 (fun w' hw => nzdiv (Int.natAbs (a)) (Int.natAbs (b)) (u1) (0) _ HZ1.out HZ2.out (by have h0 := H0.out; have hb := HBS.out; have hr := HRS.out; first | exact ok | (simp only [← HZ1.out] <;> first | exact ok)) om om) ?_
  iterate 4 refine tk ?_
  refine nlS hT HF fun vw1 HG => ?_
  clear hT T HF lx0 lx1
  go_wp2
  refine hK.out _ _ ?_; clear hK K
  show Code.wp _ _ _ _ _
  refine fH (((HG.out).al (b := vw1.heap.size) (by first | rfl | simp) (by decide)).al (b := vw1.heap.size + 1) (by first | rfl | simp) (by decide)) fun Wx1 HF => ?_
  clear HG
  generalize vw1.heap.size + 1 = gx6 at *
  generalize vw1.heap.size = gx5 at *
  refine wp_seq ?_
  refine kS fun K hK => ?_
  refine sq 2 [(true, 0), (true, 1)] fun T hT => ?_
  iterate 2 refine tk ?_
  refine nlS hT HF fun vw2 HG => ?_
  clear hT T HF
  go_wp2
  refine hK.out _ _ ?_; clear hK K
  show Code.wp _ _ _ _ _
  have HF := HG; clear HG
  refine wp_cond_false (by rfl) ?_
  refine wp_skip ?_
  show Code.wp _ _ _ _ _
  have hd1 : decide ((a) < 0) = true := decide_eq_true (by have h0 := H0.out; have hb := HBS.out; have hr := HRS.out; first | exact ok | (simp only [← HZ1.out] <;> first | exact ok))
  have hd2 : decide ((b) < 0) = true := decide_eq_true (by have h0 := H0.out; have hb := HBS.out; have hr := HRS.out; first | exact ok | (simp only [← HZ1.out] <;> first | exact ok))
  have hd3 : decide ((a) < 0) = true := decide_eq_true (by have h0 := H0.out; have hb := HBS.out; have hr := HRS.out; first | exact ok | (simp only [← HZ1.out] <;> first | exact ok))
  have HZ3 : Hid ((if false then -((u1 : Nat) : Int) else ((u1 : Nat) : Int)) = q) := Lib.hid (by have h0 := H0.out; have hb := HBS.out; have hr := HRS.out; rw [← HQ.out, ← HZ1.out]; exact dq true true (decide_eq_true (by omega)) (decide_eq_true (by omega)) (by omega) (.inr HM.out))
  have su3 : wl (Int.natAbs (q)) ≤ 100000000000 := by have e := HZ3.out; first | omega | (rw [← e]; split <;> simp <;> omega)
  have HZ4 : Hid ((if true then -((0 : Nat) : Int) else ((0 : Nat) : Int)) = r) := Lib.hid (by have h0 := H0.out; have hb := HBS.out; have hr := HRS.out; rw [← HR.out]; have e9 := dr (a := a) (b := b) true (decide_eq_true (by omega)) (by omega) (.inr HM.out); rw [HM.out] at e9; exact e9)
  have su4 : wl (Int.natAbs (r)) ≤ 100000000000 := by have e := HZ4.out; first | omega | (rw [← e]; split <;> simp <;> omega)
  have lx0 := HF.out.c 0 rfl
  have lx1 := HF.out.c 1 rfl
  have lx5 := HF.out.c 4 rfl
  have lx6 := HF.out.c 5 rfl
  refine kS fun K hK => ?_
  refine pd 11 [(true, 0), (true, 1), (true, 2), (true, 3), (true, 4), (true, 5), (true, 7), (true, 8), (true, 9), (true, 6), (true, 10)] fun T hT => ?_
  iterate 9 refine tk ?_
  refine ck Tryz.call37 (fun w' hw => from_any false (u1) (q) _ HZ3.out) ?_
  refine ck Tryz.call37 (fun w' hw => from_any true (0) (r) _ HZ4.out) ?_
  refine nlD hT HF fun vw3 HG => ?_
  clear hT T HF lx0 lx1 lx5 lx6
  have lx2 := HG.out.c 2 rfl; have fx2 := HG.out.f 2 rfl
  have lx3 := HG.out.c 3 rfl; have fx3 := HG.out.f 3 rfl
  have r0 := Gr.refl vw3
  obtain ⟨d2_3, d3_2⟩ := HG.out.ne 2 3 rfl rfl (by decide)
  go_wp2
  refine hK.out _ _ ?_; clear hK K
  show Code.wp _ _ _ _ _
  clear r0 lx2 fx2 lx3 fx3 d2_3 d3_2
  refine fH ((((((((HG.out).put2 2 0 rfl).put 2 2 _ rfl).put2 3 0 rfl).put 3 2 _ rfl).er 5).er 4).er 0) fun Wx4 HF => ?_
  clear HG
  clear hd1 hd2 hd3
  refine wp_seq ?_
  have hd4 : decide ((r) < 0) = false := decide_eq_false (by have h0 := H0.out; have hb := HBS.out; have hr := HRS.out; first | exact ok | (simp only [← HZ1.out] <;> first | exact ok))
  have lx3 := HF.out.c 2 rfl
  refine kS fun K hK => ?_
  refine sq 2 [(true, 0), (true, 1)] fun T hT => ?_
  iterate 2 refine tk ?_
  refine nlS hT HF fun vw4 HG => ?_
  clear hT T HF lx3
  go_wp2
  refine hK.out _ _ ?_; clear hK K
  show Code.wp _ _ _ _ _
  have HF := HG; clear HG
  clear hd4
  refine wp_cond_false (by rfl) ?_
  refine wp_skip ?_
  show Code.wp _ _ _ _ _
  have lx2 := HF.out.c 1 rfl; have fx2 := HF.out.f 1 rfl
  have lx3 := HF.out.c 2 rfl; have fx3 := HF.out.f 2 rfl
  have r0 := Gr.refl vw4
  obtain ⟨d2_3, d3_2⟩ := HF.out.ne 1 2 rfl rfl (by decide)
  refine kS fun K hK => ?_
  go_region
  go_wp2
  refine hK.out _ _ ?_; clear hK K
  show Code.wp _ _ _ _ _
  clear r0 lx2 fx2 lx3 fx3 d2_3 d3_2
  refine fH (((((((HF.out).put2 1 0 rfl).put 1 2 _ rfl).put2 2 0 rfl).put 2 2 _ rfl).er 0).gr ((Below.refl _ _).drew)) fun Wx8 HG => ?_
  clear HF; have HF := HG; clear HG
  refine wp_ret ?_
  try simp only [Exit.then, Exit.inBlock]
  have lx2 := HF.out.c 0 rfl
  have lx3 := HF.out.c 1 rfl
  have r0 := Gr.refl Wx8
  exact bodyPost_ret (v := .tuple #[(.agg #[.int .u64 ((lo (Int.natAbs (q)) : Nat) : Int), .string (bg (Int.natAbs (q))), .bool (decide ((q) < 0))]), (.agg #[.int .u64 ((lo (Int.natAbs (r)) : Nat) : Int), .string (bg (Int.natAbs (r))), .bool (decide ((r) < 0))]), .bool true]) (by simp [results, Tryz.results42, go_sem, lx2 _ r0, lx3 _ r0]) rfl ⟨rfl, HF.out.1⟩

set_option maxRecDepth 20000 in
set_option maxHeartbeats 4000000 in
theorem div_np (a b q r : Int) (w : World) (HQ : Hid (a / b = q)) (HR : Hid (a % b = r)) (HBS : Hid (0 < b)) (H0 : Hid (a < 0)) (m : Int) (HM : Hid (-((a.natAbs % b.natAbs : Nat) : Int) = m)) (HMS : Hid (m < 0)) (HN : Hid (a.natAbs % b.natAbs ≠ 0)) (HRS : Hid (0 ≤ r)) (ha9 : wl a.natAbs ≤ 100000000000) (hb9 : wl b.natAbs ≤ 100000000000) :
    Calls Tryz.prog 42 #[(Value.agg #[.int .u64 ((lo (Int.natAbs (a)) : Nat) : Int), .string (bg (Int.natAbs (a))), .bool (decide ((a) < 0))]), (Value.agg #[.int .u64 ((lo (Int.natAbs (b)) : Nat) : Int), .string (bg (Int.natAbs (b))), .bool (decide ((b) < 0))])] w fun e w' => e = .returned (.tuple #[(.agg #[.int .u64 ((lo (Int.natAbs (q)) : Nat) : Int), .string (bg (Int.natAbs (q))), .bool (decide ((q) < 0))]), (.agg #[.int .u64 ((lo (Int.natAbs (r)) : Nat) : Int), .string (bg (Int.natAbs (r))), .bool (decide ((r) < 0))]), .bool true]) ∧ Below w.heap.size w w' := by
  go_enter Tryz.func42, Tryz.ntmps42
  have HF := Lib.hid (hp0 w)
  refine kS fun K hK => ?_
  refine wp_region_lit ?_
  go_wp2
  refine hK.out _ _ ?_; clear hK K
  show Code.wp _ _ _ _ _
  refine fH (((((HF.out).al (b := w.heap.size) (by first | rfl | simp) (by decide)).al (b := w.heap.size + 1) (by first | rfl | simp) (by decide)).al (b := w.heap.size + 1 + 1) (by first | rfl | simp) (by decide)).al (b := w.heap.size + 1 + 1 + 1) (by first | rfl | simp) (by decide)) fun Wx0 HG => ?_
  clear HF; have HF := HG; clear HG
  generalize w.heap.size + 1 + 1 + 1 = gx3 at *
  generalize w.heap.size + 1 + 1 = gx2 at *
  generalize w.heap.size + 1 = gx1 at *
  obtain ⟨u1, HZ1⟩ : ∃ z, Hid ((Int.natAbs (a)) / (Int.natAbs (b)) = z) := ⟨_, Lib.hid rfl⟩
  have su1 : wl (u1) ≤ 100000000000 := by rw [← HZ1.out]; have := wl_div (Int.natAbs (a)) (Int.natAbs (b)); omega
  obtain ⟨u2, HZ2⟩ : ∃ z, Hid ((Int.natAbs (a)) % (Int.natAbs (b)) = z) := ⟨_, Lib.hid rfl⟩
  have su2 : wl (u2) ≤ 100000000000 := by rw [← HZ2.out]; have := wl_mod (Int.natAbs (a)) (Int.natAbs (b)); omega
  have lx0 := HF.out.c 0 rfl
  have lx1 := HF.out.c 1 rfl
  refine kS fun K hK => ?_
  refine sq 11 [(true, 0), (true, 1), (true, 2), (true, 3), (true, 4), (true, 5), (true, 6), (true, 7), (true, 8), (true, 9), (true, 10)] fun T hT => ?_
  iterate 6 refine tk ?_
  refine ck Tryz.call43 (fun w' hw => nzdiv (Int.natAbs (a)) (Int.natAbs (b)) (u1) (u2) _ HZ1.out HZ2.out (by have h0 := H0.out; have hb := HBS.out; have hr := HRS.out; have hm := HMS.out; first | exact ok | (simp only [← HZ2.out, ← HZ1.out] <;> first | exact ok)) om om) ?_
  iterate 4 refine tk ?_
  refine nlS hT HF fun vw1 HG => ?_
  clear hT T HF lx0 lx1
  go_wp2
  refine hK.out _ _ ?_; clear hK K
  show Code.wp _ _ _ _ _
  refine fH (((HG.out).al (b := vw1.heap.size) (by first | rfl | simp) (by decide)).al (b := vw1.heap.size + 1) (by first | rfl | simp) (by decide)) fun Wx1 HF => ?_
  clear HG
  generalize vw1.heap.size + 1 = gx6 at *
  generalize vw1.heap.size = gx5 at *
  refine wp_seq ?_
  refine kS fun K hK => ?_
  refine sq 2 [(true, 0), (true, 1)] fun T hT => ?_
  iterate 2 refine tk ?_
  refine nlS hT HF fun vw2 HG => ?_
  clear hT T HF
  go_wp2
  refine hK.out _ _ ?_; clear hK K
  show Code.wp _ _ _ _ _
  have HF := HG; clear HG
  refine wp_cond_false (by rfl) ?_
  refine wp_skip ?_
  show Code.wp _ _ _ _ _
  have hd1 : decide ((a) < 0) = true := decide_eq_true (by have h0 := H0.out; have hb := HBS.out; have hr := HRS.out; have hm := HMS.out; first | exact ok | (simp only [← HZ2.out, ← HZ1.out] <;> first | exact ok))
  have hd2 : decide ((b) < 0) = false := decide_eq_false (by have h0 := H0.out; have hb := HBS.out; have hr := HRS.out; have hm := HMS.out; first | exact ok | (simp only [← HZ2.out, ← HZ1.out] <;> first | exact ok))
  have hd3 : decide ((a) < 0) = true := decide_eq_true (by have h0 := H0.out; have hb := HBS.out; have hr := HRS.out; have hm := HMS.out; first | exact ok | (simp only [← HZ2.out, ← HZ1.out] <;> first | exact ok))
  obtain ⟨u3, HZ3⟩ : ∃ z, Hid ((if true then -((u1 : Nat) : Int) else ((u1 : Nat) : Int)) = z) := ⟨_, Lib.hid rfl⟩
  have su3 : wl (Int.natAbs (u3)) ≤ 100000000000 := by rw [← HZ3.out]; split <;> simp <;> omega
  have HZ4 : Hid ((if true then -((u2 : Nat) : Int) else ((u2 : Nat) : Int)) = m) := Lib.hid (by rw [← HM.out, ← HZ2.out]; rfl)
  have su4 : wl (Int.natAbs (m)) ≤ 100000000000 := by have e := HZ4.out; first | omega | (rw [← e]; split <;> simp <;> omega)
  have lx0 := HF.out.c 0 rfl
  have lx1 := HF.out.c 1 rfl
  have lx5 := HF.out.c 4 rfl
  have lx6 := HF.out.c 5 rfl
  refine kS fun K hK => ?_
  refine pd 11 [(true, 0), (true, 1), (true, 2), (true, 3), (true, 4), (true, 5), (true, 7), (true, 8), (true, 9), (true, 6), (true, 10)] fun T hT => ?_
  iterate 9 refine tk ?_
  refine ck Tryz.call37 (fun w' hw => from_any true (u1) (u3) _ HZ3.out) ?_
  refine ck Tryz.call37 (fun w' hw => from_any true (u2) (m) _ HZ4.out) ?_
  refine nlD hT HF fun vw3 HG => ?_
  clear hT T HF lx0 lx1 lx5 lx6
  have lx2 := HG.out.c 2 rfl; have fx2 := HG.out.f 2 rfl
  have lx3 := HG.out.c 3 rfl; have fx3 := HG.out.f 3 rfl
  have r0 := Gr.refl vw3
  obtain ⟨d2_3, d3_2⟩ := HG.out.ne 2 3 rfl rfl (by decide)
  go_wp2
  refine hK.out _ _ ?_; clear hK K
  show Code.wp _ _ _ _ _
  clear r0 lx2 fx2 lx3 fx3 d2_3 d3_2
  refine fH ((((((((HG.out).put2 2 0 rfl).put 2 2 _ rfl).put2 3 0 rfl).put 3 2 _ rfl).er 5).er 4).er 0) fun Wx4 HF => ?_
  clear HG
  clear hd1 hd2 hd3
  refine wp_seq ?_
  have hd4 : decide ((m) < 0) = true := decide_eq_true (by have h0 := H0.out; have hb := HBS.out; have hr := HRS.out; have hm := HMS.out; first | exact ok | (simp only [← HZ3.out, ← HZ2.out, ← HZ1.out] <;> first | exact ok))
  have lx3 := HF.out.c 2 rfl
  refine kS fun K hK => ?_
  refine sq 2 [(true, 0), (true, 1)] fun T hT => ?_
  iterate 2 refine tk ?_
  refine nlS hT HF fun vw4 HG => ?_
  clear hT T HF lx3
  go_wp2
  refine hK.out _ _ ?_; clear hK K
  show Code.wp _ _ _ _ _
  have HF := HG; clear HG
  clear hd4
  refine wp_cond_true (by rfl) ?_
  have HZ5 : Hid ((if false then -((Int.natAbs (b) : Nat) : Int) else ((Int.natAbs (b) : Nat) : Int)) = b) := Lib.hid (by have h0 := H0.out; have hb := HBS.out; have hr := HRS.out; have hm := HMS.out; simp; omega)
  have su5 : wl (Int.natAbs (b)) ≤ 100000000000 := by have e := HZ5.out; first | omega | (rw [← e]; split <;> simp <;> omega)
  have HZ6 : Hid ((m) + (b) = r) := Lib.hid (by have h0 := H0.out; have hb := HBS.out; have hr := HRS.out; have hm := HMS.out; rw [← HR.out, ← (div_carry (a := a) (b := b) (by omega) (by omega) HN.out).1, HM.out]; omega)
  have su6 : wl (Int.natAbs (r)) ≤ 100000000001 := by have e := HZ6.out; first | omega | (rw [← e]; have := wl_iadd (m) (b); omega)
  have lx1 := HF.out.c 0 rfl
  have lx3 := HF.out.c 2 rfl
  refine kS fun K hK => ?_
  refine pd 6 [(true, 0), (true, 1), (true, 2), (true, 3), (true, 4), (true, 5)] fun T hT => ?_
  iterate 4 refine tk ?_
  refine ck Tryz.call37 (fun w' hw => from_any false (Int.natAbs (b)) (b) _ HZ5.out) ?_
  refine ck Tryz.call41 (fun w' hw => ziadd (m) (b) (r) _ HZ6.out om om) ?_
  refine nlD hT HF fun vw5 HG => ?_
  clear hT T HF lx1 lx3
  have lx3 := HG.out.c 2 rfl; have fx3 := HG.out.f 2 rfl
  have r0 := Gr.refl vw5
  go_wp2
  refine hK.out _ _ ?_; clear hK K
  show Code.wp _ _ _ _ _
  clear r0 lx3 fx3
  refine fH (((HG.out).put2 2 0 rfl).put 2 2 _ rfl) fun Wx6 HF => ?_
  clear HG
  have su7 : wl (Int.natAbs (1)) ≤ 1 := wl_le.2 (by decide +kernel)
  have HZ8 : Hid ((u3) - (1) = q) := Lib.hid (by have h0 := H0.out; have hb := HBS.out; have hr := HRS.out; have hm := HMS.out; rw [← HQ.out, ← HZ3.out, ← HZ1.out]; exact dc (a := a) (b := b) false (by omega) (decide_eq_false (by omega)) (by omega) HN.out)
  have su8 : wl (Int.natAbs (q)) ≤ 100000000001 := by have e := HZ8.out; first | omega | (rw [← e]; have := wl_isub (u3) (1); omega)
  have lx1 := HF.out.c 0 rfl
  have lx2 := HF.out.c 1 rfl
  refine kL fun K hK => ?_
  refine pd 5 [(true, 0), (true, 1), (true, 2), (true, 3), (true, 4)] fun T hT => ?_
  iterate 2 refine tk ?_
  refine ck Tryz.call101 (fun w' hw => zisign (b) (1) _ (by have e9 : (0 : Int) < (b) := (by have h0 := H0.out; have hb := HBS.out; have hr := HRS.out; have hm := HMS.out; first | exact ok | (simp only [← HZ3.out, ← HZ2.out, ← HZ1.out] <;> first | exact ok)); exact sgI_gt e9)) ?_
  refine ck Tryz.call23 (fun w' hw => iof_any (1) _ (by decide) (by decide)) ?_
  refine ck Tryz.call98 (fun w' hw => zisub (u3) (1) (q) _ HZ8.out om om) ?_
  refine nlD hT HF fun vw6 HG => ?_
  clear hT T HF lx1 lx2
  have lx2 := HG.out.c 1 rfl; have fx2 := HG.out.f 1 rfl
  have r0 := Gr.refl vw6
  go_wp2
  refine hK.out _ _ ?_; clear hK K
  show Code.wp _ _ _ _ _
  clear r0 lx2 fx2
  refine fH ((((HG.out).put2 1 0 rfl).put 1 2 _ rfl).er 0) fun Wx7 HF => ?_
  clear HG
  have lx2 := HF.out.c 0 rfl; have fx2 := HF.out.f 0 rfl
  have lx3 := HF.out.c 1 rfl; have fx3 := HF.out.f 1 rfl
  have r0 := Gr.refl Wx7
  obtain ⟨d2_3, d3_2⟩ := HF.out.ne 0 1 rfl rfl (by decide)
  refine kS fun K hK => ?_
  go_region
  go_wp2
  refine hK.out _ _ ?_; clear hK K
  show Code.wp _ _ _ _ _
  clear r0 lx2 fx2 lx3 fx3 d2_3 d3_2
  refine fH ((((((HF.out).put2 0 0 rfl).put 0 2 _ rfl).put2 1 0 rfl).put 1 2 _ rfl).gr ((Below.refl _ _).drew)) fun Wx8 HG => ?_
  clear HF; have HF := HG; clear HG
  refine wp_ret ?_
  try simp only [Exit.then, Exit.inBlock]
  have lx2 := HF.out.c 0 rfl
  have lx3 := HF.out.c 1 rfl
  have r0 := Gr.refl Wx8
  exact bodyPost_ret (v := .tuple #[(.agg #[.int .u64 ((lo (Int.natAbs (q)) : Nat) : Int), .string (bg (Int.natAbs (q))), .bool (decide ((q) < 0))]), (.agg #[.int .u64 ((lo (Int.natAbs (r)) : Nat) : Int), .string (bg (Int.natAbs (r))), .bool (decide ((r) < 0))]), .bool true]) (by simp [results, Tryz.results42, go_sem, lx2 _ r0, lx3 _ r0]) rfl ⟨rfl, HF.out.1⟩

set_option maxRecDepth 20000 in
set_option maxHeartbeats 4000000 in
theorem div_nn (a b q r : Int) (w : World) (HQ : Hid (a / b = q)) (HR : Hid (a % b = r)) (HBS : Hid (b < 0)) (H0 : Hid (a < 0)) (m : Int) (HM : Hid (-((a.natAbs % b.natAbs : Nat) : Int) = m)) (HMS : Hid (m < 0)) (HN : Hid (a.natAbs % b.natAbs ≠ 0)) (HRS : Hid (0 ≤ r)) (ha9 : wl a.natAbs ≤ 100000000000) (hb9 : wl b.natAbs ≤ 100000000000) :
    Calls Tryz.prog 42 #[(Value.agg #[.int .u64 ((lo (Int.natAbs (a)) : Nat) : Int), .string (bg (Int.natAbs (a))), .bool (decide ((a) < 0))]), (Value.agg #[.int .u64 ((lo (Int.natAbs (b)) : Nat) : Int), .string (bg (Int.natAbs (b))), .bool (decide ((b) < 0))])] w fun e w' => e = .returned (.tuple #[(.agg #[.int .u64 ((lo (Int.natAbs (q)) : Nat) : Int), .string (bg (Int.natAbs (q))), .bool (decide ((q) < 0))]), (.agg #[.int .u64 ((lo (Int.natAbs (r)) : Nat) : Int), .string (bg (Int.natAbs (r))), .bool (decide ((r) < 0))]), .bool true]) ∧ Below w.heap.size w w' := by
  go_enter Tryz.func42, Tryz.ntmps42
  have HF := Lib.hid (hp0 w)
  refine kS fun K hK => ?_
  refine wp_region_lit ?_
  go_wp2
  refine hK.out _ _ ?_; clear hK K
  show Code.wp _ _ _ _ _
  refine fH (((((HF.out).al (b := w.heap.size) (by first | rfl | simp) (by decide)).al (b := w.heap.size + 1) (by first | rfl | simp) (by decide)).al (b := w.heap.size + 1 + 1) (by first | rfl | simp) (by decide)).al (b := w.heap.size + 1 + 1 + 1) (by first | rfl | simp) (by decide)) fun Wx0 HG => ?_
  clear HF; have HF := HG; clear HG
  generalize w.heap.size + 1 + 1 + 1 = gx3 at *
  generalize w.heap.size + 1 + 1 = gx2 at *
  generalize w.heap.size + 1 = gx1 at *
  obtain ⟨u1, HZ1⟩ : ∃ z, Hid ((Int.natAbs (a)) / (Int.natAbs (b)) = z) := ⟨_, Lib.hid rfl⟩
  have su1 : wl (u1) ≤ 100000000000 := by rw [← HZ1.out]; have := wl_div (Int.natAbs (a)) (Int.natAbs (b)); omega
  obtain ⟨u2, HZ2⟩ : ∃ z, Hid ((Int.natAbs (a)) % (Int.natAbs (b)) = z) := ⟨_, Lib.hid rfl⟩
  have su2 : wl (u2) ≤ 100000000000 := by rw [← HZ2.out]; have := wl_mod (Int.natAbs (a)) (Int.natAbs (b)); omega
  have lx0 := HF.out.c 0 rfl
  have lx1 := HF.out.c 1 rfl
  refine kS fun K hK => ?_
  refine sq 11 [(true, 0), (true, 1), (true, 2), (true, 3), (true, 4), (true, 5), (true, 6), (true, 7), (true, 8), (true, 9), (true, 10)] fun T hT => ?_
  iterate 6 refine tk ?_
  refine ck Tryz.call43 (fun w' hw => nzdiv (Int.natAbs (a)) (Int.natAbs (b)) (u1) (u2) _ HZ1.out HZ2.out (by have h0 := H0.out; have hb := HBS.out; have hr := HRS.out; have hm := HMS.out; first | exact ok | (simp only [← HZ2.out, ← HZ1.out] <;> first | exact ok)) om om) ?_
  iterate 4 refine tk ?_
  refine nlS hT HF fun vw1 HG => ?_
  clear hT T HF lx0 lx1
  go_wp2
  refine hK.out _ _ ?_; clear hK K
  show Code.wp _ _ _ _ _
  refine fH (((HG.out).al (b := vw1.heap.size) (by first | rfl | simp) (by decide)).al (b := vw1.heap.size + 1) (by first | rfl | simp) (by decide)) fun Wx1 HF => ?_
  clear HG
  generalize vw1.heap.size + 1 = gx6 at *
  generalize vw1.heap.size = gx5 at *
  refine wp_seq ?_
  refine kS fun K hK => ?_
  refine sq 2 [(true, 0), (true, 1)] fun T hT => ?_
  iterate 2 refine tk ?_
  refine nlS hT HF fun vw2 HG => ?_
  clear hT T HF
  go_wp2
  refine hK.out _ _ ?_; clear hK K
  show Code.wp _ _ _ _ _
  have HF := HG; clear HG
  refine wp_cond_false (by rfl) ?_
  refine wp_skip ?_
  show Code.wp _ _ _ _ _
  have hd1 : decide ((a) < 0) = true := decide_eq_true (by have h0 := H0.out; have hb := HBS.out; have hr := HRS.out; have hm := HMS.out; first | exact ok | (simp only [← HZ2.out, ← HZ1.out] <;> first | exact ok))
  have hd2 : decide ((b) < 0) = true := decide_eq_true (by have h0 := H0.out; have hb := HBS.out; have hr := HRS.out; have hm := HMS.out; first | exact ok | (simp only [← HZ2.out, ← HZ1.out] <;> first | exact ok))
  have hd3 : decide ((a) < 0) = true := decide_eq_true (by have h0 := H0.out; have hb := HBS.out; have hr := HRS.out; have hm := HMS.out; first | exact ok | (simp only [← HZ2.out, ← HZ1.out] <;> first | exact ok))
  obtain ⟨u3, HZ3⟩ : ∃ z, Hid ((if false then -((u1 : Nat) : Int) else ((u1 : Nat) : Int)) = z) := ⟨_, Lib.hid rfl⟩
  have su3 : wl (Int.natAbs (u3)) ≤ 100000000000 := by rw [← HZ3.out]; split <;> simp <;> omega
  have HZ4 : Hid ((if true then -((u2 : Nat) : Int) else ((u2 : Nat) : Int)) = m) := Lib.hid (by rw [← HM.out, ← HZ2.out]; rfl)
  have su4 : wl (Int.natAbs (m)) ≤ 100000000000 := by have e := HZ4.out; first | omega | (rw [← e]; split <;> simp <;> omega)
  have lx0 := HF.out.c 0 rfl
  have lx1 := HF.out.c 1 rfl
  have lx5 := HF.out.c 4 rfl
  have lx6 := HF.out.c 5 rfl
  refine kS fun K hK => ?_
  refine pd 11 [(true, 0), (true, 1), (true, 2), (true, 3), (true, 4), (true, 5), (true, 7), (true, 8), (true, 9), (true, 6), (true, 10)] fun T hT => ?_
  iterate 9 refine tk ?_
  refine ck Tryz.call37 (fun w' hw => from_any false (u1) (u3) _ HZ3.out) ?_
  refine ck Tryz.call37 (fun w' hw => from_any true (u2) (m) _ HZ4.out) ?_
  refine nlD hT HF fun vw3 HG => ?_
  clear hT T HF lx0 lx1 lx5 lx6
  have lx2 := HG.out.c 2 rfl; have fx2 := HG.out.f 2 rfl
  have lx3 := HG.out.c 3 rfl; have fx3 := HG.out.f 3 rfl
  have r0 := Gr.refl vw3
  obtain ⟨d2_3, d3_2⟩ := HG.out.ne 2 3 rfl rfl (by decide)
  go_wp2
  refine hK.out _ _ ?_; clear hK K
  show Code.wp _ _ _ _ _
  clear r0 lx2 fx2 lx3 fx3 d2_3 d3_2
  refine fH ((((((((HG.out).put2 2 0 rfl).put 2 2 _ rfl).put2 3 0 rfl).put 3 2 _ rfl).er 5).er 4).er 0) fun Wx4 HF => ?_
  clear HG
  clear hd1 hd2 hd3
  refine wp_seq ?_
  have hd4 : decide ((m) < 0) = true := decide_eq_true (by have h0 := H0.out; have hb := HBS.out; have hr := HRS.out; have hm := HMS.out; first | exact ok | (simp only [← HZ3.out, ← HZ2.out, ← HZ1.out] <;> first | exact ok))
  have lx3 := HF.out.c 2 rfl
  refine kS fun K hK => ?_
  refine sq 2 [(true, 0), (true, 1)] fun T hT => ?_
  iterate 2 refine tk ?_
  refine nlS hT HF fun vw4 HG => ?_
  clear hT T HF lx3
  go_wp2
  refine hK.out _ _ ?_; clear hK K
  show Code.wp _ _ _ _ _
  have HF := HG; clear HG
  clear hd4
  refine wp_cond_true (by rfl) ?_
  obtain ⟨u5, HZ5⟩ : ∃ z, Hid ((if false then -((Int.natAbs (b) : Nat) : Int) else ((Int.natAbs (b) : Nat) : Int)) = z) := ⟨_, Lib.hid rfl⟩
  have su5 : wl (Int.natAbs (u5)) ≤ 100000000000 := by rw [← HZ5.out]; split <;> simp <;> omega
  have HZ6 : Hid ((m) + (u5) = r) := Lib.hid (by have h0 := H0.out; have hb := HBS.out; have hr := HRS.out; have hm := HMS.out; have e5 := HZ5.out; simp at e5; rw [← HR.out, ← (div_carry (a := a) (b := b) (by omega) (by omega) HN.out).1, HM.out]; omega)
  have su6 : wl (Int.natAbs (r)) ≤ 100000000001 := by have e := HZ6.out; first | omega | (rw [← e]; have := wl_iadd (m) (u5); omega)
  have lx1 := HF.out.c 0 rfl
  have lx3 := HF.out.c 2 rfl
  refine kS fun K hK => ?_
  refine pd 6 [(true, 0), (true, 1), (true, 2), (true, 3), (true, 4), (true, 5)] fun T hT => ?_
  iterate 4 refine tk ?_
  refine ck Tryz.call37 (fun w' hw => from_any false (Int.natAbs (b)) (u5) _ HZ5.out) ?_
  refine ck Tryz.call41 (fun w' hw => ziadd (m) (u5) (r) _ HZ6.out om om) ?_
  refine nlD hT HF fun vw5 HG => ?_
  clear hT T HF lx1 lx3
  have lx3 := HG.out.c 2 rfl; have fx3 := HG.out.f 2 rfl
  have r0 := Gr.refl vw5
  go_wp2
  refine hK.out _ _ ?_; clear hK K
  show Code.wp _ _ _ _ _
  clear r0 lx3 fx3
  refine fH (((HG.out).put2 2 0 rfl).put 2 2 _ rfl) fun Wx6 HF => ?_
  clear HG
  have su7 : wl (Int.natAbs (-1)) ≤ 1 := wl_le.2 (by decide +kernel)
  have HZ8 : Hid ((u3) - (-1) = q) := Lib.hid (by have h0 := H0.out; have hb := HBS.out; have hr := HRS.out; have hm := HMS.out; rw [← HQ.out, ← HZ3.out, ← HZ1.out]; exact dc (a := a) (b := b) true (by omega) (decide_eq_true (by omega)) (by omega) HN.out)
  have su8 : wl (Int.natAbs (q)) ≤ 100000000001 := by have e := HZ8.out; first | omega | (rw [← e]; have := wl_isub (u3) (-1); omega)
  have lx1 := HF.out.c 0 rfl
  have lx2 := HF.out.c 1 rfl
  refine kL fun K hK => ?_
  refine pd 5 [(true, 0), (true, 1), (true, 2), (true, 3), (true, 4)] fun T hT => ?_
  iterate 2 refine tk ?_
  refine ck Tryz.call101 (fun w' hw => zisign (b) (-1) _ (by have e9 : (b) < (0 : Int) := (by have h0 := H0.out; have hb := HBS.out; have hr := HRS.out; have hm := HMS.out; first | exact ok | (simp only [← HZ5.out, ← HZ3.out, ← HZ2.out, ← HZ1.out] <;> first | exact ok)); exact sgI_lt e9)) ?_
  refine ck Tryz.call23 (fun w' hw => iof_any (-1) _ (by decide) (by decide)) ?_
  refine ck Tryz.call98 (fun w' hw => zisub (u3) (-1) (q) _ HZ8.out om om) ?_
  refine nlD hT HF fun vw6 HG => ?_
  clear hT T HF lx1 lx2
  have lx2 := HG.out.c 1 rfl; have fx2 := HG.out.f 1 rfl
  have r0 := Gr.refl vw6
  go_wp2
  refine hK.out _ _ ?_; clear hK K
  show Code.wp _ _ _ _ _
  clear r0 lx2 fx2
  refine fH ((((HG.out).put2 1 0 rfl).put 1 2 _ rfl).er 0) fun Wx7 HF => ?_
  clear HG
  have lx2 := HF.out.c 0 rfl; have fx2 := HF.out.f 0 rfl
  have lx3 := HF.out.c 1 rfl; have fx3 := HF.out.f 1 rfl
  have r0 := Gr.refl Wx7
  obtain ⟨d2_3, d3_2⟩ := HF.out.ne 0 1 rfl rfl (by decide)
  refine kS fun K hK => ?_
  go_region
  go_wp2
  refine hK.out _ _ ?_; clear hK K
  show Code.wp _ _ _ _ _
  clear r0 lx2 fx2 lx3 fx3 d2_3 d3_2
  refine fH ((((((HF.out).put2 0 0 rfl).put 0 2 _ rfl).put2 1 0 rfl).put 1 2 _ rfl).gr ((Below.refl _ _).drew)) fun Wx8 HG => ?_
  clear HF; have HF := HG; clear HG
  refine wp_ret ?_
  try simp only [Exit.then, Exit.inBlock]
  have lx2 := HF.out.c 0 rfl
  have lx3 := HF.out.c 1 rfl
  have r0 := Gr.refl Wx8
  exact bodyPost_ret (v := .tuple #[(.agg #[.int .u64 ((lo (Int.natAbs (q)) : Nat) : Int), .string (bg (Int.natAbs (q))), .bool (decide ((q) < 0))]), (.agg #[.int .u64 ((lo (Int.natAbs (r)) : Nat) : Int), .string (bg (Int.natAbs (r))), .bool (decide ((r) < 0))]), .bool true]) (by simp [results, Tryz.results42, go_sem, lx2 _ r0, lx3 _ r0]) rfl ⟨rfl, HF.out.1⟩

theorem zidiv (a b q r : Int) (w : World) (hq : a / b = q) (hr : a % b = r) (h0 : b ≠ 0) (ha : wl a.natAbs ≤ 100000000000) (hb : wl b.natAbs ≤ 100000000000) :
    Calls Tryz.prog 42 #[(Value.agg #[.int .u64 ((lo (Int.natAbs (a)) : Nat) : Int), .string (bg (Int.natAbs (a))), .bool (decide ((a) < 0))]), (Value.agg #[.int .u64 ((lo (Int.natAbs (b)) : Nat) : Int), .string (bg (Int.natAbs (b))), .bool (decide ((b) < 0))])] w fun e w' => e = .returned (.tuple #[(Value.agg #[.int .u64 ((lo (Int.natAbs (q)) : Nat) : Int), .string (bg (Int.natAbs (q))), .bool (decide ((q) < 0))]), (Value.agg #[.int .u64 ((lo (Int.natAbs (r)) : Nat) : Int), .string (bg (Int.natAbs (r))), .bool (decide ((r) < 0))]), .bool true]) ∧ Below w.heap.size w w' := by
  have hr0 : 0 ≤ r := by rw [← hr]; exact (mod_abs a h0).2
  by_cases h1 : 0 ≤ a
  · rcases Int.lt_or_gt_of_ne h0 with h2 | h2
    · exact div_pn a b q r w (Lib.hid hq) (Lib.hid hr) (Lib.hid h2) (Lib.hid h1) (Lib.hid hr0) ha hb
    · exact div_pp a b q r w (Lib.hid hq) (Lib.hid hr) (Lib.hid h2) (Lib.hid h1) (Lib.hid hr0) ha hb
  · by_cases hm : a.natAbs % b.natAbs = 0
    · rcases Int.lt_or_gt_of_ne h0 with h2 | h2
      · exact div_zn a b q r w (Lib.hid hq) (Lib.hid hr) (Lib.hid h2) (Lib.hid (by omega)) (Lib.hid hm) (Lib.hid hr0) ha hb
      · exact div_zp a b q r w (Lib.hid hq) (Lib.hid hr) (Lib.hid h2) (Lib.hid (by omega)) (Lib.hid hm) (Lib.hid hr0) ha hb
    · rcases Int.lt_or_gt_of_ne h0 with h2 | h2
      · exact div_nn a b q r w (Lib.hid hq) (Lib.hid hr) (Lib.hid h2) (Lib.hid (by omega)) _ (Lib.hid rfl) (Lib.hid (by omega)) (Lib.hid hm) (Lib.hid hr0) ha hb
      · exact div_np a b q r w (Lib.hid hq) (Lib.hid hr) (Lib.hid h2) (Lib.hid (by omega)) _ (Lib.hid rfl) (Lib.hid (by omega)) (Lib.hid hm) (Lib.hid hr0) ha hb
end Go.Proofs.YtobojnodohjiaaaGreatDoor
