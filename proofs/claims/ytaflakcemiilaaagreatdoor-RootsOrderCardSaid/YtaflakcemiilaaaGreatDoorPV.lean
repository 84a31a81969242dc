/- A pack of texts: Frac4, FPow, FMax2. No condition but those stated. -/
import Derived.Test.YtaflakcemiilaaaGreatDoorPL
import Derived.Test.YtaflakcemiilaaaGreatDoorIntDiv
import Derived.Test.YtaflakcemiilaaaGreatDoorHp
import Derived.Test.YtaflakcemiilaaaGreatDoorPJ
set_option linter.unusedVariables false
set_option linter.unusedSimpArgs false

/- fracs: From, Num, Den, Abs, Square, Floor, Ceil, Of at 0. -/
namespace Go.Proofs.YtaflakcemiilaaaGreatDoor
open Go.RowKit
set_option linter.unusedSimpArgs false
set_option linter.unusedVariables false
attribute [local go_sem ↓] Go.wp_at_zero Go.wp_at_succ
attribute [local go_sem ↓] eq_nat eq_nat_zero eq_int
set_option maxRecDepth 20000 in
set_option maxHeartbeats 4000000 in
theorem ffrom_ok (n : Int) (d : Nat) (z : Rat) (w : World) (HZ : Hid (mkRat n d = z)) (hd : 0 < d) (hn9 : wl n.natAbs ≤ 100000000000) (hd9 : wl d ≤ 100000000000) :
    Calls Tryz.prog 116 #[(Value.agg #[.int .u64 ((lo (Int.natAbs (n)) : Nat) : Int), .string (bg (Int.natAbs (n))), .bool (decide ((n) < 0))]), (Value.agg #[.int .u64 ((lo (d) : Nat) : Int), .string (bg (d))])] w fun e w' => e = .returned (.tuple #[(.agg #[.int .u64 ((lo (Int.natAbs ((z).num)) : Nat) : Int), .string (bg (Int.natAbs ((z).num))), .bool (decide (((z).num) < 0)), .int .u64 ((lo ((z).den - 1) : Nat) : Int), .string (bg ((z).den - 1))]), .int .i64 0]) ∧ Below w.heap.size w w' := by
  go_enter Tryz.func116, Tryz.ntmps116
  have HF := Lib.hid (hp0 w)
  refine kS fun K hK => ?_
  refine wp_region_lit ?_
  go_wp2
  refine hK.out _ _ ?_; clear hK K
  show Code.wp _ _ _ _ _
  refine fH ((((HF.out).al (b := w.heap.size) (by first | rfl | simp) (by decide)).al (b := w.heap.size + 1) (by first | rfl | simp) (by decide)).al (b := w.heap.size + 1 + 1) (by first | rfl | simp) (by decide)) fun Wx0 HG => ?_
  clear HF; have HF := HG; clear HG
  generalize w.heap.size + 1 + 1 = gx2 at *
  generalize w.heap.size + 1 = gx1 at *
  refine wp_seq ?_
  have hd1 : decide (d = 0) = false := decide_eq_false (ok)
  have lx1 := HF.out.c 1 rfl
  refine kS fun K hK => ?_
  refine sq 3 [(true, 0), (true, 1), (true, 2)] fun T hT => ?_
  iterate 3 refine tk ?_
  refine nlS hT HF fun vw1 HG => ?_
  clear hT T HF lx1
  go_wp2
  refine hK.out _ _ ?_; clear hK K
  show Code.wp _ _ _ _ _
  have HF := HG; clear HG
  clear hd1
  refine wp_cond_false (by rfl) ?_
  refine wp_skip ?_
  show Code.wp _ _ _ _ _
  have HZ1 : Hid (mkRat (n) (d) = z) := Lib.hid (HZ.out)
  have su1 : sz (z) ≤ 100000000000 := by have e := HZ1.out; first | omega | (rw [← e]; exact sz_mkRat (k := 100000000000) om om (by decide))
  have lx0 := HF.out.c 0 rfl
  have lx1 := HF.out.c 1 rfl
  refine kS fun K hK => ?_
  refine sq 3 [(true, 0), (true, 1), (true, 2)] fun T hT => ?_
  iterate 2 refine tk ?_
  refine ck Tryz.call108 (fun w' hw => lowest_any (n) (d) (z) HZ1 (ok) om om _) ?_
  refine nlS hT HF fun vw2 HG => ?_
  clear hT T HF lx0 lx1
  have lx2 := HG.out.c 2 rfl; have fx2 := HG.out.f 2 rfl
  have r0 := Gr.refl vw2
  go_wp2
  refine hK.out _ _ ?_; clear hK K
  show Code.wp _ _ _ _ _
  clear r0 lx2 fx2
  refine fH ((((((HG.out).put2 2 0 rfl).put2 2 2 rfl).put 2 4 _ rfl).er 1).er 0) fun Wx3 HF => ?_
  clear HG
  refine wp_ret ?_
  try simp only [Exit.then, Exit.inBlock]
  have lx2 := HF.out.c 0 rfl
  have r0 := Gr.refl Wx3
  exact bodyPost_ret (v := .tuple #[(.agg #[.int .u64 ((lo (Int.natAbs ((z).num)) : Nat) : Int), .string (bg (Int.natAbs ((z).num))), .bool (decide (((z).num) < 0)), .int .u64 ((lo ((z).den - 1) : Nat) : Int), .string (bg ((z).den - 1))]), .int .i64 0]) (by simp [results, Tryz.results116, go_sem, lx2 _ r0]) rfl ⟨rfl, HF.out.1⟩

set_option maxRecDepth 20000 in
set_option maxHeartbeats 4000000 in
theorem fnum_any (q : Rat) (w : World)  :
    Calls Tryz.prog 118 #[(Value.agg #[.int .u64 ((lo (Int.natAbs ((q).num)) : Nat) : Int), .string (bg (Int.natAbs ((q).num))), .bool (decide (((q).num) < 0)), .int .u64 ((lo ((q).den - 1) : Nat) : Int), .string (bg ((q).den - 1))])] w fun e w' => e = .returned (((Value.agg #[.int .u64 ((lo (Int.natAbs ((q).num)) : Nat) : Int), .string (bg (Int.natAbs ((q).num))), .bool (decide (((q).num) < 0))]))) ∧ Below w.heap.size w w' := by
  go_enter Tryz.func118, Tryz.ntmps118
  have HF := Lib.hid (hp0 w)
  refine kS fun K hK => ?_
  refine wp_region_lit ?_
  go_wp2
  refine hK.out _ _ ?_; clear hK K
  show Code.wp _ _ _ _ _
  refine fH (((HF.out).al (b := w.heap.size) (by first | rfl | simp) (by decide)).al (b := w.heap.size + 1) (by first | rfl | simp) (by decide)) fun Wx0 HG => ?_
  clear HF; have HF := HG; clear HG
  generalize w.heap.size + 1 = gx1 at *
  have lx0 := HF.out.c 0 rfl
  refine kS fun K hK => ?_
  refine sq 2 [(true, 0), (true, 1)] fun T hT => ?_
  iterate 2 refine tk ?_
  refine nlS hT HF fun vw1 HG => ?_
  clear hT T HF lx0
  have lx1 := HG.out.c 1 rfl; have fx1 := HG.out.f 1 rfl
  have r0 := Gr.refl vw1
  go_wp2
  refine hK.out _ _ ?_; clear hK K
  show Code.wp _ _ _ _ _
  clear r0 lx1 fx1
  refine fH ((((HG.out).put2 1 0 rfl).put 1 2 _ rfl).er 0) fun Wx1 HF => ?_
  clear HG
  refine wp_ret ?_
  try simp only [Exit.then, Exit.inBlock]
  have lx1 := HF.out.c 0 rfl
  have r0 := Gr.refl Wx1
  exact bodyPost_ret (v := .agg #[.int .u64 ((lo (Int.natAbs ((q).num)) : Nat) : Int), .string (bg (Int.natAbs ((q).num))), .bool (decide (((q).num) < 0))]) (by simp [results, Tryz.results118, go_sem, lx1 _ r0]) rfl ⟨rfl, HF.out.1⟩
set_option maxRecDepth 20000 in
set_option maxHeartbeats 4000000 in
theorem fDen_any (q : Rat) (w : World) (hs : sz q ≤ 100000000000) :
    Calls Tryz.prog 119 #[(Value.agg #[.int .u64 ((lo (Int.natAbs ((q).num)) : Nat) : Int), .string (bg (Int.natAbs ((q).num))), .bool (decide (((q).num) < 0)), .int .u64 ((lo ((q).den - 1) : Nat) : Int), .string (bg ((q).den - 1))])] w fun e w' => e = .returned (((Value.agg #[.int .u64 ((lo ((q).den) : Nat) : Int), .string (bg ((q).den))]))) ∧ Below w.heap.size w w' := by
  go_enter Tryz.func119, Tryz.ntmps119
  have HF := Lib.hid (hp0 w)
  refine kS fun K hK => ?_
  refine wp_region_lit ?_
  go_wp2
  refine hK.out _ _ ?_; clear hK K
  show Code.wp _ _ _ _ _
  refine fH (((HF.out).al (b := w.heap.size) (by first | rfl | simp) (by decide)).al (b := w.heap.size + 1) (by first | rfl | simp) (by decide)) fun Wx0 HG => ?_
  clear HF; have HF := HG; clear HG
  generalize w.heap.size + 1 = gx1 at *
  have su1 : wl ((q).den) ≤ 100000000000 := Nat.le_trans (sz_den _) om
  have sp1 : 0 < (q).den := (q).den_pos
  have lx0 := HF.out.c 0 rfl
  refine kS fun K hK => ?_
  refine sq 2 [(true, 0), (true, 1)] fun T hT => ?_
  refine tk ?_
  refine ck Tryz.call109 (fun w' hw => fden_any (q) om _) ?_
  refine nlS hT HF fun vw1 HG => ?_
  clear hT T HF lx0
  have lx1 := HG.out.c 1 rfl; have fx1 := HG.out.f 1 rfl
  have r0 := Gr.refl vw1
  go_wp2
  refine hK.out _ _ ?_; clear hK K
  show Code.wp _ _ _ _ _
  clear r0 lx1 fx1
  refine fH (((HG.out).put2 1 0 rfl).er 0) fun Wx1 HF => ?_
  clear HG
  refine wp_ret ?_
  try simp only [Exit.then, Exit.inBlock]
  have lx1 := HF.out.c 0 rfl
  have r0 := Gr.refl Wx1
  exact bodyPost_ret (v := .agg #[.int .u64 ((lo ((q).den) : Nat) : Int), .string (bg ((q).den))]) (by simp [results, Tryz.results119, go_sem, lx1 _ r0]) rfl ⟨rfl, HF.out.1⟩

def qabs (q : Rat) : Rat := if q < 0 then -q else q
theorem qabs_den (q : Rat) : (qabs q).den = q.den := by unfold qabs; split <;> rfl
theorem qabs_num (q : Rat) : (if false then -((Int.natAbs (q.num) : Nat) : Int) else ((Int.natAbs (q.num) : Nat) : Int)) = (qabs q).num := by
  rw [if_neg (by decide)]
  unfold qabs
  split
  · rename_i h
    have := num_neg.2 h
    rw [Rat.neg_num]; omega
  · rename_i h
    have : ¬ q.num < 0 := fun e => h (num_neg.1 e)
    omega
theorem sz_qabs (q : Rat) : sz (qabs q) = sz q := by unfold qabs; split; rw [sz_neg]; rfl

set_option maxRecDepth 20000 in
set_option maxHeartbeats 4000000 in
theorem fabs_raw (q r : Rat) (w : World) (HR : Hid (qabs q = r)) :
    Calls Tryz.prog 31 #[(Value.agg #[.int .u64 ((lo (Int.natAbs ((q).num)) : Nat) : Int), .string (bg (Int.natAbs ((q).num))), .bool (decide (((q).num) < 0)), .int .u64 ((lo ((q).den - 1) : Nat) : Int), .string (bg ((q).den - 1))])] w fun e w' => e = .returned ((.agg #[.int .u64 ((lo (Int.natAbs ((r).num)) : Nat) : Int), .string (bg (Int.natAbs ((r).num))), .bool (decide (((r).num) < 0)), .int .u64 ((lo ((q).den - 1) : Nat) : Int), .string (bg ((q).den - 1))])) ∧ Below w.heap.size w w' := by
  go_enter Tryz.func31, Tryz.ntmps31
  have HF := Lib.hid (hp0 w)
  refine kS fun K hK => ?_
  refine wp_region_lit ?_
  go_wp2
  refine hK.out _ _ ?_; clear hK K
  show Code.wp _ _ _ _ _
  refine fH (((HF.out).al (b := w.heap.size) (by first | rfl | simp) (by decide)).al (b := w.heap.size + 1) (by first | rfl | simp) (by decide)) fun Wx0 HG => ?_
  clear HF; have HF := HG; clear HG
  generalize w.heap.size + 1 = gx1 at *
  have HZ1 : Hid ((if false then -((Int.natAbs ((q).num) : Nat) : Int) else ((Int.natAbs ((q).num) : Nat) : Int)) = (r).num) := Lib.hid (by rw [← HR.out]; exact qabs_num q)
  have lx0 := HF.out.c 0 rfl
  refine kS fun K hK => ?_
  refine pd 7 [(true, 0), (true, 1), (true, 4), (true, 5), (true, 2), (true, 3), (true, 6)] fun T hT => ?_
  iterate 4 refine tk ?_
  refine ck Tryz.call114 (fun w' hw => abs_any ((q).num) _) ?_
  refine ck Tryz.call113 (fun w' hw => from_any false (Int.natAbs ((q).num)) ((r).num) _ HZ1.out) ?_
  refine tk ?_
  refine nlD hT HF fun vw1 HG => ?_
  clear hT T HF lx0
  have lx1 := HG.out.c 1 rfl; have fx1 := HG.out.f 1 rfl
  have r0 := Gr.refl vw1
  go_wp2
  refine hK.out _ _ ?_; clear hK K
  show Code.wp _ _ _ _ _
  clear r0 lx1 fx1
  refine fH (((((HG.out).put2 1 0 rfl).put2 1 2 rfl).put 1 4 _ rfl).er 0) fun Wx1 HF => ?_
  clear HG
  refine wp_ret ?_
  try simp only [Exit.then, Exit.inBlock]
  have lx1 := HF.out.c 0 rfl
  have r0 := Gr.refl Wx1
  exact bodyPost_ret (v := .agg #[.int .u64 ((lo (Int.natAbs ((r).num)) : Nat) : Int), .string (bg (Int.natAbs ((r).num))), .bool (decide (((r).num) < 0)), .int .u64 ((lo ((q).den - 1) : Nat) : Int), .string (bg ((q).den - 1))]) (by simp [results, Tryz.results31, go_sem, lx1 _ r0]) rfl ⟨rfl, HF.out.1⟩

theorem fabs_any (q r : Rat) (w : World) (hr : qabs q = r) :
    Calls Tryz.prog 31 #[(Value.agg #[.int .u64 ((lo (Int.natAbs ((q).num)) : Nat) : Int), .string (bg (Int.natAbs ((q).num))), .bool (decide (((q).num) < 0)), .int .u64 ((lo ((q).den - 1) : Nat) : Int), .string (bg ((q).den - 1))])] w fun e w' => e = .returned (Value.agg #[.int .u64 ((lo (Int.natAbs ((r).num)) : Nat) : Int), .string (bg (Int.natAbs ((r).num))), .bool (decide (((r).num) < 0)), .int .u64 ((lo ((r).den - 1) : Nat) : Int), .string (bg ((r).den - 1))]) ∧ Below w.heap.size w w' := by
  have e : q.den = r.den := by rw [← hr, qabs_den]
  refine (fabs_raw q r w (Lib.hid hr)).mono ?_
  rintro _ w' ⟨rfl, hb⟩
  exact ⟨by rw [e], hb⟩

set_option maxRecDepth 20000 in
set_option maxHeartbeats 4000000 in
theorem fsquare_any (q z : Rat) (w : World) (HZ : Hid (q * q = z)) (hs : sz q ≤ 10000000000) :
    Calls Tryz.prog 37 #[(Value.agg #[.int .u64 ((lo (Int.natAbs ((q).num)) : Nat) : Int), .string (bg (Int.natAbs ((q).num))), .bool (decide (((q).num) < 0)), .int .u64 ((lo ((q).den - 1) : Nat) : Int), .string (bg ((q).den - 1))])] w fun e w' => e = .returned (.agg #[.int .u64 ((lo (Int.natAbs ((z).num)) : Nat) : Int), .string (bg (Int.natAbs ((z).num))), .bool (decide (((z).num) < 0)), .int .u64 ((lo ((z).den - 1) : Nat) : Int), .string (bg ((z).den - 1))]) ∧ Below w.heap.size w w' := by
  go_enter Tryz.func37, Tryz.ntmps37
  have HF := Lib.hid (hp0 w)
  refine kS fun K hK => ?_
  refine wp_region_lit ?_
  go_wp2
  refine hK.out _ _ ?_; clear hK K
  show Code.wp _ _ _ _ _
  refine fH (((HF.out).al (b := w.heap.size) (by first | rfl | simp) (by decide)).al (b := w.heap.size + 1) (by first | rfl | simp) (by decide)) fun Wx0 HG => ?_
  clear HF; have HF := HG; clear HG
  generalize w.heap.size + 1 = gx1 at *
  have HZ1 : Hid ((q) * (q) = z) := Lib.hid (HZ.out)
  have su1 : sz (z) ≤ 20000000000 := by have e := HZ1.out; first | omega | (rw [← e]; have := sz_mul (q) (q); omega)
  have lx0 := HF.out.c 0 rfl
  refine kS fun K hK => ?_
  refine sq 3 [(true, 0), (true, 1), (true, 2)] fun T hT => ?_
  iterate 2 refine tk ?_
  refine ck Tryz.call39 (fun w' hw => fmul_any (q) (q) (z) _ HZ1.out om om) ?_
  refine nlS hT HF fun vw1 HG => ?_
  clear hT T HF lx0
  have lx1 := HG.out.c 1 rfl; have fx1 := HG.out.f 1 rfl
  have r0 := Gr.refl vw1
  go_wp2
  refine hK.out _ _ ?_; clear hK K
  show Code.wp _ _ _ _ _
  clear r0 lx1 fx1
  refine fH (((((HG.out).put2 1 0 rfl).put2 1 2 rfl).put 1 4 _ rfl).er 0) fun Wx1 HF => ?_
  clear HG
  refine wp_ret ?_
  try simp only [Exit.then, Exit.inBlock]
  have lx1 := HF.out.c 0 rfl
  have r0 := Gr.refl Wx1
  exact bodyPost_ret (v := .agg #[.int .u64 ((lo (Int.natAbs ((z).num)) : Nat) : Int), .string (bg (Int.natAbs ((z).num))), .bool (decide (((z).num) < 0)), .int .u64 ((lo ((z).den - 1) : Nat) : Int), .string (bg ((z).den - 1))]) (by simp [results, Tryz.results37, go_sem, lx1 _ r0]) rfl ⟨rfl, HF.out.1⟩

theorem wl_floor (q : Rat) : wl (Int.natAbs (q.floor)) ≤ sz q + 1 := by
  rw [Rat.floor_def]
  exact Nat.le_trans (wl_idiv _ _) (by have := sz_num q; omega)
set_option maxRecDepth 20000 in
set_option maxHeartbeats 4000000 in
theorem ffloor_any (q : Rat) (z : Int) (w : World) (HZ : Hid (q.floor = z)) (hs : sz q ≤ 10000000000) :
    Calls Tryz.prog 136 #[(Value.agg #[.int .u64 ((lo (Int.natAbs ((q).num)) : Nat) : Int), .string (bg (Int.natAbs ((q).num))), .bool (decide (((q).num) < 0)), .int .u64 ((lo ((q).den - 1) : Nat) : Int), .string (bg ((q).den - 1))])] w fun e w' => e = .returned (.agg #[.int .u64 ((lo (Int.natAbs (z)) : Nat) : Int), .string (bg (Int.natAbs (z))), .bool (decide ((z) < 0))]) ∧ Below w.heap.size w w' := by
  have hn_q : wl (Int.natAbs ((q).num)) ≤ 10000000000 := Nat.le_trans (sz_num q) hs
  have hp_q := q.den_pos
  go_enter Tryz.func136, Tryz.ntmps136
  have HF := Lib.hid (hp0 w)
  refine kS fun K hK => ?_
  refine wp_region_lit ?_
  go_wp2
  refine hK.out _ _ ?_; clear hK K
  show Code.wp _ _ _ _ _
  refine fH (((HF.out).al (b := w.heap.size) (by first | rfl | simp) (by decide)).al (b := w.heap.size + 1) (by first | rfl | simp) (by decide)) fun Wx0 HG => ?_
  clear HF; have HF := HG; clear HG
  generalize w.heap.size + 1 = gx1 at *
  obtain ⟨u1, HZ1⟩ : ∃ z, Hid (((q).den : Int) = z) := ⟨_, Lib.hid rfl⟩
  have su1 : wl (Int.natAbs (u1)) ≤ 10000000000 := by rw [← HZ1.out]; rw [Int.natAbs_natCast]; exact Nat.le_trans (sz_den _) (by omega)
  have HZ2 : Hid (((q).num) / (u1) = z) := Lib.hid (by rw [← HZ.out, Rat.floor_def]; simp only [← HZ1.out])
  have su2 : wl (Int.natAbs (z)) ≤ 10000000001 := by have e := HZ2.out; first | omega | (rw [← e]; have := wl_idiv ((q).num) (u1); omega)
  obtain ⟨u3, HZ3⟩ : ∃ z, Hid (((q).num) % (u1) = z) := ⟨_, Lib.hid rfl⟩
  have su3 : wl (Int.natAbs (u3)) ≤ 10000000000 := by rw [← HZ3.out]; have := wl_imod ((q).num) (u1) (by simp only [← HZ1.out]; omega); omega
  have lx0 := HF.out.c 0 rfl
  refine kS fun K hK => ?_
  refine wp_region_plan 11 [9, 10] [7, 8] (fun i => if i = 9 then 3 else 4) (fun i => if i = 9 then .cells #[.int .u64 0, .string ⟨#[]⟩, .bool false] 34 else .cells #[.int .u64 0, .string ⟨#[]⟩, .bool false] 34) [(true, 0), (true, 1), (true, 2), (true, 3), (true, 4), (true, 5), (true, 6), (true, 7), (true, 8)] (by kernel_rfl) (by kernel_rfl) (by intro i hi; simp only [List.mem_cons, List.not_mem_nil, or_false] at hi; rcases hi with rfl | rfl <;> exact ⟨_, rfl, rfl, rfl, by simp, fun ρ w => by kernel_rfl⟩) (by intro i hi; simp only [List.mem_cons, List.not_mem_nil, or_false] at hi; rcases hi with rfl | rfl <;> exact ⟨_, rfl, pure_extract⟩) (fun _ _ _ _ _ h => h) (fun T hT => ?_)
  iterate 3 refine tk ?_
  refine ck Tryz.call111 (fun w' hw => fsigned_any (q) (u1) _ HZ1.out om) ?_
  refine ck Tryz.call208 (fun w' hw => zidiv ((q).num) (u1) (z) (u3) _ HZ2.out HZ3.out (by simp only [← HZ3.out, ← HZ1.out]; omega) om om) ?_
  iterate 4 refine tk ?_
  refine wpPlan_nil (hT.out _ _ ?_)
  intro G vw1 hg hf
  simp only [puts, Act.put, lA, lB, lC, lD, lE, ↓reduceIte, Nat.reduceEqDiff]
  have HG := Lib.hid (HF.out.fr hg hf (zs := [(#[.int .u64 0, .string ⟨#[]⟩, .bool false], 34), (#[.int .u64 0, .string ⟨#[]⟩, .bool false], 34)]) rfl (by decide) (by decide))
  simp only [List.zip_cons_cons, List.zip_nil_right, List.map_cons, List.map_nil, lF, lG] at HG
  clear hT T HF hg hf lx0
  generalize G 9 = gx3 at *
  generalize G 10 = gx4 at *
  have lx3 := HG.out.c 2 rfl; have fx3 := HG.out.f 2 rfl
  have lx4 := HG.out.c 3 rfl; have fx4 := HG.out.f 3 rfl
  have r0 := Gr.refl vw1
  obtain ⟨d3_4, d4_3⟩ := HG.out.ne 2 3 rfl rfl (by decide)
  go_wp2
  refine hK.out _ _ ?_; clear hK K
  show Code.wp _ _ _ _ _
  clear r0 lx3 fx3 lx4 fx4 d3_4 d4_3
  refine fH (((((((HG.out).put2 2 0 rfl).put 2 2 _ rfl).put2 3 0 rfl).put 3 2 _ rfl).er 3).er 0) fun Wx1 HF => ?_
  clear HG
  have lx3 := HF.out.c 1 rfl
  refine kS fun K hK => ?_
  refine sq 1 [(true, 0)] fun T hT => ?_
  refine tk ?_
  refine nlS hT HF fun vw2 HG => ?_
  clear hT T HF lx3
  have lx1 := HG.out.c 0 rfl; have fx1 := HG.out.f 0 rfl
  have r0 := Gr.refl vw2
  go_wp2
  refine hK.out _ _ ?_; clear hK K
  show Code.wp _ _ _ _ _
  clear r0 lx1 fx1
  refine fH ((((HG.out).put2 0 0 rfl).put 0 2 _ rfl).er 1) fun Wx2 HF => ?_
  clear HG
  refine wp_ret ?_
  try simp only [Exit.then, Exit.inBlock]
  have lx1 := HF.out.c 0 rfl
  have r0 := Gr.refl Wx2
  exact bodyPost_ret (v := .agg #[.int .u64 ((lo (Int.natAbs (z)) : Nat) : Int), .string (bg (Int.natAbs (z))), .bool (decide ((z) < 0))]) (by simp [results, Tryz.results136, go_sem, lx1 _ r0]) rfl ⟨rfl, HF.out.1⟩

end Go.Proofs.YtaflakcemiilaaaGreatDoor


/- fracs.Pow. -/
namespace Go.Proofs.YtaflakcemiilaaaGreatDoor
open Go.RowKit
set_option linter.unusedSimpArgs false
set_option linter.unusedVariables false
attribute [local go_sem ↓] Go.wp_at_zero Go.wp_at_succ
attribute [local go_sem ↓] eq_nat eq_nat_zero eq_int
theorem neg_pow_even (n : Int) (j : Nat) : (-n) ^ (2 * j) = n ^ (2 * j) := by
  rw [Int.pow_mul, Int.pow_mul]
  congr 1
  rw [Int.pow_succ, Int.pow_succ, Int.pow_succ, Int.pow_succ, Int.pow_zero, Int.pow_zero, Int.one_mul, Int.one_mul, Int.neg_mul_neg]
theorem pow_num_pos (a z : Rat) (k : Nat) (hz : a ^ k = z) (h : 0 ≤ a.num) : ((a.num.natAbs ^ k : Nat) : Int) = z.num := by
  rw [← hz, Rat.num_pow, Int.natCast_pow, Int.natAbs_of_nonneg h]
theorem pow_num_even (a z : Rat) (k : Nat) (hz : a ^ k = z) (h : a.num < 0) (hk : k % 2 = 0) : ((a.num.natAbs ^ k : Nat) : Int) = z.num := by
  obtain ⟨j, rfl⟩ : ∃ j, k = 2 * j := ⟨k / 2, by omega⟩
  rw [← hz, Rat.num_pow, Int.natCast_pow, show ((a.num.natAbs : Nat) : Int) = -a.num by omega, neg_pow_even]
theorem pow_num_odd (a z : Rat) (k : Nat) (hz : a ^ k = z) (h : a.num < 0) (hk : k % 2 = 1) : -((a.num.natAbs ^ k : Nat) : Int) = z.num := by
  obtain ⟨j, rfl⟩ : ∃ j, k = 2 * j + 1 := ⟨k / 2, by omega⟩
  rw [← hz, Rat.num_pow, Int.natCast_pow, show ((a.num.natAbs : Nat) : Int) = -a.num by omega, Int.pow_succ, neg_pow_even, Int.pow_succ, Int.mul_neg, Int.neg_neg]
theorem tm_odd (k : Nat) (h : k % 2 = 1) : Int.tmod ((k : Nat) : Int) 2 = 1 := by
  rw [Int.tmod_eq_emod_of_nonneg (by omega)]; omega
theorem tm_even (k : Nat) (h : k % 2 = 0) : Int.tmod ((k : Nat) : Int) 2 = 0 := by
  rw [Int.tmod_eq_emod_of_nonneg (by omega)]; omega

theorem sgQ_nneg {a : Rat} (h : ¬ a < 0) : ¬ sgQ a < 0 := by
  unfold sgQ; rw [if_neg h]; split <;> decide
set_option maxRecDepth 20000 in
set_option maxHeartbeats 4000000 in
theorem fpow_odd (a z : Rat) (k : Nat) (w : World) (HP1 : Hid (k * nb a.num.natAbs ≤ 262144)) (HP2 : Hid (k * nb a.den ≤ 262144)) (HZ : Hid (a ^ k = z)) (hk : k ≤ 4096) (hs : sz a ≤ 8192) (ha : a < 0) (HK : Hid (k % 2 = 1)) :
    Calls Tryz.prog 128 #[(Value.agg #[.int .u64 ((lo (Int.natAbs ((a).num)) : Nat) : Int), .string (bg (Int.natAbs ((a).num))), .bool (decide (((a).num) < 0)), .int .u64 ((lo ((a).den - 1) : Nat) : Int), .string (bg ((a).den - 1))]), .int .i64 (((k : Nat) : Int))] w fun e w' => e = .returned (.tuple #[(.agg #[.int .u64 ((lo (Int.natAbs ((z).num)) : Nat) : Int), .string (bg (Int.natAbs ((z).num))), .bool (decide (((z).num) < 0)), .int .u64 ((lo ((z).den - 1) : Nat) : Int), .string (bg ((z).den - 1))]), .int .i64 0]) ∧ Below w.heap.size w w' := by
  have hn_a : wl (Int.natAbs ((a).num)) ≤ 8192 := Nat.le_trans (sz_num a) hs
  have hd_a : wl ((a).den) ≤ 8192 := Nat.le_trans (sz_den a) hs
  go_enter Tryz.func128, Tryz.ntmps128
  have HF := Lib.hid (hp0 w)
  refine kS fun K hK => ?_
  refine wp_region_lit ?_
  go_wp2
  refine hK.out _ _ ?_; clear hK K
  show Code.wp _ _ _ _ _
  refine fH (((HF.out).al (b := w.heap.size) (by first | rfl | simp) (by decide)).al (b := w.heap.size + 1) (by first | rfl | simp) (by decide)) fun Wx0 HG => ?_
  clear HF; have HF := HG; clear HG
  generalize w.heap.size + 1 = gx1 at *
  refine wp_seq ?_
  refine wp_block ?_
  have hd1 : ¬ ((((k : Nat) : Int)) < -4096) := ok
  have hd2 : ¬ (4096 < (((k : Nat) : Int))) := ok
  refine kS fun K hK => ?_
  refine sq 7 [(true, 0), (true, 1), (true, 2), (true, 3), (true, 4), (true, 5), (true, 6)] fun T hT => ?_
  iterate 7 refine tk ?_
  refine nlS hT HF fun vw1 HG => ?_
  clear hT T HF
  go_wp2
  refine hK.out _ _ ?_; clear hK K
  show Code.wp _ _ _ _ _
  have HF := HG; clear HG
  clear hd1 hd2
  refine wp_cond_false (by rfl) ?_
  have hd3 : ¬ ((((k : Nat) : Int)) < 0) := ok
  have hd4 : ¬ (k < 0) := by have e := hd3; omega
  refine kS fun K hK => ?_
  refine sq 3 [(true, 0), (true, 1), (true, 2)] fun T hT => ?_
  iterate 3 refine tk ?_
  refine nlS hT HF fun vw2 HG => ?_
  clear hT T HF
  go_wp2
  refine hK.out _ _ ?_; clear hK K
  show Code.wp _ _ _ _ _
  have HF := HG; clear HG
  clear hd3 hd4
  refine wp_cond_false (by rfl) ?_
  refine wp_skip ?_
  show Code.wp _ _ _ _ _
  obtain ⟨u1, HZ1⟩ : ∃ z, Hid ((Int.natAbs ((a).num)) ^ k = z) := ⟨_, Lib.hid rfl⟩
  have su1 : wl (u1) ≤ 8192 := by rw [← HZ1.out]; exact wl_pow _ _ (HP1.out)
  have lx0 := HF.out.c 0 rfl
  refine kS fun K hK => ?_
  refine sq 8 [(true, 0), (true, 1), (true, 2), (true, 3), (true, 4), (true, 5), (true, 6), (true, 7)] fun T hT => ?_
  iterate 2 refine tk ?_
  refine ck Tryz.call114 (fun w' hw => abs_any ((a).num) _) ?_
  refine tk ?_
  refine ck Tryz.call170 (fun w' hw => nzpow (Int.natAbs ((a).num)) k (u1) _ HZ1.out (by omega) (HP1.out) om) ?_
  iterate 3 refine tk ?_
  refine nlS hT HF fun vw3 HG => ?_
  clear hT T HF lx0
  go_wp2
  refine hK.out _ _ ?_; clear hK K
  show Code.wp _ _ _ _ _
  refine fH ((HG.out).al (b := vw3.heap.size) (by first | rfl | simp) (by decide)) fun Wx8 HF => ?_
  clear HG
  generalize vw3.heap.size = gx3 at *
  have su2 : wl ((a).den) ≤ 8192 := Nat.le_trans (sz_den _) om
  have sp2 : 0 < (a).den := (a).den_pos
  have HZ3 : Hid (((a).den) ^ k = (z).den) := Lib.hid (by rw [← HZ.out]; rfl)
  have su3 : wl ((z).den) ≤ 8192 := by have e := HZ3.out; first | omega | (rw [← e]; exact wl_pow _ _ (HP2.out))
  have lx0 := HF.out.c 0 rfl
  refine kS fun K hK => ?_
  refine sq 7 [(true, 0), (true, 1), (true, 2), (true, 3), (true, 4), (true, 5), (true, 6)] fun T hT => ?_
  refine tk ?_
  refine ck Tryz.call109 (fun w' hw => fden_any (a) om _) ?_
  refine tk ?_
  refine ck Tryz.call170 (fun w' hw => nzpow ((a).den) k ((z).den) _ HZ3.out (by omega) (HP2.out) om) ?_
  iterate 3 refine tk ?_
  refine nlS hT HF fun vw4 HG => ?_
  clear hT T HF lx0
  go_wp2
  refine hK.out _ _ ?_; clear hK K
  show Code.wp _ _ _ _ _
  refine fH ((HG.out).al (b := vw4.heap.size) (by first | rfl | simp) (by decide)) fun Wx9 HF => ?_
  clear HG
  generalize vw4.heap.size = gx4 at *
  refine wp_seq ?_
  refine kS fun K hK => ?_
  refine sq 6 [(true, 0), (true, 1), (true, 2), (true, 3), (true, 4), (true, 5)] fun T hT => ?_
  iterate 6 refine tk ?_
  refine nlS hT HF fun vw5 HG => ?_
  clear hT T HF
  go_wp2
  refine hK.out _ _ ?_; clear hK K
  show Code.wp _ _ _ _ _
  have HF := HG; clear HG
  refine wp_cond_false (by rfl) ?_
  refine wp_skip ?_
  show Code.wp _ _ _ _ _
  have hrem : Int.tmod ((k : Nat) : Int) 2 = 1 := tm_odd k HK.out
  have HZ4 : Hid ((if true then -((u1 : Nat) : Int) else ((u1 : Nat) : Int)) = (z).num) := Lib.hid (by rw [← HZ1.out]; first | (rw [if_pos rfl]; exact pow_num_odd a z k HZ.out (num_neg.2 ha) HK.out) | (rw [if_neg (by decide)]; exact pow_num_odd a z k HZ.out (num_neg.2 ha) HK.out))
  have su4 : wl (Int.natAbs ((z).num)) ≤ 8192 := by have e := HZ4.out; first | omega | (rw [← e]; split <;> simp <;> omega)
  have HZ5 : Hid (mkRat ((z).num) ((z).den) = z) := Lib.hid (Rat.mkRat_self z)
  have su5 : sz (z) ≤ 8192 := by have e := HZ5.out; first | omega | (rw [← e]; exact sz_mkRat (k := 8192) om om (by decide))
  have lx0 := HF.out.c 0 rfl
  have lx3 := HF.out.c 2 rfl
  have lx4 := HF.out.c 3 rfl
  refine kS fun K hK => ?_
  refine pd 14 [(true, 0), (true, 8), (true, 10), (true, 1), (true, 2), (true, 3), (true, 4), (true, 5), (true, 6), (true, 7), (true, 9), (true, 11), (true, 12), (true, 13)] fun T hT => ?_
  iterate 3 refine tk ?_
  refine ck Tryz.call35 (fun w' hw => fsign_any (a) (-1) _ (by have e9 : (a) < (0 : Rat) := (by first | exact ok | (simp only [← HZ1.out] <;> first | exact ok)); exact sgQ_neg e9)) ?_
  iterate 6 refine tk ?_
  refine ck Tryz.call113 (fun w' hw => from_any true (u1) ((z).num) _ HZ4.out) ?_
  refine ck Tryz.call116 (fun w' hw => ffrom_ok ((z).num) ((z).den) (z) _ (Lib.hid HZ5.out) (by exact (z).den_pos) om om) ?_
  iterate 2 refine tk ?_
  refine nlD hT HF fun vw6 HG => ?_
  clear hT T HF lx0 lx3 lx4
  have lx1 := HG.out.c 1 rfl; have fx1 := HG.out.f 1 rfl
  have r0 := Gr.refl vw6
  go_wp2
  refine hK.out _ _ ?_; clear hK K
  show Code.wp _ _ _ _ _
  clear r0 lx1 fx1
  refine fH (((((((HG.out).put2 1 0 rfl).put2 1 2 rfl).put 1 4 _ rfl).er 3).er 2).er 0) fun Wx12 HF => ?_
  clear HG
  clear hrem
  refine wp_ret ?_
  try simp only [Exit.then, Exit.inBlock]
  have lx1 := HF.out.c 0 rfl
  have r0 := Gr.refl Wx12
  exact bodyPost_ret (v := .tuple #[(.agg #[.int .u64 ((lo (Int.natAbs ((z).num)) : Nat) : Int), .string (bg (Int.natAbs ((z).num))), .bool (decide (((z).num) < 0)), .int .u64 ((lo ((z).den - 1) : Nat) : Int), .string (bg ((z).den - 1))]), .int .i64 0]) (by simp [results, Tryz.results128, go_sem, lx1 _ r0]) rfl ⟨rfl, HF.out.1⟩

set_option maxRecDepth 20000 in
set_option maxHeartbeats 4000000 in
theorem fpow_even (a z : Rat) (k : Nat) (w : World) (HP1 : Hid (k * nb a.num.natAbs ≤ 262144)) (HP2 : Hid (k * nb a.den ≤ 262144)) (HZ : Hid (a ^ k = z)) (hk : k ≤ 4096) (hs : sz a ≤ 8192) (ha : a < 0) (HK : Hid (k % 2 = 0)) :
    Calls Tryz.prog 128 #[(Value.agg #[.int .u64 ((lo (Int.natAbs ((a).num)) : Nat) : Int), .string (bg (Int.natAbs ((a).num))), .bool (decide (((a).num) < 0)), .int .u64 ((lo ((a).den - 1) : Nat) : Int), .string (bg ((a).den - 1))]), .int .i64 (((k : Nat) : Int))] w fun e w' => e = .returned (.tuple #[(.agg #[.int .u64 ((lo (Int.natAbs ((z).num)) : Nat) : Int), .string (bg (Int.natAbs ((z).num))), .bool (decide (((z).num) < 0)), .int .u64 ((lo ((z).den - 1) : Nat) : Int), .string (bg ((z).den - 1))]), .int .i64 0]) ∧ Below w.heap.size w w' := by
  have hn_a : wl (Int.natAbs ((a).num)) ≤ 8192 := Nat.le_trans (sz_num a) hs
  have hd_a : wl ((a).den) ≤ 8192 := Nat.le_trans (sz_den a) hs
  go_enter Tryz.func128, Tryz.ntmps128
  have HF := Lib.hid (hp0 w)
  refine kS fun K hK => ?_
  refine wp_region_lit ?_
  go_wp2
  refine hK.out _ _ ?_; clear hK K
  show Code.wp _ _ _ _ _
  refine fH (((HF.out).al (b := w.heap.size) (by first | rfl | simp) (by decide)).al (b := w.heap.size + 1) (by first | rfl | simp) (by decide)) fun Wx0 HG => ?_
  clear HF; have HF := HG; clear HG
  generalize w.heap.size + 1 = gx1 at *
  refine wp_seq ?_
  refine wp_block ?_
  have hd1 : ¬ ((((k : Nat) : Int)) < -4096) := ok
  have hd2 : ¬ (4096 < (((k : Nat) : Int))) := ok
  refine kS fun K hK => ?_
  refine sq 7 [(true, 0), (true, 1), (true, 2), (true, 3), (true, 4), (true, 5), (true, 6)] fun T hT => ?_
  iterate 7 refine tk ?_
  refine nlS hT HF fun vw1 HG => ?_
  clear hT T HF
  go_wp2
  refine hK.out _ _ ?_; clear hK K
  show Code.wp _ _ _ _ _
  have HF := HG; clear HG
  clear hd1 hd2
  refine wp_cond_false (by rfl) ?_
  have hd3 : ¬ ((((k : Nat) : Int)) < 0) := ok
  have hd4 : ¬ (k < 0) := by have e := hd3; omega
  refine kS fun K hK => ?_
  refine sq 3 [(true, 0), (true, 1), (true, 2)] fun T hT => ?_
  iterate 3 refine tk ?_
  refine nlS hT HF fun vw2 HG => ?_
  clear hT T HF
  go_wp2
  refine hK.out _ _ ?_; clear hK K
  show Code.wp _ _ _ _ _
  have HF := HG; clear HG
  clear hd3 hd4
  refine wp_cond_false (by rfl) ?_
  refine wp_skip ?_
  show Code.wp _ _ _ _ _
  obtain ⟨u1, HZ1⟩ : ∃ z, Hid ((Int.natAbs ((a).num)) ^ k = z) := ⟨_, Lib.hid rfl⟩
  have su1 : wl (u1) ≤ 8192 := by rw [← HZ1.out]; exact wl_pow _ _ (HP1.out)
  have lx0 := HF.out.c 0 rfl
  refine kS fun K hK => ?_
  refine sq 8 [(true, 0), (true, 1), (true, 2), (true, 3), (true, 4), (true, 5), (true, 6), (true, 7)] fun T hT => ?_
  iterate 2 refine tk ?_
  refine ck Tryz.call114 (fun w' hw => abs_any ((a).num) _) ?_
  refine tk ?_
  refine ck Tryz.call170 (fun w' hw => nzpow (Int.natAbs ((a).num)) k (u1) _ HZ1.out (by omega) (HP1.out) om) ?_
  iterate 3 refine tk ?_
  refine nlS hT HF fun vw3 HG => ?_
  clear hT T HF lx0
  go_wp2
  refine hK.out _ _ ?_; clear hK K
  show Code.wp _ _ _ _ _
  refine fH ((HG.out).al (b := vw3.heap.size) (by first | rfl | simp) (by decide)) fun Wx8 HF => ?_
  clear HG
  generalize vw3.heap.size = gx3 at *
  have su2 : wl ((a).den) ≤ 8192 := Nat.le_trans (sz_den _) om
  have sp2 : 0 < (a).den := (a).den_pos
  have HZ3 : Hid (((a).den) ^ k = (z).den) := Lib.hid (by rw [← HZ.out]; rfl)
  have su3 : wl ((z).den) ≤ 8192 := by have e := HZ3.out; first | omega | (rw [← e]; exact wl_pow _ _ (HP2.out))
  have lx0 := HF.out.c 0 rfl
  refine kS fun K hK => ?_
  refine sq 7 [(true, 0), (true, 1), (true, 2), (true, 3), (true, 4), (true, 5), (true, 6)] fun T hT => ?_
  refine tk ?_
  refine ck Tryz.call109 (fun w' hw => fden_any (a) om _) ?_
  refine tk ?_
  refine ck Tryz.call170 (fun w' hw => nzpow ((a).den) k ((z).den) _ HZ3.out (by omega) (HP2.out) om) ?_
  iterate 3 refine tk ?_
  refine nlS hT HF fun vw4 HG => ?_
  clear hT T HF lx0
  go_wp2
  refine hK.out _ _ ?_; clear hK K
  show Code.wp _ _ _ _ _
  refine fH ((HG.out).al (b := vw4.heap.size) (by first | rfl | simp) (by decide)) fun Wx9 HF => ?_
  clear HG
  generalize vw4.heap.size = gx4 at *
  refine wp_seq ?_
  refine kS fun K hK => ?_
  refine sq 6 [(true, 0), (true, 1), (true, 2), (true, 3), (true, 4), (true, 5)] fun T hT => ?_
  iterate 6 refine tk ?_
  refine nlS hT HF fun vw5 HG => ?_
  clear hT T HF
  go_wp2
  refine hK.out _ _ ?_; clear hK K
  show Code.wp _ _ _ _ _
  have HF := HG; clear HG
  refine wp_cond_false (by rfl) ?_
  refine wp_skip ?_
  show Code.wp _ _ _ _ _
  have hrem : Int.tmod ((k : Nat) : Int) 2 = 0 := tm_even k HK.out
  have HZ4 : Hid ((if false then -((u1 : Nat) : Int) else ((u1 : Nat) : Int)) = (z).num) := Lib.hid (by rw [← HZ1.out]; first | (rw [if_pos rfl]; exact pow_num_even a z k HZ.out (num_neg.2 ha) HK.out) | (rw [if_neg (by decide)]; exact pow_num_even a z k HZ.out (num_neg.2 ha) HK.out))
  have su4 : wl (Int.natAbs ((z).num)) ≤ 8192 := by have e := HZ4.out; first | omega | (rw [← e]; split <;> simp <;> omega)
  have HZ5 : Hid (mkRat ((z).num) ((z).den) = z) := Lib.hid (Rat.mkRat_self z)
  have su5 : sz (z) ≤ 8192 := by have e := HZ5.out; first | omega | (rw [← e]; exact sz_mkRat (k := 8192) om om (by decide))
  have lx0 := HF.out.c 0 rfl
  have lx3 := HF.out.c 2 rfl
  have lx4 := HF.out.c 3 rfl
  refine kS fun K hK => ?_
  refine pd 14 [(true, 0), (true, 8), (true, 10), (true, 1), (true, 2), (true, 3), (true, 4), (true, 5), (true, 6), (true, 7), (true, 9), (true, 11), (true, 12), (true, 13)] fun T hT => ?_
  iterate 3 refine tk ?_
  refine ck Tryz.call35 (fun w' hw => fsign_any (a) (-1) _ (by have e9 : (a) < (0 : Rat) := (by first | exact ok | (simp only [← HZ1.out] <;> first | exact ok)); exact sgQ_neg e9)) ?_
  iterate 6 refine tk ?_
  refine ck Tryz.call113 (fun w' hw => from_any false (u1) ((z).num) _ HZ4.out) ?_
  refine ck Tryz.call116 (fun w' hw => ffrom_ok ((z).num) ((z).den) (z) _ (Lib.hid HZ5.out) (by exact (z).den_pos) om om) ?_
  iterate 2 refine tk ?_
  refine nlD hT HF fun vw6 HG => ?_
  clear hT T HF lx0 lx3 lx4
  have lx1 := HG.out.c 1 rfl; have fx1 := HG.out.f 1 rfl
  have r0 := Gr.refl vw6
  go_wp2
  refine hK.out _ _ ?_; clear hK K
  show Code.wp _ _ _ _ _
  clear r0 lx1 fx1
  refine fH (((((((HG.out).put2 1 0 rfl).put2 1 2 rfl).put 1 4 _ rfl).er 3).er 2).er 0) fun Wx12 HF => ?_
  clear HG
  clear hrem
  refine wp_ret ?_
  try simp only [Exit.then, Exit.inBlock]
  have lx1 := HF.out.c 0 rfl
  have r0 := Gr.refl Wx12
  exact bodyPost_ret (v := .tuple #[(.agg #[.int .u64 ((lo (Int.natAbs ((z).num)) : Nat) : Int), .string (bg (Int.natAbs ((z).num))), .bool (decide (((z).num) < 0)), .int .u64 ((lo ((z).den - 1) : Nat) : Int), .string (bg ((z).den - 1))]), .int .i64 0]) (by simp [results, Tryz.results128, go_sem, lx1 _ r0]) rfl ⟨rfl, HF.out.1⟩

set_option maxRecDepth 20000 in
set_option maxHeartbeats 4000000 in
theorem fpow_nn (a z : Rat) (k : Nat) (t : Int) (w : World) (HP1 : Hid (k * nb a.num.natAbs ≤ 262144)) (HP2 : Hid (k * nb a.den ≤ 262144)) (HZ : Hid (a ^ k = z)) (hk : k ≤ 4096) (hs : sz a ≤ 8192) (HA : Hid (0 ≤ a.num)) (HT_ : Hid (sgQ a = t)) (ht : ¬ t < 0) :
    Calls Tryz.prog 128 #[(Value.agg #[.int .u64 ((lo (Int.natAbs ((a).num)) : Nat) : Int), .string (bg (Int.natAbs ((a).num))), .bool (decide (((a).num) < 0)), .int .u64 ((lo ((a).den - 1) : Nat) : Int), .string (bg ((a).den - 1))]), .int .i64 (((k : Nat) : Int))] w fun e w' => e = .returned (.tuple #[(.agg #[.int .u64 ((lo (Int.natAbs ((z).num)) : Nat) : Int), .string (bg (Int.natAbs ((z).num))), .bool (decide (((z).num) < 0)), .int .u64 ((lo ((z).den - 1) : Nat) : Int), .string (bg ((z).den - 1))]), .int .i64 0]) ∧ Below w.heap.size w w' := by
  have hn_a : wl (Int.natAbs ((a).num)) ≤ 8192 := Nat.le_trans (sz_num a) hs
  have hd_a : wl ((a).den) ≤ 8192 := Nat.le_trans (sz_den a) hs
  go_enter Tryz.func128, Tryz.ntmps128
  have HF := Lib.hid (hp0 w)
  refine kS fun K hK => ?_
  refine wp_region_lit ?_
  go_wp2
  refine hK.out _ _ ?_; clear hK K
  show Code.wp _ _ _ _ _
  refine fH (((HF.out).al (b := w.heap.size) (by first | rfl | simp) (by decide)).al (b := w.heap.size + 1) (by first | rfl | simp) (by decide)) fun Wx0 HG => ?_
  clear HF; have HF := HG; clear HG
  generalize w.heap.size + 1 = gx1 at *
  refine wp_seq ?_
  refine wp_block ?_
  have hd1 : ¬ ((((k : Nat) : Int)) < -4096) := ok
  have hd2 : ¬ (4096 < (((k : Nat) : Int))) := ok
  refine kS fun K hK => ?_
  refine sq 7 [(true, 0), (true, 1), (true, 2), (true, 3), (true, 4), (true, 5), (true, 6)] fun T hT => ?_
  iterate 7 refine tk ?_
  refine nlS hT HF fun vw1 HG => ?_
  clear hT T HF
  go_wp2
  refine hK.out _ _ ?_; clear hK K
  show Code.wp _ _ _ _ _
  have HF := HG; clear HG
  clear hd1 hd2
  refine wp_cond_false (by rfl) ?_
  have hd3 : ¬ ((((k : Nat) : Int)) < 0) := ok
  have hd4 : ¬ (k < 0) := by have e := hd3; omega
  refine kS fun K hK => ?_
  refine sq 3 [(true, 0), (true, 1), (true, 2)] fun T hT => ?_
  iterate 3 refine tk ?_
  refine nlS hT HF fun vw2 HG => ?_
  clear hT T HF
  go_wp2
  refine hK.out _ _ ?_; clear hK K
  show Code.wp _ _ _ _ _
  have HF := HG; clear HG
  clear hd3 hd4
  refine wp_cond_false (by rfl) ?_
  refine wp_skip ?_
  show Code.wp _ _ _ _ _
  obtain ⟨u1, HZ1⟩ : ∃ z, Hid ((Int.natAbs ((a).num)) ^ k = z) := ⟨_, Lib.hid rfl⟩
  have su1 : wl (u1) ≤ 8192 := by rw [← HZ1.out]; exact wl_pow _ _ (HP1.out)
  have lx0 := HF.out.c 0 rfl
  refine kS fun K hK => ?_
  refine sq 8 [(true, 0), (true, 1), (true, 2), (true, 3), (true, 4), (true, 5), (true, 6), (true, 7)] fun T hT => ?_
  iterate 2 refine tk ?_
  refine ck Tryz.call114 (fun w' hw => abs_any ((a).num) _) ?_
  refine tk ?_
  refine ck Tryz.call170 (fun w' hw => nzpow (Int.natAbs ((a).num)) k (u1) _ HZ1.out (by omega) (HP1.out) om) ?_
  iterate 3 refine tk ?_
  refine nlS hT HF fun vw3 HG => ?_
  clear hT T HF lx0
  go_wp2
  refine hK.out _ _ ?_; clear hK K
  show Code.wp _ _ _ _ _
  refine fH ((HG.out).al (b := vw3.heap.size) (by first | rfl | simp) (by decide)) fun Wx8 HF => ?_
  clear HG
  generalize vw3.heap.size = gx3 at *
  have su2 : wl ((a).den) ≤ 8192 := Nat.le_trans (sz_den _) om
  have sp2 : 0 < (a).den := (a).den_pos
  have HZ3 : Hid (((a).den) ^ k = (z).den) := Lib.hid (by rw [← HZ.out]; rfl)
  have su3 : wl ((z).den) ≤ 8192 := by have e := HZ3.out; first | omega | (rw [← e]; exact wl_pow _ _ (HP2.out))
  have lx0 := HF.out.c 0 rfl
  refine kS fun K hK => ?_
  refine sq 7 [(true, 0), (true, 1), (true, 2), (true, 3), (true, 4), (true, 5), (true, 6)] fun T hT => ?_
  refine tk ?_
  refine ck Tryz.call109 (fun w' hw => fden_any (a) om _) ?_
  refine tk ?_
  refine ck Tryz.call170 (fun w' hw => nzpow ((a).den) k ((z).den) _ HZ3.out (by omega) (HP2.out) om) ?_
  iterate 3 refine tk ?_
  refine nlS hT HF fun vw4 HG => ?_
  clear hT T HF lx0
  go_wp2
  refine hK.out _ _ ?_; clear hK K
  show Code.wp _ _ _ _ _
  refine fH ((HG.out).al (b := vw4.heap.size) (by first | rfl | simp) (by decide)) fun Wx9 HF => ?_
  clear HG
  generalize vw4.heap.size = gx4 at *
  refine wp_seq ?_
  refine kS fun K hK => ?_
  refine sq 6 [(true, 0), (true, 1), (true, 2), (true, 3), (true, 4), (true, 5)] fun T hT => ?_
  iterate 6 refine tk ?_
  refine nlS hT HF fun vw5 HG => ?_
  clear hT T HF
  go_wp2
  refine hK.out _ _ ?_; clear hK K
  show Code.wp _ _ _ _ _
  have HF := HG; clear HG
  refine wp_cond_false (by rfl) ?_
  refine wp_skip ?_
  show Code.wp _ _ _ _ _
  have hd5 : ¬ (t < 0) := by first | exact ok | (simp only [← HZ1.out] <;> first | exact ok)
  have HZ4 : Hid ((if false then -((u1 : Nat) : Int) else ((u1 : Nat) : Int)) = (z).num) := Lib.hid (by rw [← HZ1.out]; first | (rw [if_pos rfl]; exact pow_num_pos a z k HZ.out HA.out) | (rw [if_neg (by decide)]; exact pow_num_pos a z k HZ.out HA.out))
  have su4 : wl (Int.natAbs ((z).num)) ≤ 8192 := by have e := HZ4.out; first | omega | (rw [← e]; split <;> simp <;> omega)
  have HZ5 : Hid (mkRat ((z).num) ((z).den) = z) := Lib.hid (Rat.mkRat_self z)
  have su5 : sz (z) ≤ 8192 := by have e := HZ5.out; first | omega | (rw [← e]; exact sz_mkRat (k := 8192) om om (by decide))
  have lx0 := HF.out.c 0 rfl
  have lx3 := HF.out.c 2 rfl
  have lx4 := HF.out.c 3 rfl
  refine kS fun K hK => ?_
  refine pd 14 [(true, 0), (true, 8), (true, 10), (true, 1), (true, 2), (true, 3), (true, 4), (true, 5), (true, 6), (true, 7), (true, 9), (true, 11), (true, 12), (true, 13)] fun T hT => ?_
  iterate 3 refine tk ?_
  refine ck Tryz.call35 (fun w' hw => fsign_any (a) (t) _ (HT_.out)) ?_
  iterate 2 refine tk ?_
  iterate 3 refine sk ?_
  refine tk ?_
  refine ck Tryz.call113 (fun w' hw => from_any false (u1) ((z).num) _ HZ4.out) ?_
  refine ck Tryz.call116 (fun w' hw => ffrom_ok ((z).num) ((z).den) (z) _ (Lib.hid HZ5.out) (by exact (z).den_pos) om om) ?_
  iterate 2 refine tk ?_
  refine nlD hT HF fun vw6 HG => ?_
  clear hT T HF lx0 lx3 lx4
  have lx1 := HG.out.c 1 rfl; have fx1 := HG.out.f 1 rfl
  have r0 := Gr.refl vw6
  go_wp2
  refine hK.out _ _ ?_; clear hK K
  show Code.wp _ _ _ _ _
  clear r0 lx1 fx1
  refine fH (((((((HG.out).put2 1 0 rfl).put2 1 2 rfl).put 1 4 _ rfl).er 3).er 2).er 0) fun Wx12 HF => ?_
  clear HG
  clear hd5
  refine wp_ret ?_
  try simp only [Exit.then, Exit.inBlock]
  have lx1 := HF.out.c 0 rfl
  have r0 := Gr.refl Wx12
  exact bodyPost_ret (v := .tuple #[(.agg #[.int .u64 ((lo (Int.natAbs ((z).num)) : Nat) : Int), .string (bg (Int.natAbs ((z).num))), .bool (decide (((z).num) < 0)), .int .u64 ((lo ((z).den - 1) : Nat) : Int), .string (bg ((z).den - 1))]), .int .i64 0]) (by simp [results, Tryz.results128, go_sem, lx1 _ r0]) rfl ⟨rfl, HF.out.1⟩

theorem fpow_ok (a z : Rat) (k : Nat) (w : World) (hz : a ^ k = z) (hk : k ≤ 4096) (h1 : k * nb a.num.natAbs ≤ 262144) (h2 : k * nb a.den ≤ 262144) (hs : sz a ≤ 8192) :
    Calls Tryz.prog 128 #[(Value.agg #[.int .u64 ((lo (Int.natAbs ((a).num)) : Nat) : Int), .string (bg (Int.natAbs ((a).num))), .bool (decide (((a).num) < 0)), .int .u64 ((lo ((a).den - 1) : Nat) : Int), .string (bg ((a).den - 1))]), .int .i64 ((k : Nat) : Int)] w fun e w' => e = .returned (.tuple #[(Value.agg #[.int .u64 ((lo (Int.natAbs ((z).num)) : Nat) : Int), .string (bg (Int.natAbs ((z).num))), .bool (decide (((z).num) < 0)), .int .u64 ((lo ((z).den - 1) : Nat) : Int), .string (bg ((z).den - 1))]), .int .i64 0]) ∧ Below w.heap.size w w' := by
  by_cases ha : a < 0
  · rcases Nat.mod_two_eq_zero_or_one k with h | h
    · exact fpow_even a z k w (Lib.hid h1) (Lib.hid h2) (Lib.hid hz) hk hs ha (Lib.hid h)
    · exact fpow_odd a z k w (Lib.hid h1) (Lib.hid h2) (Lib.hid hz) hk hs ha (Lib.hid h)
  · exact fpow_nn a z k _ w (Lib.hid h1) (Lib.hid h2) (Lib.hid hz) hk hs (Lib.hid (by have h9 : ¬ a.num < 0 := fun e => ha (num_neg.1 e); omega)) (Lib.hid rfl) (sgQ_nneg ha)

end Go.Proofs.YtaflakcemiilaaaGreatDoor


/- fracs.Max of no numbers and of two. -/
namespace Go.Proofs.YtaflakcemiilaaaGreatDoor
open Go.RowKit
set_option linter.unusedSimpArgs false
set_option linter.unusedVariables false
attribute [local go_sem ↓] Go.wp_at_zero Go.wp_at_succ
attribute [local go_sem ↓] eq_nat eq_nat_zero eq_int
end Go.Proofs.YtaflakcemiilaaaGreatDoor
