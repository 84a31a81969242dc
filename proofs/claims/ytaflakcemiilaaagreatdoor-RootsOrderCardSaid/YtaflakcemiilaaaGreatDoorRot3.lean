
/- roots.Exact. -/
import Derived.Test.YtaflakcemiilaaaGreatDoorRotP
import Derived.Test.YtaflakcemiilaaaGreatDoorHp
import Derived.Test.YtaflakcemiilaaaGreatDoorEqQ
namespace Go.Proofs.YtaflakcemiilaaaGreatDoor
open Go.RowKit
set_option linter.unusedSimpArgs false
set_option linter.unusedVariables false
attribute [local go_sem ↓] Go.wp_at_zero Go.wp_at_succ
attribute [local go_sem ↓] eq_nat eq_nat_zero eq_int
attribute [local go_sem ↓] eq_frac eq_frac_zero
set_option maxRecDepth 20000 in
set_option maxHeartbeats 4000000 in
theorem rexact_y (a q : Rat) (n d : Nat) (w : World) (HN : Hid (rt (Int.natAbs ((a).num)) = n)) (HD : Hid (rt (a).den = d)) (HD0 : Hid (0 < d)) (HQ : Hid (mkRat ((n : Nat) : Int) d = q)) (HSQ : Hid (q * q = a)) (hs : sz a ≤ 1000) :
    Calls Tryz.prog 33 #[(Value.agg #[.int .u64 ((lo (Int.natAbs ((a).num)) : Nat) : Int), .string (bg (Int.natAbs ((a).num))), .bool (decide (((a).num) < 0)), .int .u64 ((lo ((a).den - 1) : Nat) : Int), .string (bg ((a).den - 1))])] w fun e w' => e = .returned (.tuple #[(.agg #[.int .u64 ((lo (Int.natAbs ((q).num)) : Nat) : Int), .string (bg (Int.natAbs ((q).num))), .bool (decide (((q).num) < 0)), .int .u64 ((lo ((q).den - 1) : Nat) : Int), .string (bg ((q).den - 1))]), .bool true]) ∧ Below w.heap.size w w' := by
  have hn_a : wl (Int.natAbs ((a).num)) ≤ 1000 := Nat.le_trans (sz_num a) hs
  have hd_a : wl ((a).den) ≤ 1000 := Nat.le_trans (sz_den a) hs
  go_enter Tryz.func33, Tryz.ntmps33
  have HF := Lib.hid (hp0 w)
  refine kS fun K hK => ?_
  refine wp_region_lit ?_
  go_wp2
  refine hK.out _ _ ?_; clear hK K
  show Code.wp _ _ _ _ _
  refine fH (((HF.out).al (b := w.heap.size) (by first | rfl | simp) (by decide)).al (b := w.heap.size + 1) (by first | rfl | simp) (by decide)) fun Wx0 HG => ?_
  clear HF; have HF := HG; clear HG
  generalize w.heap.size + 1 = gx1 at *
  have su1 : wl (Int.natAbs ((a).num)) ≤ 1000 := Nat.le_trans (sz_num _) om
  have HZ2 : Hid (rt (Int.natAbs ((a).num)) = n) := Lib.hid (HN.out)
  have su2 : wl (n) ≤ 1000 := by have e := HZ2.out; first | omega | (rw [← e]; have := wl_mono (rt_self (Int.natAbs ((a).num))); omega)
  have HZ3 : Hid ((if false then -((n : Nat) : Int) else ((n : Nat) : Int)) = ((n : Nat) : Int)) := Lib.hid (by rfl)
  have su3 : wl (Int.natAbs (((n : Nat) : Int))) ≤ 1000 := by have e := HZ3.out; first | omega | (rw [← e]; split <;> simp <;> omega)
  have su4 : wl ((a).den) ≤ 1000 := Nat.le_trans (sz_den _) om
  have sp4 : 0 < (a).den := (a).den_pos
  have HZ5 : Hid (rt ((a).den) = d) := Lib.hid (HD.out)
  have su5 : wl (d) ≤ 1000 := by have e := HZ5.out; first | omega | (rw [← e]; have := wl_mono (rt_self ((a).den)); omega)
  have HZ6 : Hid (mkRat (((n : Nat) : Int)) (d) = q) := Lib.hid (HQ.out)
  have su6 : sz (q) ≤ 1000 := by have e := HZ6.out; first | omega | (rw [← e]; exact sz_mkRat (k := 1000) om om (by decide))
  have lx0 := HF.out.c 0 rfl
  refine kS fun K hK => ?_
  refine wp_region_plan 13 [12] [11] (fun _ => 4) (fun _ => .cells #[.int .u64 0, .string ⟨#[]⟩, .bool false, .int .u64 0, .string ⟨#[]⟩] 36) [(true, 0), (true, 5), (true, 1), (true, 2), (true, 3), (true, 4), (true, 6), (true, 7), (true, 8), (true, 9), (true, 10), (true, 11)] (by kernel_rfl) (by kernel_rfl) (by intro i hi; simp only [List.mem_cons, List.not_mem_nil, or_false] at hi; rcases hi with rfl <;> exact ⟨_, rfl, rfl, rfl, by simp, fun ρ w => by kernel_rfl⟩) (by intro i hi; simp only [List.mem_cons, List.not_mem_nil, or_false] at hi; rcases hi with rfl <;> exact ⟨_, rfl, pure_extract⟩) (fun _ _ _ _ _ h => h) (fun T hT => ?_)
  iterate 2 refine tk ?_
  refine ck Tryz.call118 (fun w' hw => fnum_any (a) _) ?_
  refine ck Tryz.call114 (fun w' hw => abs_any ((a).num) _) ?_
  refine ck Tryz.call117 (fun w' hw => nzsqrt (Int.natAbs ((a).num)) (n) _ HZ2.out om) ?_
  refine ck Tryz.call113 (fun w' hw => from_any false (n) (((n : Nat) : Int)) _ HZ3.out) ?_
  refine ck Tryz.call119 (fun w' hw => fDen_any (a) _ om) ?_
  refine ck Tryz.call117 (fun w' hw => nzsqrt ((a).den) (d) _ HZ5.out om) ?_
  refine ck Tryz.call116 (fun w' hw => ffrom_ok (((n : Nat) : Int)) (d) (q) _ (Lib.hid HZ6.out) (by exact HD0.out) om om) ?_
  iterate 3 refine tk ?_
  refine wpPlan_nil (hT.out _ _ ?_)
  intro G vw1 hg hf
  simp only [puts, Act.put, lA, lB, lC, lD, lE, ↓reduceIte, Nat.reduceEqDiff]
  have HG := Lib.hid (HF.out.fr hg hf (zs := [(#[.int .u64 0, .string ⟨#[]⟩, .bool false, .int .u64 0, .string ⟨#[]⟩], 36)]) rfl (by decide) (by decide))
  simp only [List.zip_cons_cons, List.zip_nil_right, List.map_cons, List.map_nil, lF, lG] at HG
  clear hT T HF hg hf lx0
  generalize G 12 = gx3 at *
  have lx3 := HG.out.c 2 rfl; have fx3 := HG.out.f 2 rfl
  have r0 := Gr.refl vw1
  go_wp2
  refine hK.out _ _ ?_; clear hK K
  show Code.wp _ _ _ _ _
  clear r0 lx3 fx3
  refine fH ((((HG.out).put2 2 0 rfl).put2 2 2 rfl).put 2 4 _ rfl) fun Wx1 HF => ?_
  clear HG
  refine wp_seq ?_
  have HZ7 : Hid ((q) * (q) = a) := Lib.hid (HSQ.out)
  have su7 : sz (a) ≤ 2000 := by have e := HZ7.out; first | omega | (rw [← e]; have := sz_mul (q) (q); omega)
  have lx0 := HF.out.c 0 rfl
  have lx3 := HF.out.c 2 rfl
  refine kS fun K hK => ?_
  refine pd 3 [(true, 0), (true, 2), (true, 1)] fun T hT => ?_
  iterate 2 refine tk ?_
  refine ck Tryz.call37 (fun w' hw => fsquare_any (q) (a) _ (Lib.hid HZ7.out) om) ?_
  refine nlD hT HF fun vw2 HG => ?_
  clear hT T HF lx0 lx3
  go_wp2
  refine hK.out _ _ ?_; clear hK K
  show Code.wp _ _ _ _ _
  refine fH ((HG.out).er 0) fun Wx2 HF => ?_
  clear HG
  refine wp_cond_false (by rfl) ?_
  refine wp_skip ?_
  show Code.wp _ _ _ _ _
  have lx3 := HF.out.c 1 rfl
  refine kS fun K hK => ?_
  refine sq 1 [(true, 0)] fun T hT => ?_
  refine tk ?_
  refine nlS hT HF fun vw3 HG => ?_
  clear hT T HF lx3
  have lx1 := HG.out.c 0 rfl; have fx1 := HG.out.f 0 rfl
  have r0 := Gr.refl vw3
  go_wp2
  refine hK.out _ _ ?_; clear hK K
  show Code.wp _ _ _ _ _
  clear r0 lx1 fx1
  refine fH (((((HG.out).put2 0 0 rfl).put2 0 2 rfl).put 0 4 _ rfl).er 1) fun Wx4 HF => ?_
  clear HG
  refine wp_ret ?_
  try simp only [Exit.then, Exit.inBlock]
  have lx1 := HF.out.c 0 rfl
  have r0 := Gr.refl Wx4
  exact bodyPost_ret (v := .tuple #[(.agg #[.int .u64 ((lo (Int.natAbs ((q).num)) : Nat) : Int), .string (bg (Int.natAbs ((q).num))), .bool (decide (((q).num) < 0)), .int .u64 ((lo ((q).den - 1) : Nat) : Int), .string (bg ((q).den - 1))]), .bool true]) (by simp [results, Tryz.results33, go_sem, lx1 _ r0]) rfl ⟨rfl, HF.out.1⟩

set_option maxRecDepth 20000 in
set_option maxHeartbeats 4000000 in
theorem rexact_n (a q : Rat) (n d : Nat) (w : World) (HN : Hid (rt (Int.natAbs ((a).num)) = n)) (HD : Hid (rt (a).den = d)) (HD0 : Hid (0 < d)) (HQ : Hid (mkRat ((n : Nat) : Int) d = q)) (HSQ : Hid (¬ q * q = a)) (hs : sz a ≤ 1000) :
    Calls Tryz.prog 33 #[(Value.agg #[.int .u64 ((lo (Int.natAbs ((a).num)) : Nat) : Int), .string (bg (Int.natAbs ((a).num))), .bool (decide (((a).num) < 0)), .int .u64 ((lo ((a).den - 1) : Nat) : Int), .string (bg ((a).den - 1))])] w fun e w' => e = .returned ((.tuple #[(.agg #[.int .u64 0, .string ⟨#[]⟩, .bool false, .int .u64 0, .string ⟨#[]⟩]), .bool false])) ∧ Below w.heap.size w w' := by
  have hn_a : wl (Int.natAbs ((a).num)) ≤ 1000 := Nat.le_trans (sz_num a) hs
  have hd_a : wl ((a).den) ≤ 1000 := Nat.le_trans (sz_den a) hs
  go_enter Tryz.func33, Tryz.ntmps33
  have HF := Lib.hid (hp0 w)
  refine kS fun K hK => ?_
  refine wp_region_lit ?_
  go_wp2
  refine hK.out _ _ ?_; clear hK K
  show Code.wp _ _ _ _ _
  refine fH (((HF.out).al (b := w.heap.size) (by first | rfl | simp) (by decide)).al (b := w.heap.size + 1) (by first | rfl | simp) (by decide)) fun Wx0 HG => ?_
  clear HF; have HF := HG; clear HG
  generalize w.heap.size + 1 = gx1 at *
  have su1 : wl (Int.natAbs ((a).num)) ≤ 1000 := Nat.le_trans (sz_num _) om
  have HZ2 : Hid (rt (Int.natAbs ((a).num)) = n) := Lib.hid (HN.out)
  have su2 : wl (n) ≤ 1000 := by have e := HZ2.out; first | omega | (rw [← e]; have := wl_mono (rt_self (Int.natAbs ((a).num))); omega)
  have HZ3 : Hid ((if false then -((n : Nat) : Int) else ((n : Nat) : Int)) = ((n : Nat) : Int)) := Lib.hid (by rfl)
  have su3 : wl (Int.natAbs (((n : Nat) : Int))) ≤ 1000 := by have e := HZ3.out; first | omega | (rw [← e]; split <;> simp <;> omega)
  have su4 : wl ((a).den) ≤ 1000 := Nat.le_trans (sz_den _) om
  have sp4 : 0 < (a).den := (a).den_pos
  have HZ5 : Hid (rt ((a).den) = d) := Lib.hid (HD.out)
  have su5 : wl (d) ≤ 1000 := by have e := HZ5.out; first | omega | (rw [← e]; have := wl_mono (rt_self ((a).den)); omega)
  have HZ6 : Hid (mkRat (((n : Nat) : Int)) (d) = q) := Lib.hid (HQ.out)
  have su6 : sz (q) ≤ 1000 := by have e := HZ6.out; first | omega | (rw [← e]; exact sz_mkRat (k := 1000) om om (by decide))
  have lx0 := HF.out.c 0 rfl
  refine kS fun K hK => ?_
  refine wp_region_plan 13 [12] [11] (fun _ => 4) (fun _ => .cells #[.int .u64 0, .string ⟨#[]⟩, .bool false, .int .u64 0, .string ⟨#[]⟩] 36) [(true, 0), (true, 5), (true, 1), (true, 2), (true, 3), (true, 4), (true, 6), (true, 7), (true, 8), (true, 9), (true, 10), (true, 11)] (by kernel_rfl) (by kernel_rfl) (by intro i hi; simp only [List.mem_cons, List.not_mem_nil, or_false] at hi; rcases hi with rfl <;> exact ⟨_, rfl, rfl, rfl, by simp, fun ρ w => by kernel_rfl⟩) (by intro i hi; simp only [List.mem_cons, List.not_mem_nil, or_false] at hi; rcases hi with rfl <;> exact ⟨_, rfl, pure_extract⟩) (fun _ _ _ _ _ h => h) (fun T hT => ?_)
  iterate 2 refine tk ?_
  refine ck Tryz.call118 (fun w' hw => fnum_any (a) _) ?_
  refine ck Tryz.call114 (fun w' hw => abs_any ((a).num) _) ?_
  refine ck Tryz.call117 (fun w' hw => nzsqrt (Int.natAbs ((a).num)) (n) _ HZ2.out om) ?_
  refine ck Tryz.call113 (fun w' hw => from_any false (n) (((n : Nat) : Int)) _ HZ3.out) ?_
  refine ck Tryz.call119 (fun w' hw => fDen_any (a) _ om) ?_
  refine ck Tryz.call117 (fun w' hw => nzsqrt ((a).den) (d) _ HZ5.out om) ?_
  refine ck Tryz.call116 (fun w' hw => ffrom_ok (((n : Nat) : Int)) (d) (q) _ (Lib.hid HZ6.out) (by exact HD0.out) om om) ?_
  iterate 3 refine tk ?_
  refine wpPlan_nil (hT.out _ _ ?_)
  intro G vw1 hg hf
  simp only [puts, Act.put, lA, lB, lC, lD, lE, ↓reduceIte, Nat.reduceEqDiff]
  have HG := Lib.hid (HF.out.fr hg hf (zs := [(#[.int .u64 0, .string ⟨#[]⟩, .bool false, .int .u64 0, .string ⟨#[]⟩], 36)]) rfl (by decide) (by decide))
  simp only [List.zip_cons_cons, List.zip_nil_right, List.map_cons, List.map_nil, lF, lG] at HG
  clear hT T HF hg hf lx0
  generalize G 12 = gx3 at *
  have lx3 := HG.out.c 2 rfl; have fx3 := HG.out.f 2 rfl
  have r0 := Gr.refl vw1
  go_wp2
  refine hK.out _ _ ?_; clear hK K
  show Code.wp _ _ _ _ _
  clear r0 lx3 fx3
  refine fH ((((HG.out).put2 2 0 rfl).put2 2 2 rfl).put 2 4 _ rfl) fun Wx1 HF => ?_
  clear HG
  refine wp_seq ?_
  obtain ⟨u7, HZ7⟩ : ∃ z, Hid ((q) * (q) = z) := ⟨_, Lib.hid rfl⟩
  have su7 : sz (u7) ≤ 2000 := by rw [← HZ7.out]; have := sz_mul (q) (q); omega
  have lx0 := HF.out.c 0 rfl
  have lx3 := HF.out.c 2 rfl
  refine kS fun K hK => ?_
  refine pd 3 [(true, 0), (true, 2), (true, 1)] fun T hT => ?_
  iterate 2 refine tk ?_
  refine ck Tryz.call37 (fun w' hw => fsquare_any (q) (u7) _ (Lib.hid HZ7.out) om) ?_
  refine nlD hT HF fun vw2 HG => ?_
  clear hT T HF lx0 lx3
  have hd1 : decide (u7 = a) = false := decide_eq_false (by first | exact ok | exact HSQ.out | (simp only [← HZ7.out] <;> first | exact ok | exact HSQ.out))
  go_wp2
  refine hK.out _ _ ?_; clear hK K
  show Code.wp _ _ _ _ _
  refine fH ((HG.out).er 0) fun Wx2 HF => ?_
  clear HG
  clear hd1
  refine wp_cond_true (by rfl) ?_
  refine kS fun K hK => ?_
  refine sq 1 [(true, 0)] fun T hT => ?_
  refine tk ?_
  refine nlS hT HF fun vw3 HG => ?_
  clear hT T HF
  have lx1 := HG.out.c 0 rfl; have fx1 := HG.out.f 0 rfl
  have r0 := Gr.refl vw3
  go_wp2
  refine hK.out _ _ ?_; clear hK K
  show Code.wp _ _ _ _ _
  clear r0 lx1 fx1
  refine fH ((((HG.out).put2 0 0 rfl).put2 0 2 rfl).put 0 4 _ rfl) fun Wx3 HF => ?_
  clear HG
  refine wp_ret ?_
  try simp only [Exit.then, Exit.inBlock]
  have lx1 := HF.out.c 0 rfl
  have r0 := Gr.refl Wx3
  exact bodyPost_ret (v := .tuple #[(.agg #[.int .u64 0, .string ⟨#[]⟩, .bool false, .int .u64 0, .string ⟨#[]⟩]), .bool false]) (by simp [results, Tryz.results33, go_sem, lx1 _ r0]) rfl ⟨rfl, HF.out.1⟩

theorem sz_exq {a : Rat} {M : Nat} (h : sz a ≤ M) : sz (exq a) ≤ M := by
  unfold exq
  have h1 := wl_mono (rt_self (Int.natAbs a.num))
  have h2 := wl_mono (rt_self a.den)
  have h3 := sz_num a
  have h4 := sz_den a
  exact sz_mkRat (by rw [Int.natAbs_natCast]; omega) (by omega) (Nat.le_trans (sz_pos a) h)
theorem zexact_y (a q : Rat) (w : World) (hq : exq a = q) (h : q * q = a) (hs : sz a ≤ 1000) :
    Calls Tryz.prog 33 #[(Value.agg #[.int .u64 ((lo (Int.natAbs ((a).num)) : Nat) : Int), .string (bg (Int.natAbs ((a).num))), .bool (decide (((a).num) < 0)), .int .u64 ((lo ((a).den - 1) : Nat) : Int), .string (bg ((a).den - 1))])] w fun e w' => e = .returned (.tuple #[(Value.agg #[.int .u64 ((lo (Int.natAbs ((q).num)) : Nat) : Int), .string (bg (Int.natAbs ((q).num))), .bool (decide (((q).num) < 0)), .int .u64 ((lo ((q).den - 1) : Nat) : Int), .string (bg ((q).den - 1))]), .bool true]) ∧ Below w.heap.size w w' :=
  rexact_y a q _ _ w (Lib.hid rfl) (Lib.hid rfl) (Lib.hid (rt_pos a.den_pos)) (Lib.hid hq) (Lib.hid h) hs
theorem zexact_n (a q : Rat) (w : World) (hq : exq a = q) (h : ¬ q * q = a) (hs : sz a ≤ 1000) :
    Calls Tryz.prog 33 #[(Value.agg #[.int .u64 ((lo (Int.natAbs ((a).num)) : Nat) : Int), .string (bg (Int.natAbs ((a).num))), .bool (decide (((a).num) < 0)), .int .u64 ((lo ((a).den - 1) : Nat) : Int), .string (bg ((a).den - 1))])] w fun e w' => e = .returned (.tuple #[(Value.agg #[.int .u64 ((lo (Int.natAbs (((0 : Rat)).num)) : Nat) : Int), .string (bg (Int.natAbs (((0 : Rat)).num))), .bool (decide ((((0 : Rat)).num) < 0)), .int .u64 ((lo (((0 : Rat)).den - 1) : Nat) : Int), .string (bg (((0 : Rat)).den - 1))]), .bool false]) ∧ Below w.heap.size w w' :=
  rexact_n a q _ _ w (Lib.hid rfl) (Lib.hid rfl) (Lib.hid (rt_pos a.den_pos)) (Lib.hid hq) (Lib.hid h) hs

end Go.Proofs.YtaflakcemiilaaaGreatDoor
