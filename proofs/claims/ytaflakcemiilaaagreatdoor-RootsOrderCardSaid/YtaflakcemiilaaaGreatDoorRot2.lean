
/- roots: told, Below, Above. -/
import Derived.Test.YtaflakcemiilaaaGreatDoorRotP
import Derived.Test.YtaflakcemiilaaaGreatDoorPV
import Derived.Test.YtaflakcemiilaaaGreatDoorEqQ
namespace Go.Proofs.YtaflakcemiilaaaGreatDoor
open Go.RowKit
set_option linter.unusedSimpArgs false
set_option linter.unusedVariables false
attribute [local go_sem ↓] Go.wp_at_zero Go.wp_at_succ
attribute [local go_sem ↓] eq_nat eq_nat_zero eq_int
attribute [local go_sem ↓] eq_frac eq_frac_zero
set_option maxRecDepth 20000 in
set_option maxHeartbeats 4000000 in
theorem rroot0 (a y x : Rat) (p t z : Nat) (f : Int) (w : World) (HTT : Hid (p * p = t)) (HY : Hid ((((t : Nat) : Int) : Rat) = y)) (HX : Hid (a * y = x)) (HFL : Hid (x.floor = f)) (HZ : Hid (rt (Int.natAbs (f)) = z)) (hs : sz a ≤ 3000) (hwp : wl p ≤ 10) (hsy : sz y ≤ 20) :
    Calls Tryz.prog 190 #[(Value.agg #[.int .u64 ((lo (Int.natAbs ((a).num)) : Nat) : Int), .string (bg (Int.natAbs ((a).num))), .bool (decide (((a).num) < 0)), .int .u64 ((lo ((a).den - 1) : Nat) : Int), .string (bg ((a).den - 1)), .int .u64 ((lo (p) : Nat) : Int), .string (bg (p))])] w fun e w' => e = .returned (.agg #[.int .u64 ((lo (z) : Nat) : Int), .string (bg (z))]) ∧ Below w.heap.size w w' := by
  go_enter Tryz.func190, Tryz.ntmps190
  have HF := Lib.hid (hp0 w)
  refine kS fun K hK => ?_
  refine wp_region_lit ?_
  go_wp2
  refine hK.out _ _ ?_; clear hK K
  show Code.wp _ _ _ _ _
  refine fH (((HF.out).al (b := w.heap.size) (by first | rfl | simp) (by decide)).al (b := w.heap.size + 1) (by first | rfl | simp) (by decide)) fun Wx0 HG => ?_
  clear HF; have HF := HG; clear HG
  generalize w.heap.size + 1 = gx1 at *
  have HZ1 : Hid ((p) * (p) = t) := Lib.hid (HTT.out)
  have su1 : wl (t) ≤ 20 := by have e := HZ1.out; first | omega | (rw [← e]; have := wl_mul (p) (p); omega)
  have HZ2 : Hid ((if false then -((t : Nat) : Int) else ((t : Nat) : Int)) = ((t : Nat) : Int)) := Lib.hid (by rfl)
  have su2 : wl (Int.natAbs (((t : Nat) : Int))) ≤ 20 := by have e := HZ2.out; first | omega | (rw [← e]; split <;> simp <;> omega)
  have su_0_1 : wl 1 ≤ 1 := wl_le.2 (by decide +kernel)
  have HZ3 : Hid (mkRat (((t : Nat) : Int)) (1) = y) := Lib.hid (by rw [mk_one]; exact HY.out)
  have su3 : sz (y) ≤ 20 := by have e := HZ3.out; first | omega | (rw [← e]; exact sz_mkRat (k := 20) om om (by decide))
  have lx0 := HF.out.c 0 rfl
  refine kS fun K hK => ?_
  refine sq 11 [(true, 0), (true, 1), (true, 2), (true, 3), (true, 4), (true, 5), (true, 6), (true, 7), (true, 8), (true, 9), (true, 10)] fun T hT => ?_
  iterate 4 refine tk ?_
  refine ck Tryz.call112 (fun w' hw => nzmul (p) (p) (t) _ HZ1.out om om) ?_
  refine ck Tryz.call113 (fun w' hw => from_any false (t) (((t : Nat) : Int)) _ HZ2.out) ?_
  refine ck Tryz.call124 (fun w' hw => nzof 1 _ (by decide)) ?_
  refine ck Tryz.call116 (fun w' hw => ffrom_ok (((t : Nat) : Int)) (1) (y) _ (Lib.hid HZ3.out) (ok) om om) ?_
  iterate 3 refine tk ?_
  refine nlS hT HF fun vw1 HG => ?_
  clear hT T HF lx0
  go_wp2
  refine hK.out _ _ ?_; clear hK K
  show Code.wp _ _ _ _ _
  refine fH ((HG.out).al (b := vw1.heap.size) (by first | rfl | simp) (by decide)) fun Wx1 HF => ?_
  clear HG
  generalize vw1.heap.size = gx3 at *
  have HZ4 : Hid ((a) * (y) = x) := Lib.hid (HX.out)
  have su4 : sz (x) ≤ 3020 := by have e := HZ4.out; first | omega | (rw [← e]; have := sz_mul (a) (y); omega)
  have HZ5 : Hid ((x).floor = f) := Lib.hid (HFL.out)
  have su5 : wl (Int.natAbs (f)) ≤ 3021 := by have e := HZ5.out; first | omega | (rw [← e]; have := wl_floor (x); omega)
  have HZ6 : Hid (rt (Int.natAbs (f)) = z) := Lib.hid (HZ.out)
  have su6 : wl (z) ≤ 3021 := by have e := HZ6.out; first | omega | (rw [← e]; have := wl_mono (rt_self (Int.natAbs (f))); omega)
  have lx0 := HF.out.c 0 rfl
  have lx3 := HF.out.c 2 rfl
  refine kS fun K hK => ?_
  refine sq 7 [(true, 0), (true, 1), (true, 2), (true, 3), (true, 4), (true, 5), (true, 6)] fun T hT => ?_
  iterate 3 refine tk ?_
  refine ck Tryz.call39 (fun w' hw => fmul_any (a) (y) (x) _ HZ4.out om om) ?_
  refine ck Tryz.call136 (fun w' hw => ffloor_any (x) (f) _ (Lib.hid HZ5.out) om) ?_
  refine ck Tryz.call114 (fun w' hw => abs_any (f) _) ?_
  refine ck Tryz.call117 (fun w' hw => nzsqrt (Int.natAbs (f)) (z) _ HZ6.out om) ?_
  refine nlS hT HF fun vw2 HG => ?_
  clear hT T HF lx0 lx3
  have lx1 := HG.out.c 1 rfl; have fx1 := HG.out.f 1 rfl
  have r0 := Gr.refl vw2
  go_wp2
  refine hK.out _ _ ?_; clear hK K
  show Code.wp _ _ _ _ _
  clear r0 lx1 fx1
  refine fH ((((HG.out).put2 1 0 rfl).er 2).er 0) fun Wx2 HF => ?_
  clear HG
  refine wp_ret ?_
  try simp only [Exit.then, Exit.inBlock]
  have lx1 := HF.out.c 0 rfl
  have r0 := Gr.refl Wx2
  exact bodyPost_ret (v := .agg #[.int .u64 ((lo (z) : Nat) : Int), .string (bg (z))]) (by simp [results, Tryz.results190, go_sem, lx1 _ r0]) rfl ⟨rfl, HF.out.1⟩

theorem wl_two {k : Nat} (h : k ≤ 100) : wl (2 ^ k) ≤ 4 := Nat.le_trans (wl_mono (Nat.pow_le_pow_right (by decide) h)) (wl_le.2 (by decide +kernel))
theorem sz_two {k : Nat} (h : k ≤ 100) : sz (((2 ^ k * 2 ^ k : Nat) : Int) : Rat) ≤ 8 := by
  rw [sz_int, Int.natAbs_natCast]
  have h1 := wl_mul (2 ^ k) (2 ^ k)
  have h2 := wl_two h
  omega
theorem wl_rbn {a : Rat} {k M : Nat} (hk : k ≤ 100) (h : sz a ≤ M) : wl (rbn a k) ≤ M + 9 := by
  unfold rbn
  have h1 := wl_mono (rt_self (Int.natAbs ((a * (((2 ^ k * 2 ^ k : Nat) : Int) : Rat)).floor)))
  have h2 := wl_floor (a * (((2 ^ k * 2 ^ k : Nat) : Int) : Rat))
  have h3 := sz_mul a (((2 ^ k * 2 ^ k : Nat) : Int) : Rat)
  have h4 := sz_two hk
  omega
theorem rroot (a : Rat) (k p z : Nat) (w : World) (hp : 2 ^ k = p) (hz : rbn a k = z) (hk : k ≤ 100) (hs : sz a ≤ 3000) :
    Calls Tryz.prog 190 #[.agg #[.int .u64 ((lo (Int.natAbs ((a).num)) : Nat) : Int), .string (bg (Int.natAbs ((a).num))), .bool (decide (((a).num) < 0)), .int .u64 ((lo ((a).den - 1) : Nat) : Int), .string (bg ((a).den - 1)), .int .u64 ((lo (p) : Nat) : Int), .string (bg (p))]] w fun e w' => e = .returned (Value.agg #[.int .u64 ((lo (z) : Nat) : Int), .string (bg (z))]) ∧ Below w.heap.size w w' := by
  subst hp
  have h1 := wl_two hk
  exact rroot0 a _ _ _ _ z _ w (Lib.hid rfl) (Lib.hid rfl) (Lib.hid rfl) (Lib.hid rfl) (Lib.hid hz) hs (by omega) (Nat.le_trans (sz_two hk) (by decide))

set_option maxRecDepth 20000 in
set_option maxHeartbeats 4000000 in
theorem rby0 (a z : Rat) (p n : Nat) (w : World) (HZ : Hid (mkRat ((n : Nat) : Int) p = z)) (HP0 : Hid (0 < p)) (hwn : wl n ≤ 3100) (hwp : wl p ≤ 10) :
    Calls Tryz.prog 189 #[(Value.agg #[.int .u64 ((lo (Int.natAbs ((a).num)) : Nat) : Int), .string (bg (Int.natAbs ((a).num))), .bool (decide (((a).num) < 0)), .int .u64 ((lo ((a).den - 1) : Nat) : Int), .string (bg ((a).den - 1)), .int .u64 ((lo (p) : Nat) : Int), .string (bg (p))]), (Value.agg #[.int .u64 ((lo (n) : Nat) : Int), .string (bg (n))])] w fun e w' => e = .returned (.agg #[.int .u64 ((lo (Int.natAbs ((z).num)) : Nat) : Int), .string (bg (Int.natAbs ((z).num))), .bool (decide (((z).num) < 0)), .int .u64 ((lo ((z).den - 1) : Nat) : Int), .string (bg ((z).den - 1))]) ∧ Below w.heap.size w w' := by
  have hwi : wl (Int.natAbs ((n : Nat) : Int)) ≤ 3100 := by rw [Int.natAbs_natCast]; exact hwn
  go_enter Tryz.func189, Tryz.ntmps189
  have HF := Lib.hid (hp0 w)
  refine kS fun K hK => ?_
  refine wp_region_lit ?_
  go_wp2
  refine hK.out _ _ ?_; clear hK K
  show Code.wp _ _ _ _ _
  refine fH ((((HF.out).al (b := w.heap.size) (by first | rfl | simp) (by decide)).al (b := w.heap.size + 1) (by first | rfl | simp) (by decide)).al (b := w.heap.size + 1 + 1) (by first | rfl | simp) (by decide)) fun Wx0 HG => ?_
  clear HF; have HF := HG; clear HG
  generalize w.heap.size + 1 + 1 = gx2 at *
  generalize w.heap.size + 1 = gx1 at *
  have HZ1 : Hid ((if false then -((n : Nat) : Int) else ((n : Nat) : Int)) = ((n : Nat) : Int)) := Lib.hid (by rfl)
  have su1 : wl (Int.natAbs (((n : Nat) : Int))) ≤ 3100 := by have e := HZ1.out; first | omega | (rw [← e]; split <;> simp <;> omega)
  have HZ2 : Hid (mkRat (((n : Nat) : Int)) (p) = z) := Lib.hid (HZ.out)
  have su2 : sz (z) ≤ 3100 := by have e := HZ2.out; first | omega | (rw [← e]; exact sz_mkRat (k := 3100) om om (by decide))
  have lx0 := HF.out.c 0 rfl
  have lx1 := HF.out.c 1 rfl
  refine kS fun K hK => ?_
  refine wp_region_plan 9 [8] [7] (fun _ => 5) (fun _ => .cells #[.int .u64 0, .string ⟨#[]⟩, .bool false, .int .u64 0, .string ⟨#[]⟩] 36) [(true, 0), (true, 2), (true, 3), (true, 1), (true, 4), (true, 5), (true, 6), (true, 7)] (by kernel_rfl) (by kernel_rfl) (by intro i hi; simp only [List.mem_cons, List.not_mem_nil, or_false] at hi; rcases hi with rfl <;> exact ⟨_, rfl, rfl, rfl, by simp, fun ρ w => by kernel_rfl⟩) (by intro i hi; simp only [List.mem_cons, List.not_mem_nil, or_false] at hi; rcases hi with rfl <;> exact ⟨_, rfl, pure_extract⟩) (fun _ _ _ _ _ h => h) (fun T hT => ?_)
  iterate 3 refine tk ?_
  refine ck Tryz.call113 (fun w' hw => from_any false (n) (((n : Nat) : Int)) _ HZ1.out) ?_
  refine ck Tryz.call116 (fun w' hw => ffrom_ok (((n : Nat) : Int)) (p) (z) _ (Lib.hid HZ2.out) (by exact HP0.out) om om) ?_
  iterate 3 refine tk ?_
  refine wpPlan_nil (hT.out _ _ ?_)
  intro G vw1 hg hf
  simp only [puts, Act.put, lA, lB, lC, lD, lE, ↓reduceIte, Nat.reduceEqDiff]
  have HG := Lib.hid (HF.out.fr hg hf (zs := [(#[.int .u64 0, .string ⟨#[]⟩, .bool false, .int .u64 0, .string ⟨#[]⟩], 36)]) rfl (by decide) (by decide))
  simp only [List.zip_cons_cons, List.zip_nil_right, List.map_cons, List.map_nil, lF, lG] at HG
  clear hT T HF hg hf lx0 lx1
  generalize G 8 = gx4 at *
  have lx4 := HG.out.c 3 rfl; have fx4 := HG.out.f 3 rfl
  have r0 := Gr.refl vw1
  go_wp2
  refine hK.out _ _ ?_; clear hK K
  show Code.wp _ _ _ _ _
  clear r0 lx4 fx4
  refine fH ((((((HG.out).put2 3 0 rfl).put2 3 2 rfl).put 3 4 _ rfl).er 1).er 0) fun Wx1 HF => ?_
  clear HG
  have lx4 := HF.out.c 1 rfl
  refine kS fun K hK => ?_
  refine sq 1 [(true, 0)] fun T hT => ?_
  refine tk ?_
  refine nlS hT HF fun vw2 HG => ?_
  clear hT T HF lx4
  have lx2 := HG.out.c 0 rfl; have fx2 := HG.out.f 0 rfl
  have r0 := Gr.refl vw2
  go_wp2
  refine hK.out _ _ ?_; clear hK K
  show Code.wp _ _ _ _ _
  clear r0 lx2 fx2
  refine fH (((((HG.out).put2 0 0 rfl).put2 0 2 rfl).put 0 4 _ rfl).er 1) fun Wx2 HF => ?_
  clear HG
  refine wp_ret ?_
  try simp only [Exit.then, Exit.inBlock]
  have lx2 := HF.out.c 0 rfl
  have r0 := Gr.refl Wx2
  exact bodyPost_ret (v := .agg #[.int .u64 ((lo (Int.natAbs ((z).num)) : Nat) : Int), .string (bg (Int.natAbs ((z).num))), .bool (decide (((z).num) < 0)), .int .u64 ((lo ((z).den - 1) : Nat) : Int), .string (bg ((z).den - 1))]) (by simp [results, Tryz.results189, go_sem, lx2 _ r0]) rfl ⟨rfl, HF.out.1⟩

set_option maxRecDepth 20000 in
set_option maxHeartbeats 4000000 in
theorem rbelow0 (a z : Rat) (k p n : Nat) (w : World) (HN : Hid (rbn a k = n)) (HZ : Hid (mkRat ((n : Nat) : Int) p = z)) (HP : Hid (2 ^ k = p)) (hk : k ≤ 100) (hs : sz a ≤ 2000) (hwp : wl p ≤ 10) :
    Calls Tryz.prog 93 #[(Value.agg #[.int .u64 ((lo (Int.natAbs ((a).num)) : Nat) : Int), .string (bg (Int.natAbs ((a).num))), .bool (decide (((a).num) < 0)), .int .u64 ((lo ((a).den - 1) : Nat) : Int), .string (bg ((a).den - 1)), .int .u64 ((lo (p) : Nat) : Int), .string (bg (p))])] w fun e w' => e = .returned (.agg #[.int .u64 ((lo (Int.natAbs ((z).num)) : Nat) : Int), .string (bg (Int.natAbs ((z).num))), .bool (decide (((z).num) < 0)), .int .u64 ((lo ((z).den - 1) : Nat) : Int), .string (bg ((z).den - 1))]) ∧ Below w.heap.size w w' := by
  go_enter Tryz.func93, Tryz.ntmps93
  have HF := Lib.hid (hp0 w)
  refine kS fun K hK => ?_
  refine wp_region_lit ?_
  go_wp2
  refine hK.out _ _ ?_; clear hK K
  show Code.wp _ _ _ _ _
  refine fH (((HF.out).al (b := w.heap.size) (by first | rfl | simp) (by decide)).al (b := w.heap.size + 1) (by first | rfl | simp) (by decide)) fun Wx0 HG => ?_
  clear HF; have HF := HG; clear HG
  generalize w.heap.size + 1 = gx1 at *
  have HZ1 : Hid (rbn (a) k = n) := Lib.hid (HN.out)
  have su1 : wl (n) ≤ 2009 := by have e := HZ1.out; first | omega | (rw [← e]; exact wl_rbn (by omega) om)
  have HZ2 : Hid (mkRat ((n : Nat) : Int) (p) = z) := Lib.hid (HZ.out)
  have su2 : sz (z) ≤ 2009 := by have e := HZ2.out; first | omega | (rw [← e]; exact sz_mkRat (by rw [Int.natAbs_natCast]; omega) (by omega) (by decide))
  have lx0 := HF.out.c 0 rfl
  refine kS fun K hK => ?_
  refine pd 4 [(true, 0), (true, 1), (true, 2), (true, 3)] fun T hT => ?_
  iterate 2 refine tk ?_
  refine ck Tryz.call190 (fun w' hw => rroot (a) k (p) (n) _ HP.out HZ1.out (by omega) om) ?_
  refine ck Tryz.call189 (fun w' hw => rby0 (a) (z) (p) (n) _ (Lib.hid HZ2.out) (Lib.hid (by rw [← HP.out]; exact Nat.pow_pos (by decide))) om om) ?_
  refine nlD hT HF fun vw1 HG => ?_
  clear hT T HF lx0
  have lx1 := HG.out.c 1 rfl; have fx1 := HG.out.f 1 rfl
  have r0 := Gr.refl vw1
  go_wp2
  refine hK.out _ _ ?_; clear hK K
  show Code.wp _ _ _ _ _
  clear r0 lx1 fx1
  refine fH (((((HG.out).put2 1 0 rfl).put2 1 2 rfl).put 1 4 _ rfl).er 0) fun Wx1 HF => ?_
  clear HG
  refine wp_ret ?_
  try simp only [Exit.then, Exit.inBlock]
  have lx1 := HF.out.c 0 rfl
  have r0 := Gr.refl Wx1
  exact bodyPost_ret (v := .agg #[.int .u64 ((lo (Int.natAbs ((z).num)) : Nat) : Int), .string (bg (Int.natAbs ((z).num))), .bool (decide (((z).num) < 0)), .int .u64 ((lo ((z).den - 1) : Nat) : Int), .string (bg ((z).den - 1))]) (by simp [results, Tryz.results93, go_sem, lx1 _ r0]) rfl ⟨rfl, HF.out.1⟩

theorem rbelow (a : Rat) (k p : Nat) (z : Rat) (w : World) (hp : 2 ^ k = p) (hz : rlo a k = z) (hk : k ≤ 100) (hs : sz a ≤ 2000) :
    Calls Tryz.prog 93 #[.agg #[.int .u64 ((lo (Int.natAbs ((a).num)) : Nat) : Int), .string (bg (Int.natAbs ((a).num))), .bool (decide (((a).num) < 0)), .int .u64 ((lo ((a).den - 1) : Nat) : Int), .string (bg ((a).den - 1)), .int .u64 ((lo (p) : Nat) : Int), .string (bg (p))]] w fun e w' => e = .returned (Value.agg #[.int .u64 ((lo (Int.natAbs ((z).num)) : Nat) : Int), .string (bg (Int.natAbs ((z).num))), .bool (decide (((z).num) < 0)), .int .u64 ((lo ((z).den - 1) : Nat) : Int), .string (bg ((z).den - 1))]) ∧ Below w.heap.size w w' := by
  subst hp
  have h1 := wl_two hk
  exact rbelow0 a z k _ _ w (Lib.hid rfl) (Lib.hid hz) (Lib.hid rfl) hk hs (by omega)
theorem sz_rlo {a : Rat} {k M : Nat} (hk : k ≤ 100) (h : sz a ≤ M) : sz (rlo a k) ≤ M + 9 := by
  unfold rlo
  have h1 := wl_two hk
  have h2 := wl_rbn hk h
  exact sz_mkRat (by rw [Int.natAbs_natCast]; omega) (by omega) (by omega)
theorem sz_rhi {a : Rat} {k M : Nat} (hk : k ≤ 100) (h : sz a ≤ M) : sz (rhi a k) ≤ M + 10 := by
  unfold rhi
  split
  · exact Nat.le_trans (sz_rlo hk h) (by omega)
  · have h1 := wl_two hk
    have h2 := wl_rbn hk h
    have h3 := wl_add (rbn a k) 1
    have h4 : wl 1 ≤ 1 := wl_small (by decide)
    exact sz_mkRat (by rw [Int.natAbs_natCast]; omega) (by omega) (by omega)

set_option maxRecDepth 20000 in
set_option maxHeartbeats 4000000 in
theorem rabove_e (a l : Rat) (k p : Nat) (w : World) (HL : Hid (rlo a k = l)) (HSQ : Hid (l * l = a)) (HP : Hid (2 ^ k = p)) (hk : k ≤ 100) (hs : sz a ≤ 1000) (hwp : wl p ≤ 10) :
    Calls Tryz.prog 95 #[(Value.agg #[.int .u64 ((lo (Int.natAbs ((a).num)) : Nat) : Int), .string (bg (Int.natAbs ((a).num))), .bool (decide (((a).num) < 0)), .int .u64 ((lo ((a).den - 1) : Nat) : Int), .string (bg ((a).den - 1)), .int .u64 ((lo (p) : Nat) : Int), .string (bg (p))])] w fun e w' => e = .returned (.agg #[.int .u64 ((lo (Int.natAbs ((l).num)) : Nat) : Int), .string (bg (Int.natAbs ((l).num))), .bool (decide (((l).num) < 0)), .int .u64 ((lo ((l).den - 1) : Nat) : Int), .string (bg ((l).den - 1))]) ∧ Below w.heap.size w w' := by
  go_enter Tryz.func95, Tryz.ntmps95
  have HF := Lib.hid (hp0 w)
  refine kS fun K hK => ?_
  refine wp_region_lit ?_
  go_wp2
  refine hK.out _ _ ?_; clear hK K
  show Code.wp _ _ _ _ _
  refine fH (((HF.out).al (b := w.heap.size) (by first | rfl | simp) (by decide)).al (b := w.heap.size + 1) (by first | rfl | simp) (by decide)) fun Wx0 HG => ?_
  clear HF; have HF := HG; clear HG
  generalize w.heap.size + 1 = gx1 at *
  have HZ1 : Hid (rlo (a) k = l) := Lib.hid (HL.out)
  have su1 : sz (l) ≤ 1009 := by have e := HZ1.out; first | omega | (rw [← e]; exact sz_rlo (by omega) om)
  have lx0 := HF.out.c 0 rfl
  refine kS fun K hK => ?_
  refine sq 2 [(true, 0), (true, 1)] fun T hT => ?_
  refine tk ?_
  refine ck Tryz.call93 (fun w' hw => rbelow (a) k (p) (l) _ HP.out HZ1.out (by omega) om) ?_
  refine nlS hT HF fun vw1 HG => ?_
  clear hT T HF lx0
  go_wp2
  refine hK.out _ _ ?_; clear hK K
  show Code.wp _ _ _ _ _
  refine fH ((HG.out).al (b := vw1.heap.size) (by first | rfl | simp) (by decide)) fun Wx1 HF => ?_
  clear HG
  generalize vw1.heap.size = gx3 at *
  refine wp_seq ?_
  have HZ2 : Hid ((l) * (l) = a) := Lib.hid (HSQ.out)
  have su2 : sz (a) ≤ 2018 := by have e := HZ2.out; first | omega | (rw [← e]; have := sz_mul (l) (l); omega)
  have lx0 := HF.out.c 0 rfl
  have lx3 := HF.out.c 2 rfl
  refine kS fun K hK => ?_
  refine pd 4 [(true, 0), (true, 2), (true, 3), (true, 1)] fun T hT => ?_
  iterate 3 refine tk ?_
  refine ck Tryz.call37 (fun w' hw => fsquare_any (l) (a) _ (Lib.hid HZ2.out) om) ?_
  refine nlD hT HF fun vw2 HG => ?_
  clear hT T HF lx0 lx3
  go_wp2
  refine hK.out _ _ ?_; clear hK K
  show Code.wp _ _ _ _ _
  have HF := HG; clear HG
  refine wp_cond_true (by rfl) ?_
  have lx3 := HF.out.c 2 rfl
  refine kS fun K hK => ?_
  refine sq 1 [(true, 0)] fun T hT => ?_
  refine tk ?_
  refine nlS hT HF fun vw3 HG => ?_
  clear hT T HF lx3
  have lx1 := HG.out.c 1 rfl; have fx1 := HG.out.f 1 rfl
  have r0 := Gr.refl vw3
  go_wp2
  refine hK.out _ _ ?_; clear hK K
  show Code.wp _ _ _ _ _
  clear r0 lx1 fx1
  refine fH (((((HG.out).put2 1 0 rfl).put2 1 2 rfl).put 1 4 _ rfl).er 2) fun Wx3 HF => ?_
  clear HG
  refine wp_ret ?_
  try simp only [Exit.then, Exit.inBlock]
  have lx1 := HF.out.c 1 rfl
  have r0 := Gr.refl Wx3
  exact bodyPost_ret (v := .agg #[.int .u64 ((lo (Int.natAbs ((l).num)) : Nat) : Int), .string (bg (Int.natAbs ((l).num))), .bool (decide (((l).num) < 0)), .int .u64 ((lo ((l).den - 1) : Nat) : Int), .string (bg ((l).den - 1))]) (by simp [results, Tryz.results95, go_sem, lx1 _ r0]) rfl ⟨rfl, HF.out.1⟩

set_option maxRecDepth 20000 in
set_option maxHeartbeats 4000000 in
theorem rabove_n (a l z : Rat) (k p n m : Nat) (w : World) (HL : Hid (rlo a k = l)) (HSQ : Hid (¬ l * l = a)) (HN : Hid (rbn a k = n)) (HM : Hid (n + 1 = m)) (HZ : Hid (mkRat ((m : Nat) : Int) p = z)) (HP : Hid (2 ^ k = p)) (hk : k ≤ 100) (hs : sz a ≤ 1000) (hwp : wl p ≤ 10) :
    Calls Tryz.prog 95 #[(Value.agg #[.int .u64 ((lo (Int.natAbs ((a).num)) : Nat) : Int), .string (bg (Int.natAbs ((a).num))), .bool (decide (((a).num) < 0)), .int .u64 ((lo ((a).den - 1) : Nat) : Int), .string (bg ((a).den - 1)), .int .u64 ((lo (p) : Nat) : Int), .string (bg (p))])] w fun e w' => e = .returned (.agg #[.int .u64 ((lo (Int.natAbs ((z).num)) : Nat) : Int), .string (bg (Int.natAbs ((z).num))), .bool (decide (((z).num) < 0)), .int .u64 ((lo ((z).den - 1) : Nat) : Int), .string (bg ((z).den - 1))]) ∧ Below w.heap.size w w' := by
  go_enter Tryz.func95, Tryz.ntmps95
  have HF := Lib.hid (hp0 w)
  refine kS fun K hK => ?_
  refine wp_region_lit ?_
  go_wp2
  refine hK.out _ _ ?_; clear hK K
  show Code.wp _ _ _ _ _
  refine fH (((HF.out).al (b := w.heap.size) (by first | rfl | simp) (by decide)).al (b := w.heap.size + 1) (by first | rfl | simp) (by decide)) fun Wx0 HG => ?_
  clear HF; have HF := HG; clear HG
  generalize w.heap.size + 1 = gx1 at *
  have HZ1 : Hid (rlo (a) k = l) := Lib.hid (HL.out)
  have su1 : sz (l) ≤ 1009 := by have e := HZ1.out; first | omega | (rw [← e]; exact sz_rlo (by omega) om)
  have lx0 := HF.out.c 0 rfl
  refine kS fun K hK => ?_
  refine sq 2 [(true, 0), (true, 1)] fun T hT => ?_
  refine tk ?_
  refine ck Tryz.call93 (fun w' hw => rbelow (a) k (p) (l) _ HP.out HZ1.out (by omega) om) ?_
  refine nlS hT HF fun vw1 HG => ?_
  clear hT T HF lx0
  go_wp2
  refine hK.out _ _ ?_; clear hK K
  show Code.wp _ _ _ _ _
  refine fH ((HG.out).al (b := vw1.heap.size) (by first | rfl | simp) (by decide)) fun Wx1 HF => ?_
  clear HG
  generalize vw1.heap.size = gx3 at *
  refine wp_seq ?_
  obtain ⟨u2, HZ2⟩ : ∃ z, Hid ((l) * (l) = z) := ⟨_, Lib.hid rfl⟩
  have su2 : sz (u2) ≤ 2018 := by rw [← HZ2.out]; have := sz_mul (l) (l); omega
  have lx0 := HF.out.c 0 rfl
  have lx3 := HF.out.c 2 rfl
  refine kS fun K hK => ?_
  refine pd 4 [(true, 0), (true, 2), (true, 3), (true, 1)] fun T hT => ?_
  iterate 3 refine tk ?_
  refine ck Tryz.call37 (fun w' hw => fsquare_any (l) (u2) _ (Lib.hid HZ2.out) om) ?_
  refine nlD hT HF fun vw2 HG => ?_
  clear hT T HF lx0 lx3
  have hd1 : decide (u2 = a) = false := decide_eq_false (by first | exact ok | exact HSQ.out | (simp only [← HZ2.out] <;> first | exact ok | exact HSQ.out))
  go_wp2
  refine hK.out _ _ ?_; clear hK K
  show Code.wp _ _ _ _ _
  have HF := HG; clear HG
  clear hd1
  refine wp_cond_false (by rfl) ?_
  refine wp_skip ?_
  show Code.wp _ _ _ _ _
  have HZ3 : Hid (rbn (a) k = n) := Lib.hid (HN.out)
  have su3 : wl (n) ≤ 1009 := by have e := HZ3.out; first | omega | (rw [← e]; exact wl_rbn (by omega) om)
  have su_0_4 : wl 1 ≤ 1 := wl_le.2 (by decide +kernel)
  have HZ4 : Hid ((n) + (1) = m) := Lib.hid (HM.out)
  have su4 : wl (m) ≤ 1010 := by have e := HZ4.out; first | omega | (rw [← e]; have := wl_add (n) (1); omega)
  have HZ5 : Hid (mkRat ((m : Nat) : Int) (p) = z) := Lib.hid (HZ.out)
  have su5 : sz (z) ≤ 1010 := by have e := HZ5.out; first | omega | (rw [← e]; exact sz_mkRat (by rw [Int.natAbs_natCast]; omega) (by omega) (by decide))
  have lx0 := HF.out.c 0 rfl
  refine kS fun K hK => ?_
  refine pd 6 [(true, 0), (true, 1), (true, 2), (true, 3), (true, 4), (true, 5)] fun T hT => ?_
  iterate 2 refine tk ?_
  refine ck Tryz.call190 (fun w' hw => rroot (a) k (p) (n) _ HP.out HZ3.out (by omega) om) ?_
  refine ck Tryz.call124 (fun w' hw => nzof 1 _ (by decide)) ?_
  refine ck Tryz.call122 (fun w' hw => nzadd (n) (1) (m) _ HZ4.out om om) ?_
  refine ck Tryz.call189 (fun w' hw => rby0 (a) (z) (p) (m) _ (Lib.hid HZ5.out) (Lib.hid (by rw [← HP.out]; exact Nat.pow_pos (by decide))) om om) ?_
  refine nlD hT HF fun vw3 HG => ?_
  clear hT T HF lx0
  have lx1 := HG.out.c 1 rfl; have fx1 := HG.out.f 1 rfl
  have r0 := Gr.refl vw3
  go_wp2
  refine hK.out _ _ ?_; clear hK K
  show Code.wp _ _ _ _ _
  clear r0 lx1 fx1
  refine fH ((((((HG.out).put2 1 0 rfl).put2 1 2 rfl).put 1 4 _ rfl).er 2).er 0) fun Wx4 HF => ?_
  clear HG
  refine wp_ret ?_
  try simp only [Exit.then, Exit.inBlock]
  have lx1 := HF.out.c 0 rfl
  have r0 := Gr.refl Wx4
  exact bodyPost_ret (v := .agg #[.int .u64 ((lo (Int.natAbs ((z).num)) : Nat) : Int), .string (bg (Int.natAbs ((z).num))), .bool (decide (((z).num) < 0)), .int .u64 ((lo ((z).den - 1) : Nat) : Int), .string (bg ((z).den - 1))]) (by simp [results, Tryz.results95, go_sem, lx1 _ r0]) rfl ⟨rfl, HF.out.1⟩

theorem rabove (a : Rat) (k p : Nat) (z : Rat) (w : World) (hp : 2 ^ k = p) (hz : rhi a k = z) (hk : k ≤ 100) (hs : sz a ≤ 1000) :
    Calls Tryz.prog 95 #[.agg #[.int .u64 ((lo (Int.natAbs ((a).num)) : Nat) : Int), .string (bg (Int.natAbs ((a).num))), .bool (decide (((a).num) < 0)), .int .u64 ((lo ((a).den - 1) : Nat) : Int), .string (bg ((a).den - 1)), .int .u64 ((lo (p) : Nat) : Int), .string (bg (p))]] w fun e w' => e = .returned (Value.agg #[.int .u64 ((lo (Int.natAbs ((z).num)) : Nat) : Int), .string (bg (Int.natAbs ((z).num))), .bool (decide (((z).num) < 0)), .int .u64 ((lo ((z).den - 1) : Nat) : Int), .string (bg ((z).den - 1))]) ∧ Below w.heap.size w w' := by
  subst hp
  have h1 := wl_two hk
  unfold rhi at hz
  by_cases h : rlo a k * rlo a k = a
  · rw [if_pos h] at hz
    subst hz
    exact rabove_e a _ k _ w (Lib.hid rfl) (Lib.hid h) (Lib.hid rfl) hk hs (by omega)
  · rw [if_neg h] at hz
    exact rabove_n a _ z k _ _ _ w (Lib.hid rfl) (Lib.hid h) (Lib.hid rfl) (Lib.hid rfl) (Lib.hid hz) (Lib.hid rfl) hk hs (by omega)

end Go.Proofs.YtaflakcemiilaaaGreatDoor

namespace Go.Proofs.YtaflakcemiilaaaGreatDoor
open Go.RowKit
set_option linter.unusedSimpArgs false
set_option linter.unusedVariables false
attribute [local go_sem ↓] Go.wp_at_zero Go.wp_at_succ
attribute [local go_sem ↓] eq_nat eq_nat_zero eq_int
theorem sgQ_nn0 {a : Rat} (h : 0 ≤ a) : 0 ≤ sgQ a := by
  rcases sgQ_cases a with ⟨h1, _⟩ | ⟨_, e⟩ | ⟨_, e⟩
  · exfalso; grind
  · rw [e]; decide
  · rw [e]; decide

set_option maxRecDepth 20000 in
set_option maxHeartbeats 4000000 in
theorem rtold_below_lo (a : Rat) (n : Int) (w : World) (hn : n < 0) :
    Calls Tryz.prog 92 #[.func (.func 93) #[] #[], (Value.agg #[.int .u64 ((lo (Int.natAbs ((a).num)) : Nat) : Int), .string (bg (Int.natAbs ((a).num))), .bool (decide (((a).num) < 0)), .int .u64 ((lo ((a).den - 1) : Nat) : Int), .string (bg ((a).den - 1))]), .int .i64 (n)] w fun e w' => e = .returned ((.tuple #[(.agg #[.int .u64 0, .string ⟨#[]⟩, .bool false, .int .u64 0, .string ⟨#[]⟩]), .int .i64 1])) ∧ Below w.heap.size w w' := by
  go_enter Tryz.func92, Tryz.ntmps92
  have HF := Lib.hid (hp0 w)
  refine kS fun K hK => ?_
  refine wp_region_lit ?_
  go_wp2
  refine hK.out _ _ ?_; clear hK K
  show Code.wp _ _ _ _ _
  refine fH (((HF.out).al (b := w.heap.size) (by first | rfl | simp) (by decide)).al (b := w.heap.size + 1) (by first | rfl | simp) (by decide)) fun Wx0 HG => ?_
  clear HF; have HF := HG; clear HG
  generalize w.heap.size + 1 = gx1 at *
  refine wp_seq ?_
  refine wp_block ?_
  have hd1 : n < 0 := by first | exact ok | exact HA.out
  refine kS fun K hK => ?_
  refine sq 3 [(true, 0), (true, 1), (true, 2)] fun T hT => ?_
  iterate 3 refine tk ?_
  refine nlS hT HF fun vw1 HG => ?_
  clear hT T HF
  go_wp2
  refine hK.out _ _ ?_; clear hK K
  show Code.wp _ _ _ _ _
  have HF := HG; clear HG
  clear hd1
  refine wp_cond_true (by rfl) ?_
  refine kS fun K hK => ?_
  refine sq 1 [(true, 0)] fun T hT => ?_
  refine tk ?_
  refine nlS hT HF fun vw2 HG => ?_
  clear hT T HF
  have lx1 := HG.out.c 1 rfl; have fx1 := HG.out.f 1 rfl
  have r0 := Gr.refl vw2
  go_wp2
  refine hK.out _ _ ?_; clear hK K
  show Code.wp _ _ _ _ _
  clear r0 lx1 fx1
  refine fH ((((HG.out).put2 1 0 rfl).put2 1 2 rfl).put 1 4 _ rfl) fun Wx2 HF => ?_
  clear HG
  refine wp_ret ?_
  try simp only [Exit.then, Exit.inBlock]
  have lx1 := HF.out.c 1 rfl
  have r0 := Gr.refl Wx2
  exact bodyPost_ret (v := .tuple #[(.agg #[.int .u64 0, .string ⟨#[]⟩, .bool false, .int .u64 0, .string ⟨#[]⟩]), .int .i64 1]) (by simp [results, Tryz.results92, go_sem, lx1 _ r0]) rfl ⟨rfl, HF.out.1⟩

set_option maxRecDepth 20000 in
set_option maxHeartbeats 4000000 in
theorem rtold_below_far (a : Rat) (n : Int) (w : World) (hn : 100 < n) :
    Calls Tryz.prog 92 #[.func (.func 93) #[] #[], (Value.agg #[.int .u64 ((lo (Int.natAbs ((a).num)) : Nat) : Int), .string (bg (Int.natAbs ((a).num))), .bool (decide (((a).num) < 0)), .int .u64 ((lo ((a).den - 1) : Nat) : Int), .string (bg ((a).den - 1))]), .int .i64 (n)] w fun e w' => e = .returned ((.tuple #[(.agg #[.int .u64 0, .string ⟨#[]⟩, .bool false, .int .u64 0, .string ⟨#[]⟩]), .int .i64 3])) ∧ Below w.heap.size w w' := by
  go_enter Tryz.func92, Tryz.ntmps92
  have HF := Lib.hid (hp0 w)
  refine kS fun K hK => ?_
  refine wp_region_lit ?_
  go_wp2
  refine hK.out _ _ ?_; clear hK K
  show Code.wp _ _ _ _ _
  refine fH (((HF.out).al (b := w.heap.size) (by first | rfl | simp) (by decide)).al (b := w.heap.size + 1) (by first | rfl | simp) (by decide)) fun Wx0 HG => ?_
  clear HF; have HF := HG; clear HG
  generalize w.heap.size + 1 = gx1 at *
  refine wp_seq ?_
  refine wp_block ?_
  have hd1 : ¬ (n < 0) := by first | exact ok | exact HA.out
  refine kS fun K hK => ?_
  refine sq 3 [(true, 0), (true, 1), (true, 2)] fun T hT => ?_
  iterate 3 refine tk ?_
  refine nlS hT HF fun vw1 HG => ?_
  clear hT T HF
  go_wp2
  refine hK.out _ _ ?_; clear hK K
  show Code.wp _ _ _ _ _
  have HF := HG; clear HG
  clear hd1
  refine wp_cond_false (by rfl) ?_
  have hd2 : 100 < n := by first | exact ok | exact HA.out
  refine kS fun K hK => ?_
  refine sq 3 [(true, 0), (true, 1), (true, 2)] fun T hT => ?_
  iterate 3 refine tk ?_
  refine nlS hT HF fun vw2 HG => ?_
  clear hT T HF
  go_wp2
  refine hK.out _ _ ?_; clear hK K
  show Code.wp _ _ _ _ _
  have HF := HG; clear HG
  clear hd2
  refine wp_cond_true (by rfl) ?_
  refine kS fun K hK => ?_
  refine sq 1 [(true, 0)] fun T hT => ?_
  refine tk ?_
  refine nlS hT HF fun vw3 HG => ?_
  clear hT T HF
  have lx1 := HG.out.c 1 rfl; have fx1 := HG.out.f 1 rfl
  have r0 := Gr.refl vw3
  go_wp2
  refine hK.out _ _ ?_; clear hK K
  show Code.wp _ _ _ _ _
  clear r0 lx1 fx1
  refine fH ((((HG.out).put2 1 0 rfl).put2 1 2 rfl).put 1 4 _ rfl) fun Wx4 HF => ?_
  clear HG
  refine wp_ret ?_
  try simp only [Exit.then, Exit.inBlock]
  have lx1 := HF.out.c 1 rfl
  have r0 := Gr.refl Wx4
  exact bodyPost_ret (v := .tuple #[(.agg #[.int .u64 0, .string ⟨#[]⟩, .bool false, .int .u64 0, .string ⟨#[]⟩]), .int .i64 3]) (by simp [results, Tryz.results92, go_sem, lx1 _ r0]) rfl ⟨rfl, HF.out.1⟩

set_option maxRecDepth 20000 in
set_option maxHeartbeats 4000000 in
theorem rtold_below_neg (a : Rat) (k : Nat) (w : World) (HA : Hid (a < 0)) (hk : k ≤ 100) :
    Calls Tryz.prog 92 #[.func (.func 93) #[] #[], (Value.agg #[.int .u64 ((lo (Int.natAbs ((a).num)) : Nat) : Int), .string (bg (Int.natAbs ((a).num))), .bool (decide (((a).num) < 0)), .int .u64 ((lo ((a).den - 1) : Nat) : Int), .string (bg ((a).den - 1))]), .int .i64 (((k : Nat) : Int))] w fun e w' => e = .returned ((.tuple #[(.agg #[.int .u64 0, .string ⟨#[]⟩, .bool false, .int .u64 0, .string ⟨#[]⟩]), .int .i64 1])) ∧ Below w.heap.size w w' := by
  go_enter Tryz.func92, Tryz.ntmps92
  have HF := Lib.hid (hp0 w)
  refine kS fun K hK => ?_
  refine wp_region_lit ?_
  go_wp2
  refine hK.out _ _ ?_; clear hK K
  show Code.wp _ _ _ _ _
  refine fH (((HF.out).al (b := w.heap.size) (by first | rfl | simp) (by decide)).al (b := w.heap.size + 1) (by first | rfl | simp) (by decide)) fun Wx0 HG => ?_
  clear HF; have HF := HG; clear HG
  generalize w.heap.size + 1 = gx1 at *
  refine wp_seq ?_
  refine wp_block ?_
  have hd1 : ¬ ((((k : Nat) : Int)) < 0) := by first | exact ok | exact HA.out
  have hd2 : ¬ (k < 0) := by have e := hd1; omega
  refine kS fun K hK => ?_
  refine sq 3 [(true, 0), (true, 1), (true, 2)] fun T hT => ?_
  iterate 3 refine tk ?_
  refine nlS hT HF fun vw1 HG => ?_
  clear hT T HF
  go_wp2
  refine hK.out _ _ ?_; clear hK K
  show Code.wp _ _ _ _ _
  have HF := HG; clear HG
  clear hd1 hd2
  refine wp_cond_false (by rfl) ?_
  have hd3 : ¬ (100 < (((k : Nat) : Int))) := by first | exact ok | exact HA.out
  refine kS fun K hK => ?_
  refine sq 3 [(true, 0), (true, 1), (true, 2)] fun T hT => ?_
  iterate 3 refine tk ?_
  refine nlS hT HF fun vw2 HG => ?_
  clear hT T HF
  go_wp2
  refine hK.out _ _ ?_; clear hK K
  show Code.wp _ _ _ _ _
  have HF := HG; clear HG
  clear hd3
  refine wp_cond_false (by rfl) ?_
  have lx0 := HF.out.c 0 rfl
  refine kS fun K hK => ?_
  refine sq 4 [(true, 0), (true, 1), (true, 2), (true, 3)] fun T hT => ?_
  refine tk ?_
  refine ck Tryz.call35 (fun w' hw => fsign_any (a) (-1) _ (by have e9 : (a) < (0 : Rat) := (by first | exact ok | exact HA.out); exact sgQ_neg e9)) ?_
  iterate 2 refine tk ?_
  refine nlS hT HF fun vw3 HG => ?_
  clear hT T HF lx0
  go_wp2
  refine hK.out _ _ ?_; clear hK K
  show Code.wp _ _ _ _ _
  have HF := HG; clear HG
  refine wp_cond_true (by rfl) ?_
  refine kS fun K hK => ?_
  refine sq 1 [(true, 0)] fun T hT => ?_
  refine tk ?_
  refine nlS hT HF fun vw4 HG => ?_
  clear hT T HF
  have lx1 := HG.out.c 1 rfl; have fx1 := HG.out.f 1 rfl
  have r0 := Gr.refl vw4
  go_wp2
  refine hK.out _ _ ?_; clear hK K
  show Code.wp _ _ _ _ _
  clear r0 lx1 fx1
  refine fH ((((HG.out).put2 1 0 rfl).put2 1 2 rfl).put 1 4 _ rfl) fun Wx6 HF => ?_
  clear HG
  refine wp_ret ?_
  try simp only [Exit.then, Exit.inBlock]
  have lx1 := HF.out.c 1 rfl
  have r0 := Gr.refl Wx6
  exact bodyPost_ret (v := .tuple #[(.agg #[.int .u64 0, .string ⟨#[]⟩, .bool false, .int .u64 0, .string ⟨#[]⟩]), .int .i64 1]) (by simp [results, Tryz.results92, go_sem, lx1 _ r0]) rfl ⟨rfl, HF.out.1⟩

set_option maxRecDepth 20000 in
set_option maxHeartbeats 4000000 in
theorem rtold_below_ok (a z : Rat) (k p : Nat) (w : World) (HA : Hid (0 ≤ a)) (HP : Hid (2 ^ k = p)) (HZ : Hid (rlo a k = z)) (hk : k ≤ 100) (hs : sz a ≤ 1000) :
    Calls Tryz.prog 92 #[.func (.func 93) #[] #[], (Value.agg #[.int .u64 ((lo (Int.natAbs ((a).num)) : Nat) : Int), .string (bg (Int.natAbs ((a).num))), .bool (decide (((a).num) < 0)), .int .u64 ((lo ((a).den - 1) : Nat) : Int), .string (bg ((a).den - 1))]), .int .i64 (((k : Nat) : Int))] w fun e w' => e = .returned ((.tuple #[(Value.agg #[.int .u64 ((lo (Int.natAbs ((z).num)) : Nat) : Int), .string (bg (Int.natAbs ((z).num))), .bool (decide (((z).num) < 0)), .int .u64 ((lo ((z).den - 1) : Nat) : Int), .string (bg ((z).den - 1))]), .int .i64 0])) ∧ Below w.heap.size w w' := by
  go_enter Tryz.func92, Tryz.ntmps92
  have HF := Lib.hid (hp0 w)
  refine kS fun K hK => ?_
  refine wp_region_lit ?_
  go_wp2
  refine hK.out _ _ ?_; clear hK K
  show Code.wp _ _ _ _ _
  refine fH (((HF.out).al (b := w.heap.size) (by first | rfl | simp) (by decide)).al (b := w.heap.size + 1) (by first | rfl | simp) (by decide)) fun Wx0 HG => ?_
  clear HF; have HF := HG; clear HG
  generalize w.heap.size + 1 = gx1 at *
  refine wp_seq ?_
  refine wp_block ?_
  have hd1 : ¬ ((((k : Nat) : Int)) < 0) := by first | exact ok | exact HA.out
  have hd2 : ¬ (k < 0) := by have e := hd1; omega
  refine kS fun K hK => ?_
  refine sq 3 [(true, 0), (true, 1), (true, 2)] fun T hT => ?_
  iterate 3 refine tk ?_
  refine nlS hT HF fun vw1 HG => ?_
  clear hT T HF
  go_wp2
  refine hK.out _ _ ?_; clear hK K
  show Code.wp _ _ _ _ _
  have HF := HG; clear HG
  clear hd1 hd2
  refine wp_cond_false (by rfl) ?_
  have hd3 : ¬ (100 < (((k : Nat) : Int))) := by first | exact ok | exact HA.out
  refine kS fun K hK => ?_
  refine sq 3 [(true, 0), (true, 1), (true, 2)] fun T hT => ?_
  iterate 3 refine tk ?_
  refine nlS hT HF fun vw2 HG => ?_
  clear hT T HF
  go_wp2
  refine hK.out _ _ ?_; clear hK K
  show Code.wp _ _ _ _ _
  have HF := HG; clear HG
  clear hd3
  refine wp_cond_false (by rfl) ?_
  obtain ⟨t1, HT1⟩ : ∃ z, Hid (sgQ (a) = z) := ⟨_, Lib.hid rfl⟩
  have ht1 : 0 ≤ t1 := by rw [← HT1.out]; exact sgQ_nn0 HA.out
  have hd4 : ¬ (t1 < 0) := by first | exact ok | exact HA.out
  have lx0 := HF.out.c 0 rfl
  refine kS fun K hK => ?_
  refine sq 4 [(true, 0), (true, 1), (true, 2), (true, 3)] fun T hT => ?_
  refine tk ?_
  refine ck Tryz.call35 (fun w' hw => fsign_any (a) (t1) _ HT1.out) ?_
  iterate 2 refine tk ?_
  refine nlS hT HF fun vw3 HG => ?_
  clear hT T HF lx0
  go_wp2
  refine hK.out _ _ ?_; clear hK K
  show Code.wp _ _ _ _ _
  have HF := HG; clear HG
  clear ht1 hd4
  refine wp_cond_false (by rfl) ?_
  refine wp_skip ?_
  show Code.wp _ _ _ _ _
  have su_0_7 : wl 2 ≤ 1 := wl_le.2 (by decide +kernel)
  have HZ2 : Hid ((2) ^ k = p) := Lib.hid (HP.out)
  have su2 : wl (p) ≤ 8192 := by have e := HZ2.out; first | omega | (rw [← e]; exact wl_pow _ _ (by rw [show nb 2 = 2 from by decide +kernel]; omega))
  refine kS fun K hK => ?_
  refine sq 6 [(true, 0), (true, 1), (true, 2), (true, 3), (true, 4), (true, 5)] fun T hT => ?_
  refine ck Tryz.call124 (fun w' hw => nzof 2 _ (by decide)) ?_
  refine tk ?_
  refine ck Tryz.call170 (fun w' hw => nzpow (2) k (p) _ HZ2.out (by omega) (by rw [show nb 2 = 2 from by decide +kernel]; omega) om) ?_
  iterate 3 refine tk ?_
  refine nlS hT HF fun vw4 HG => ?_
  clear hT T HF
  go_wp2
  refine hK.out _ _ ?_; clear hK K
  show Code.wp _ _ _ _ _
  refine fH ((HG.out).al (b := vw4.heap.size) (by first | rfl | simp) (by decide)) fun Wx7 HF => ?_
  clear HG
  generalize vw4.heap.size = gx3 at *
  have HZ3 : Hid (rlo (a) k = z) := Lib.hid (HZ.out)
  have su3 : sz (z) ≤ 1009 := by have e := HZ3.out; first | omega | (rw [← e]; exact sz_rlo (by omega) om)
  have lx0 := HF.out.c 0 rfl
  have lx3 := HF.out.c 2 rfl
  refine kS fun K hK => ?_
  refine sq 5 [(true, 0), (true, 1), (true, 2), (true, 3), (true, 4)] fun T hT => ?_
  iterate 4 refine tk ?_
  refine wpPlan_callV rfl (by rfl) (by rfl) Tryz.call93 (fun w' hw => rbelow (a) k (p) (z) _ HP.out HZ3.out (by omega) om) (by rfl) ?_
  simp only [Act.put, lA, lB, lC]
  refine nlS hT HF fun vw5 HG => ?_
  clear hT T HF lx0 lx3
  have lx1 := HG.out.c 1 rfl; have fx1 := HG.out.f 1 rfl
  have r0 := Gr.refl vw5
  go_wp2
  refine hK.out _ _ ?_; clear hK K
  show Code.wp _ _ _ _ _
  clear r0 lx1 fx1
  refine fH ((((((HG.out).put2 1 0 rfl).put2 1 2 rfl).put 1 4 _ rfl).er 2).er 0) fun Wx8 HF => ?_
  clear HG
  refine wp_ret ?_
  try simp only [Exit.then, Exit.inBlock]
  have lx1 := HF.out.c 0 rfl
  have r0 := Gr.refl Wx8
  exact bodyPost_ret (v := .tuple #[(.agg #[.int .u64 ((lo (Int.natAbs ((z).num)) : Nat) : Int), .string (bg (Int.natAbs ((z).num))), .bool (decide (((z).num) < 0)), .int .u64 ((lo ((z).den - 1) : Nat) : Int), .string (bg ((z).den - 1))]), .int .i64 0]) (by simp [results, Tryz.results92, go_sem, lx1 _ r0]) rfl ⟨rfl, HF.out.1⟩

set_option maxRecDepth 20000 in
set_option maxHeartbeats 4000000 in
theorem rtold_above_lo (a : Rat) (n : Int) (w : World) (hn : n < 0) :
    Calls Tryz.prog 92 #[.func (.func 95) #[] #[], (Value.agg #[.int .u64 ((lo (Int.natAbs ((a).num)) : Nat) : Int), .string (bg (Int.natAbs ((a).num))), .bool (decide (((a).num) < 0)), .int .u64 ((lo ((a).den - 1) : Nat) : Int), .string (bg ((a).den - 1))]), .int .i64 (n)] w fun e w' => e = .returned ((.tuple #[(.agg #[.int .u64 0, .string ⟨#[]⟩, .bool false, .int .u64 0, .string ⟨#[]⟩]), .int .i64 1])) ∧ Below w.heap.size w w' := by
  go_enter Tryz.func92, Tryz.ntmps92
  have HF := Lib.hid (hp0 w)
  refine kS fun K hK => ?_
  refine wp_region_lit ?_
  go_wp2
  refine hK.out _ _ ?_; clear hK K
  show Code.wp _ _ _ _ _
  refine fH (((HF.out).al (b := w.heap.size) (by first | rfl | simp) (by decide)).al (b := w.heap.size + 1) (by first | rfl | simp) (by decide)) fun Wx0 HG => ?_
  clear HF; have HF := HG; clear HG
  generalize w.heap.size + 1 = gx1 at *
  refine wp_seq ?_
  refine wp_block ?_
  have hd1 : n < 0 := by first | exact ok | exact HA.out
  refine kS fun K hK => ?_
  refine sq 3 [(true, 0), (true, 1), (true, 2)] fun T hT => ?_
  iterate 3 refine tk ?_
  refine nlS hT HF fun vw1 HG => ?_
  clear hT T HF
  go_wp2
  refine hK.out _ _ ?_; clear hK K
  show Code.wp _ _ _ _ _
  have HF := HG; clear HG
  clear hd1
  refine wp_cond_true (by rfl) ?_
  refine kS fun K hK => ?_
  refine sq 1 [(true, 0)] fun T hT => ?_
  refine tk ?_
  refine nlS hT HF fun vw2 HG => ?_
  clear hT T HF
  have lx1 := HG.out.c 1 rfl; have fx1 := HG.out.f 1 rfl
  have r0 := Gr.refl vw2
  go_wp2
  refine hK.out _ _ ?_; clear hK K
  show Code.wp _ _ _ _ _
  clear r0 lx1 fx1
  refine fH ((((HG.out).put2 1 0 rfl).put2 1 2 rfl).put 1 4 _ rfl) fun Wx2 HF => ?_
  clear HG
  refine wp_ret ?_
  try simp only [Exit.then, Exit.inBlock]
  have lx1 := HF.out.c 1 rfl
  have r0 := Gr.refl Wx2
  exact bodyPost_ret (v := .tuple #[(.agg #[.int .u64 0, .string ⟨#[]⟩, .bool false, .int .u64 0, .string ⟨#[]⟩]), .int .i64 1]) (by simp [results, Tryz.results92, go_sem, lx1 _ r0]) rfl ⟨rfl, HF.out.1⟩

set_option maxRecDepth 20000 in
set_option maxHeartbeats 4000000 in
theorem rtold_above_far (a : Rat) (n : Int) (w : World) (hn : 100 < n) :
    Calls Tryz.prog 92 #[.func (.func 95) #[] #[], (Value.agg #[.int .u64 ((lo (Int.natAbs ((a).num)) : Nat) : Int), .string (bg (Int.natAbs ((a).num))), .bool (decide (((a).num) < 0)), .int .u64 ((lo ((a).den - 1) : Nat) : Int), .string (bg ((a).den - 1))]), .int .i64 (n)] w fun e w' => e = .returned ((.tuple #[(.agg #[.int .u64 0, .string ⟨#[]⟩, .bool false, .int .u64 0, .string ⟨#[]⟩]), .int .i64 3])) ∧ Below w.heap.size w w' := by
  go_enter Tryz.func92, Tryz.ntmps92
  have HF := Lib.hid (hp0 w)
  refine kS fun K hK => ?_
  refine wp_region_lit ?_
  go_wp2
  refine hK.out _ _ ?_; clear hK K
  show Code.wp _ _ _ _ _
  refine fH (((HF.out).al (b := w.heap.size) (by first | rfl | simp) (by decide)).al (b := w.heap.size + 1) (by first | rfl | simp) (by decide)) fun Wx0 HG => ?_
  clear HF; have HF := HG; clear HG
  generalize w.heap.size + 1 = gx1 at *
  refine wp_seq ?_
  refine wp_block ?_
  have hd1 : ¬ (n < 0) := by first | exact ok | exact HA.out
  refine kS fun K hK => ?_
  refine sq 3 [(true, 0), (true, 1), (true, 2)] fun T hT => ?_
  iterate 3 refine tk ?_
  refine nlS hT HF fun vw1 HG => ?_
  clear hT T HF
  go_wp2
  refine hK.out _ _ ?_; clear hK K
  show Code.wp _ _ _ _ _
  have HF := HG; clear HG
  clear hd1
  refine wp_cond_false (by rfl) ?_
  have hd2 : 100 < n := by first | exact ok | exact HA.out
  refine kS fun K hK => ?_
  refine sq 3 [(true, 0), (true, 1), (true, 2)] fun T hT => ?_
  iterate 3 refine tk ?_
  refine nlS hT HF fun vw2 HG => ?_
  clear hT T HF
  go_wp2
  refine hK.out _ _ ?_; clear hK K
  show Code.wp _ _ _ _ _
  have HF := HG; clear HG
  clear hd2
  refine wp_cond_true (by rfl) ?_
  refine kS fun K hK => ?_
  refine sq 1 [(true, 0)] fun T hT => ?_
  refine tk ?_
  refine nlS hT HF fun vw3 HG => ?_
  clear hT T HF
  have lx1 := HG.out.c 1 rfl; have fx1 := HG.out.f 1 rfl
  have r0 := Gr.refl vw3
  go_wp2
  refine hK.out _ _ ?_; clear hK K
  show Code.wp _ _ _ _ _
  clear r0 lx1 fx1
  refine fH ((((HG.out).put2 1 0 rfl).put2 1 2 rfl).put 1 4 _ rfl) fun Wx4 HF => ?_
  clear HG
  refine wp_ret ?_
  try simp only [Exit.then, Exit.inBlock]
  have lx1 := HF.out.c 1 rfl
  have r0 := Gr.refl Wx4
  exact bodyPost_ret (v := .tuple #[(.agg #[.int .u64 0, .string ⟨#[]⟩, .bool false, .int .u64 0, .string ⟨#[]⟩]), .int .i64 3]) (by simp [results, Tryz.results92, go_sem, lx1 _ r0]) rfl ⟨rfl, HF.out.1⟩

set_option maxRecDepth 20000 in
set_option maxHeartbeats 4000000 in
theorem rtold_above_neg (a : Rat) (k : Nat) (w : World) (HA : Hid (a < 0)) (hk : k ≤ 100) :
    Calls Tryz.prog 92 #[.func (.func 95) #[] #[], (Value.agg #[.int .u64 ((lo (Int.natAbs ((a).num)) : Nat) : Int), .string (bg (Int.natAbs ((a).num))), .bool (decide (((a).num) < 0)), .int .u64 ((lo ((a).den - 1) : Nat) : Int), .string (bg ((a).den - 1))]), .int .i64 (((k : Nat) : Int))] w fun e w' => e = .returned ((.tuple #[(.agg #[.int .u64 0, .string ⟨#[]⟩, .bool false, .int .u64 0, .string ⟨#[]⟩]), .int .i64 1])) ∧ Below w.heap.size w w' := by
  go_enter Tryz.func92, Tryz.ntmps92
  have HF := Lib.hid (hp0 w)
  refine kS fun K hK => ?_
  refine wp_region_lit ?_
  go_wp2
  refine hK.out _ _ ?_; clear hK K
  show Code.wp _ _ _ _ _
  refine fH (((HF.out).al (b := w.heap.size) (by first | rfl | simp) (by decide)).al (b := w.heap.size + 1) (by first | rfl | simp) (by decide)) fun Wx0 HG => ?_
  clear HF; have HF := HG; clear HG
  generalize w.heap.size + 1 = gx1 at *
  refine wp_seq ?_
  refine wp_block ?_
  have hd1 : ¬ ((((k : Nat) : Int)) < 0) := by first | exact ok | exact HA.out
  have hd2 : ¬ (k < 0) := by have e := hd1; omega
  refine kS fun K hK => ?_
  refine sq 3 [(true, 0), (true, 1), (true, 2)] fun T hT => ?_
  iterate 3 refine tk ?_
  refine nlS hT HF fun vw1 HG => ?_
  clear hT T HF
  go_wp2
  refine hK.out _ _ ?_; clear hK K
  show Code.wp _ _ _ _ _
  have HF := HG; clear HG
  clear hd1 hd2
  refine wp_cond_false (by rfl) ?_
  have hd3 : ¬ (100 < (((k : Nat) : Int))) := by first | exact ok | exact HA.out
  refine kS fun K hK => ?_
  refine sq 3 [(true, 0), (true, 1), (true, 2)] fun T hT => ?_
  iterate 3 refine tk ?_
  refine nlS hT HF fun vw2 HG => ?_
  clear hT T HF
  go_wp2
  refine hK.out _ _ ?_; clear hK K
  show Code.wp _ _ _ _ _
  have HF := HG; clear HG
  clear hd3
  refine wp_cond_false (by rfl) ?_
  have lx0 := HF.out.c 0 rfl
  refine kS fun K hK => ?_
  refine sq 4 [(true, 0), (true, 1), (true, 2), (true, 3)] fun T hT => ?_
  refine tk ?_
  refine ck Tryz.call35 (fun w' hw => fsign_any (a) (-1) _ (by have e9 : (a) < (0 : Rat) := (by first | exact ok | exact HA.out); exact sgQ_neg e9)) ?_
  iterate 2 refine tk ?_
  refine nlS hT HF fun vw3 HG => ?_
  clear hT T HF lx0
  go_wp2
  refine hK.out _ _ ?_; clear hK K
  show Code.wp _ _ _ _ _
  have HF := HG; clear HG
  refine wp_cond_true (by rfl) ?_
  refine kS fun K hK => ?_
  refine sq 1 [(true, 0)] fun T hT => ?_
  refine tk ?_
  refine nlS hT HF fun vw4 HG => ?_
  clear hT T HF
  have lx1 := HG.out.c 1 rfl; have fx1 := HG.out.f 1 rfl
  have r0 := Gr.refl vw4
  go_wp2
  refine hK.out _ _ ?_; clear hK K
  show Code.wp _ _ _ _ _
  clear r0 lx1 fx1
  refine fH ((((HG.out).put2 1 0 rfl).put2 1 2 rfl).put 1 4 _ rfl) fun Wx6 HF => ?_
  clear HG
  refine wp_ret ?_
  try simp only [Exit.then, Exit.inBlock]
  have lx1 := HF.out.c 1 rfl
  have r0 := Gr.refl Wx6
  exact bodyPost_ret (v := .tuple #[(.agg #[.int .u64 0, .string ⟨#[]⟩, .bool false, .int .u64 0, .string ⟨#[]⟩]), .int .i64 1]) (by simp [results, Tryz.results92, go_sem, lx1 _ r0]) rfl ⟨rfl, HF.out.1⟩

set_option maxRecDepth 20000 in
set_option maxHeartbeats 4000000 in
theorem rtold_above_ok (a z : Rat) (k p : Nat) (w : World) (HA : Hid (0 ≤ a)) (HP : Hid (2 ^ k = p)) (HZ : Hid (rhi a k = z)) (hk : k ≤ 100) (hs : sz a ≤ 1000) :
    Calls Tryz.prog 92 #[.func (.func 95) #[] #[], (Value.agg #[.int .u64 ((lo (Int.natAbs ((a).num)) : Nat) : Int), .string (bg (Int.natAbs ((a).num))), .bool (decide (((a).num) < 0)), .int .u64 ((lo ((a).den - 1) : Nat) : Int), .string (bg ((a).den - 1))]), .int .i64 (((k : Nat) : Int))] w fun e w' => e = .returned ((.tuple #[(Value.agg #[.int .u64 ((lo (Int.natAbs ((z).num)) : Nat) : Int), .string (bg (Int.natAbs ((z).num))), .bool (decide (((z).num) < 0)), .int .u64 ((lo ((z).den - 1) : Nat) : Int), .string (bg ((z).den - 1))]), .int .i64 0])) ∧ Below w.heap.size w w' := by
  go_enter Tryz.func92, Tryz.ntmps92
  have HF := Lib.hid (hp0 w)
  refine kS fun K hK => ?_
  refine wp_region_lit ?_
  go_wp2
  refine hK.out _ _ ?_; clear hK K
  show Code.wp _ _ _ _ _
  refine fH (((HF.out).al (b := w.heap.size) (by first | rfl | simp) (by decide)).al (b := w.heap.size + 1) (by first | rfl | simp) (by decide)) fun Wx0 HG => ?_
  clear HF; have HF := HG; clear HG
  generalize w.heap.size + 1 = gx1 at *
  refine wp_seq ?_
  refine wp_block ?_
  have hd1 : ¬ ((((k : Nat) : Int)) < 0) := by first | exact ok | exact HA.out
  have hd2 : ¬ (k < 0) := by have e := hd1; omega
  refine kS fun K hK => ?_
  refine sq 3 [(true, 0), (true, 1), (true, 2)] fun T hT => ?_
  iterate 3 refine tk ?_
  refine nlS hT HF fun vw1 HG => ?_
  clear hT T HF
  go_wp2
  refine hK.out _ _ ?_; clear hK K
  show Code.wp _ _ _ _ _
  have HF := HG; clear HG
  clear hd1 hd2
  refine wp_cond_false (by rfl) ?_
  have hd3 : ¬ (100 < (((k : Nat) : Int))) := by first | exact ok | exact HA.out
  refine kS fun K hK => ?_
  refine sq 3 [(true, 0), (true, 1), (true, 2)] fun T hT => ?_
  iterate 3 refine tk ?_
  refine nlS hT HF fun vw2 HG => ?_
  clear hT T HF
  go_wp2
  refine hK.out _ _ ?_; clear hK K
  show Code.wp _ _ _ _ _
  have HF := HG; clear HG
  clear hd3
  refine wp_cond_false (by rfl) ?_
  obtain ⟨t1, HT1⟩ : ∃ z, Hid (sgQ (a) = z) := ⟨_, Lib.hid rfl⟩
  have ht1 : 0 ≤ t1 := by rw [← HT1.out]; exact sgQ_nn0 HA.out
  have hd4 : ¬ (t1 < 0) := by first | exact ok | exact HA.out
  have lx0 := HF.out.c 0 rfl
  refine kS fun K hK => ?_
  refine sq 4 [(true, 0), (true, 1), (true, 2), (true, 3)] fun T hT => ?_
  refine tk ?_
  refine ck Tryz.call35 (fun w' hw => fsign_any (a) (t1) _ HT1.out) ?_
  iterate 2 refine tk ?_
  refine nlS hT HF fun vw3 HG => ?_
  clear hT T HF lx0
  go_wp2
  refine hK.out _ _ ?_; clear hK K
  show Code.wp _ _ _ _ _
  have HF := HG; clear HG
  clear ht1 hd4
  refine wp_cond_false (by rfl) ?_
  refine wp_skip ?_
  show Code.wp _ _ _ _ _
  have su_0_7 : wl 2 ≤ 1 := wl_le.2 (by decide +kernel)
  have HZ2 : Hid ((2) ^ k = p) := Lib.hid (HP.out)
  have su2 : wl (p) ≤ 8192 := by have e := HZ2.out; first | omega | (rw [← e]; exact wl_pow _ _ (by rw [show nb 2 = 2 from by decide +kernel]; omega))
  refine kS fun K hK => ?_
  refine sq 6 [(true, 0), (true, 1), (true, 2), (true, 3), (true, 4), (true, 5)] fun T hT => ?_
  refine ck Tryz.call124 (fun w' hw => nzof 2 _ (by decide)) ?_
  refine tk ?_
  refine ck Tryz.call170 (fun w' hw => nzpow (2) k (p) _ HZ2.out (by omega) (by rw [show nb 2 = 2 from by decide +kernel]; omega) om) ?_
  iterate 3 refine tk ?_
  refine nlS hT HF fun vw4 HG => ?_
  clear hT T HF
  go_wp2
  refine hK.out _ _ ?_; clear hK K
  show Code.wp _ _ _ _ _
  refine fH ((HG.out).al (b := vw4.heap.size) (by first | rfl | simp) (by decide)) fun Wx7 HF => ?_
  clear HG
  generalize vw4.heap.size = gx3 at *
  have HZ3 : Hid (rhi (a) k = z) := Lib.hid (HZ.out)
  have su3 : sz (z) ≤ 1010 := by have e := HZ3.out; first | omega | (rw [← e]; exact sz_rhi (by omega) om)
  have lx0 := HF.out.c 0 rfl
  have lx3 := HF.out.c 2 rfl
  refine kS fun K hK => ?_
  refine sq 5 [(true, 0), (true, 1), (true, 2), (true, 3), (true, 4)] fun T hT => ?_
  iterate 4 refine tk ?_
  refine wpPlan_callV rfl (by rfl) (by rfl) Tryz.call95 (fun w' hw => rabove (a) k (p) (z) _ HP.out HZ3.out (by omega) om) (by rfl) ?_
  simp only [Act.put, lA, lB, lC]
  refine nlS hT HF fun vw5 HG => ?_
  clear hT T HF lx0 lx3
  have lx1 := HG.out.c 1 rfl; have fx1 := HG.out.f 1 rfl
  have r0 := Gr.refl vw5
  go_wp2
  refine hK.out _ _ ?_; clear hK K
  show Code.wp _ _ _ _ _
  clear r0 lx1 fx1
  refine fH ((((((HG.out).put2 1 0 rfl).put2 1 2 rfl).put 1 4 _ rfl).er 2).er 0) fun Wx8 HF => ?_
  clear HG
  refine wp_ret ?_
  try simp only [Exit.then, Exit.inBlock]
  have lx1 := HF.out.c 0 rfl
  have r0 := Gr.refl Wx8
  exact bodyPost_ret (v := .tuple #[(.agg #[.int .u64 ((lo (Int.natAbs ((z).num)) : Nat) : Int), .string (bg (Int.natAbs ((z).num))), .bool (decide (((z).num) < 0)), .int .u64 ((lo ((z).den - 1) : Nat) : Int), .string (bg ((z).den - 1))]), .int .i64 0]) (by simp [results, Tryz.results92, go_sem, lx1 _ r0]) rfl ⟨rfl, HF.out.1⟩

set_option maxRecDepth 20000 in
set_option maxHeartbeats 4000000 in
theorem rBelow_lo (a : Rat) (n : Int) (w : World) (hn : n < 0) :
    Calls Tryz.prog 23 #[(Value.agg #[.int .u64 ((lo (Int.natAbs ((a).num)) : Nat) : Int), .string (bg (Int.natAbs ((a).num))), .bool (decide (((a).num) < 0)), .int .u64 ((lo ((a).den - 1) : Nat) : Int), .string (bg ((a).den - 1))]), .int .i64 (n)] w fun e w' => e = .returned ((.tuple #[(.agg #[.int .u64 0, .string ⟨#[]⟩, .bool false, .int .u64 0, .string ⟨#[]⟩]), .int .i64 1])) ∧ Below w.heap.size w w' := by
  go_enter Tryz.func23, Tryz.ntmps23
  have HF := Lib.hid (hp0 w)
  refine kS fun K hK => ?_
  refine wp_region_lit ?_
  go_wp2
  refine hK.out _ _ ?_; clear hK K
  show Code.wp _ _ _ _ _
  refine fH (((HF.out).al (b := w.heap.size) (by first | rfl | simp) (by decide)).al (b := w.heap.size + 1) (by first | rfl | simp) (by decide)) fun Wx0 HG => ?_
  clear HF; have HF := HG; clear HG
  generalize w.heap.size + 1 = gx1 at *
  have lx0 := HF.out.c 0 rfl
  refine kS fun K hK => ?_
  refine sq 5 [(true, 0), (true, 1), (true, 2), (true, 3), (true, 4)] fun T hT => ?_
  iterate 2 refine tk ?_
  refine ck Tryz.call92 (fun w' hw => rtold_below_lo (a) (n) _ (by omega)) ?_
  iterate 2 refine tk ?_
  refine nlS hT HF fun vw1 HG => ?_
  clear hT T HF lx0
  have lx1 := HG.out.c 1 rfl; have fx1 := HG.out.f 1 rfl
  have r0 := Gr.refl vw1
  go_wp2
  refine hK.out _ _ ?_; clear hK K
  show Code.wp _ _ _ _ _
  clear r0 lx1 fx1
  refine fH (((((HG.out).put2 1 0 rfl).put2 1 2 rfl).put 1 4 _ rfl).er 0) fun Wx1 HF => ?_
  clear HG
  refine wp_ret ?_
  try simp only [Exit.then, Exit.inBlock]
  have lx1 := HF.out.c 0 rfl
  have r0 := Gr.refl Wx1
  exact bodyPost_ret (v := .tuple #[(.agg #[.int .u64 0, .string ⟨#[]⟩, .bool false, .int .u64 0, .string ⟨#[]⟩]), .int .i64 1]) (by simp [results, Tryz.results23, go_sem, lx1 _ r0]) rfl ⟨rfl, HF.out.1⟩

set_option maxRecDepth 20000 in
set_option maxHeartbeats 4000000 in
theorem rBelow_far (a : Rat) (n : Int) (w : World) (hn : 100 < n) :
    Calls Tryz.prog 23 #[(Value.agg #[.int .u64 ((lo (Int.natAbs ((a).num)) : Nat) : Int), .string (bg (Int.natAbs ((a).num))), .bool (decide (((a).num) < 0)), .int .u64 ((lo ((a).den - 1) : Nat) : Int), .string (bg ((a).den - 1))]), .int .i64 (n)] w fun e w' => e = .returned ((.tuple #[(.agg #[.int .u64 0, .string ⟨#[]⟩, .bool false, .int .u64 0, .string ⟨#[]⟩]), .int .i64 3])) ∧ Below w.heap.size w w' := by
  go_enter Tryz.func23, Tryz.ntmps23
  have HF := Lib.hid (hp0 w)
  refine kS fun K hK => ?_
  refine wp_region_lit ?_
  go_wp2
  refine hK.out _ _ ?_; clear hK K
  show Code.wp _ _ _ _ _
  refine fH (((HF.out).al (b := w.heap.size) (by first | rfl | simp) (by decide)).al (b := w.heap.size + 1) (by first | rfl | simp) (by decide)) fun Wx0 HG => ?_
  clear HF; have HF := HG; clear HG
  generalize w.heap.size + 1 = gx1 at *
  have lx0 := HF.out.c 0 rfl
  refine kS fun K hK => ?_
  refine sq 5 [(true, 0), (true, 1), (true, 2), (true, 3), (true, 4)] fun T hT => ?_
  iterate 2 refine tk ?_
  refine ck Tryz.call92 (fun w' hw => rtold_below_far (a) (n) _ (by omega)) ?_
  iterate 2 refine tk ?_
  refine nlS hT HF fun vw1 HG => ?_
  clear hT T HF lx0
  have lx1 := HG.out.c 1 rfl; have fx1 := HG.out.f 1 rfl
  have r0 := Gr.refl vw1
  go_wp2
  refine hK.out _ _ ?_; clear hK K
  show Code.wp _ _ _ _ _
  clear r0 lx1 fx1
  refine fH (((((HG.out).put2 1 0 rfl).put2 1 2 rfl).put 1 4 _ rfl).er 0) fun Wx1 HF => ?_
  clear HG
  refine wp_ret ?_
  try simp only [Exit.then, Exit.inBlock]
  have lx1 := HF.out.c 0 rfl
  have r0 := Gr.refl Wx1
  exact bodyPost_ret (v := .tuple #[(.agg #[.int .u64 0, .string ⟨#[]⟩, .bool false, .int .u64 0, .string ⟨#[]⟩]), .int .i64 3]) (by simp [results, Tryz.results23, go_sem, lx1 _ r0]) rfl ⟨rfl, HF.out.1⟩

set_option maxRecDepth 20000 in
set_option maxHeartbeats 4000000 in
theorem rBelow_neg (a : Rat) (k : Nat) (w : World) (HA : Hid (a < 0)) (hk : k ≤ 100) :
    Calls Tryz.prog 23 #[(Value.agg #[.int .u64 ((lo (Int.natAbs ((a).num)) : Nat) : Int), .string (bg (Int.natAbs ((a).num))), .bool (decide (((a).num) < 0)), .int .u64 ((lo ((a).den - 1) : Nat) : Int), .string (bg ((a).den - 1))]), .int .i64 (((k : Nat) : Int))] w fun e w' => e = .returned ((.tuple #[(.agg #[.int .u64 0, .string ⟨#[]⟩, .bool false, .int .u64 0, .string ⟨#[]⟩]), .int .i64 1])) ∧ Below w.heap.size w w' := by
  go_enter Tryz.func23, Tryz.ntmps23
  have HF := Lib.hid (hp0 w)
  refine kS fun K hK => ?_
  refine wp_region_lit ?_
  go_wp2
  refine hK.out _ _ ?_; clear hK K
  show Code.wp _ _ _ _ _
  refine fH (((HF.out).al (b := w.heap.size) (by first | rfl | simp) (by decide)).al (b := w.heap.size + 1) (by first | rfl | simp) (by decide)) fun Wx0 HG => ?_
  clear HF; have HF := HG; clear HG
  generalize w.heap.size + 1 = gx1 at *
  have lx0 := HF.out.c 0 rfl
  refine kS fun K hK => ?_
  refine sq 5 [(true, 0), (true, 1), (true, 2), (true, 3), (true, 4)] fun T hT => ?_
  iterate 2 refine tk ?_
  refine ck Tryz.call92 (fun w' hw => rtold_below_neg (a) k _ HA (by omega)) ?_
  iterate 2 refine tk ?_
  refine nlS hT HF fun vw1 HG => ?_
  clear hT T HF lx0
  have lx1 := HG.out.c 1 rfl; have fx1 := HG.out.f 1 rfl
  have r0 := Gr.refl vw1
  go_wp2
  refine hK.out _ _ ?_; clear hK K
  show Code.wp _ _ _ _ _
  clear r0 lx1 fx1
  refine fH (((((HG.out).put2 1 0 rfl).put2 1 2 rfl).put 1 4 _ rfl).er 0) fun Wx1 HF => ?_
  clear HG
  refine wp_ret ?_
  try simp only [Exit.then, Exit.inBlock]
  have lx1 := HF.out.c 0 rfl
  have r0 := Gr.refl Wx1
  exact bodyPost_ret (v := .tuple #[(.agg #[.int .u64 0, .string ⟨#[]⟩, .bool false, .int .u64 0, .string ⟨#[]⟩]), .int .i64 1]) (by simp [results, Tryz.results23, go_sem, lx1 _ r0]) rfl ⟨rfl, HF.out.1⟩

set_option maxRecDepth 20000 in
set_option maxHeartbeats 4000000 in
theorem rBelow_ok (a z : Rat) (k : Nat) (w : World) (HA : Hid (0 ≤ a)) (HZ : Hid (rlo a k = z)) (hk : k ≤ 100) (hs : sz a ≤ 1000) :
    Calls Tryz.prog 23 #[(Value.agg #[.int .u64 ((lo (Int.natAbs ((a).num)) : Nat) : Int), .string (bg (Int.natAbs ((a).num))), .bool (decide (((a).num) < 0)), .int .u64 ((lo ((a).den - 1) : Nat) : Int), .string (bg ((a).den - 1))]), .int .i64 (((k : Nat) : Int))] w fun e w' => e = .returned ((.tuple #[(Value.agg #[.int .u64 ((lo (Int.natAbs ((z).num)) : Nat) : Int), .string (bg (Int.natAbs ((z).num))), .bool (decide (((z).num) < 0)), .int .u64 ((lo ((z).den - 1) : Nat) : Int), .string (bg ((z).den - 1))]), .int .i64 0])) ∧ Below w.heap.size w w' := by
  go_enter Tryz.func23, Tryz.ntmps23
  have HF := Lib.hid (hp0 w)
  refine kS fun K hK => ?_
  refine wp_region_lit ?_
  go_wp2
  refine hK.out _ _ ?_; clear hK K
  show Code.wp _ _ _ _ _
  refine fH (((HF.out).al (b := w.heap.size) (by first | rfl | simp) (by decide)).al (b := w.heap.size + 1) (by first | rfl | simp) (by decide)) fun Wx0 HG => ?_
  clear HF; have HF := HG; clear HG
  generalize w.heap.size + 1 = gx1 at *
  have lx0 := HF.out.c 0 rfl
  refine kS fun K hK => ?_
  refine sq 5 [(true, 0), (true, 1), (true, 2), (true, 3), (true, 4)] fun T hT => ?_
  iterate 2 refine tk ?_
  refine ck Tryz.call92 (fun w' hw => rtold_below_ok (a) z k _ _ HA (Lib.hid rfl) HZ (by omega) om) ?_
  iterate 2 refine tk ?_
  refine nlS hT HF fun vw1 HG => ?_
  clear hT T HF lx0
  have lx1 := HG.out.c 1 rfl; have fx1 := HG.out.f 1 rfl
  have r0 := Gr.refl vw1
  go_wp2
  refine hK.out _ _ ?_; clear hK K
  show Code.wp _ _ _ _ _
  clear r0 lx1 fx1
  refine fH (((((HG.out).put2 1 0 rfl).put2 1 2 rfl).put 1 4 _ rfl).er 0) fun Wx1 HF => ?_
  clear HG
  refine wp_ret ?_
  try simp only [Exit.then, Exit.inBlock]
  have lx1 := HF.out.c 0 rfl
  have r0 := Gr.refl Wx1
  exact bodyPost_ret (v := .tuple #[(.agg #[.int .u64 ((lo (Int.natAbs ((z).num)) : Nat) : Int), .string (bg (Int.natAbs ((z).num))), .bool (decide (((z).num) < 0)), .int .u64 ((lo ((z).den - 1) : Nat) : Int), .string (bg ((z).den - 1))]), .int .i64 0]) (by simp [results, Tryz.results23, go_sem, lx1 _ r0]) rfl ⟨rfl, HF.out.1⟩

set_option maxRecDepth 20000 in
set_option maxHeartbeats 4000000 in
theorem rAbove_lo (a : Rat) (n : Int) (w : World) (hn : n < 0) :
    Calls Tryz.prog 25 #[(Value.agg #[.int .u64 ((lo (Int.natAbs ((a).num)) : Nat) : Int), .string (bg (Int.natAbs ((a).num))), .bool (decide (((a).num) < 0)), .int .u64 ((lo ((a).den - 1) : Nat) : Int), .string (bg ((a).den - 1))]), .int .i64 (n)] w fun e w' => e = .returned ((.tuple #[(.agg #[.int .u64 0, .string ⟨#[]⟩, .bool false, .int .u64 0, .string ⟨#[]⟩]), .int .i64 1])) ∧ Below w.heap.size w w' := by
  go_enter Tryz.func25, Tryz.ntmps25
  have HF := Lib.hid (hp0 w)
  refine kS fun K hK => ?_
  refine wp_region_lit ?_
  go_wp2
  refine hK.out _ _ ?_; clear hK K
  show Code.wp _ _ _ _ _
  refine fH (((HF.out).al (b := w.heap.size) (by first | rfl | simp) (by decide)).al (b := w.heap.size + 1) (by first | rfl | simp) (by decide)) fun Wx0 HG => ?_
  clear HF; have HF := HG; clear HG
  generalize w.heap.size + 1 = gx1 at *
  have lx0 := HF.out.c 0 rfl
  refine kS fun K hK => ?_
  refine sq 5 [(true, 0), (true, 1), (true, 2), (true, 3), (true, 4)] fun T hT => ?_
  iterate 2 refine tk ?_
  refine ck Tryz.call92 (fun w' hw => rtold_above_lo (a) (n) _ (by omega)) ?_
  iterate 2 refine tk ?_
  refine nlS hT HF fun vw1 HG => ?_
  clear hT T HF lx0
  have lx1 := HG.out.c 1 rfl; have fx1 := HG.out.f 1 rfl
  have r0 := Gr.refl vw1
  go_wp2
  refine hK.out _ _ ?_; clear hK K
  show Code.wp _ _ _ _ _
  clear r0 lx1 fx1
  refine fH (((((HG.out).put2 1 0 rfl).put2 1 2 rfl).put 1 4 _ rfl).er 0) fun Wx1 HF => ?_
  clear HG
  refine wp_ret ?_
  try simp only [Exit.then, Exit.inBlock]
  have lx1 := HF.out.c 0 rfl
  have r0 := Gr.refl Wx1
  exact bodyPost_ret (v := .tuple #[(.agg #[.int .u64 0, .string ⟨#[]⟩, .bool false, .int .u64 0, .string ⟨#[]⟩]), .int .i64 1]) (by simp [results, Tryz.results25, go_sem, lx1 _ r0]) rfl ⟨rfl, HF.out.1⟩

set_option maxRecDepth 20000 in
set_option maxHeartbeats 4000000 in
theorem rAbove_far (a : Rat) (n : Int) (w : World) (hn : 100 < n) :
    Calls Tryz.prog 25 #[(Value.agg #[.int .u64 ((lo (Int.natAbs ((a).num)) : Nat) : Int), .string (bg (Int.natAbs ((a).num))), .bool (decide (((a).num) < 0)), .int .u64 ((lo ((a).den - 1) : Nat) : Int), .string (bg ((a).den - 1))]), .int .i64 (n)] w fun e w' => e = .returned ((.tuple #[(.agg #[.int .u64 0, .string ⟨#[]⟩, .bool false, .int .u64 0, .string ⟨#[]⟩]), .int .i64 3])) ∧ Below w.heap.size w w' := by
  go_enter Tryz.func25, Tryz.ntmps25
  have HF := Lib.hid (hp0 w)
  refine kS fun K hK => ?_
  refine wp_region_lit ?_
  go_wp2
  refine hK.out _ _ ?_; clear hK K
  show Code.wp _ _ _ _ _
  refine fH (((HF.out).al (b := w.heap.size) (by first | rfl | simp) (by decide)).al (b := w.heap.size + 1) (by first | rfl | simp) (by decide)) fun Wx0 HG => ?_
  clear HF; have HF := HG; clear HG
  generalize w.heap.size + 1 = gx1 at *
  have lx0 := HF.out.c 0 rfl
  refine kS fun K hK => ?_
  refine sq 5 [(true, 0), (true, 1), (true, 2), (true, 3), (true, 4)] fun T hT => ?_
  iterate 2 refine tk ?_
  refine ck Tryz.call92 (fun w' hw => rtold_above_far (a) (n) _ (by omega)) ?_
  iterate 2 refine tk ?_
  refine nlS hT HF fun vw1 HG => ?_
  clear hT T HF lx0
  have lx1 := HG.out.c 1 rfl; have fx1 := HG.out.f 1 rfl
  have r0 := Gr.refl vw1
  go_wp2
  refine hK.out _ _ ?_; clear hK K
  show Code.wp _ _ _ _ _
  clear r0 lx1 fx1
  refine fH (((((HG.out).put2 1 0 rfl).put2 1 2 rfl).put 1 4 _ rfl).er 0) fun Wx1 HF => ?_
  clear HG
  refine wp_ret ?_
  try simp only [Exit.then, Exit.inBlock]
  have lx1 := HF.out.c 0 rfl
  have r0 := Gr.refl Wx1
  exact bodyPost_ret (v := .tuple #[(.agg #[.int .u64 0, .string ⟨#[]⟩, .bool false, .int .u64 0, .string ⟨#[]⟩]), .int .i64 3]) (by simp [results, Tryz.results25, go_sem, lx1 _ r0]) rfl ⟨rfl, HF.out.1⟩

set_option maxRecDepth 20000 in
set_option maxHeartbeats 4000000 in
theorem rAbove_neg (a : Rat) (k : Nat) (w : World) (HA : Hid (a < 0)) (hk : k ≤ 100) :
    Calls Tryz.prog 25 #[(Value.agg #[.int .u64 ((lo (Int.natAbs ((a).num)) : Nat) : Int), .string (bg (Int.natAbs ((a).num))), .bool (decide (((a).num) < 0)), .int .u64 ((lo ((a).den - 1) : Nat) : Int), .string (bg ((a).den - 1))]), .int .i64 (((k : Nat) : Int))] w fun e w' => e = .returned ((.tuple #[(.agg #[.int .u64 0, .string ⟨#[]⟩, .bool false, .int .u64 0, .string ⟨#[]⟩]), .int .i64 1])) ∧ Below w.heap.size w w' := by
  go_enter Tryz.func25, Tryz.ntmps25
  have HF := Lib.hid (hp0 w)
  refine kS fun K hK => ?_
  refine wp_region_lit ?_
  go_wp2
  refine hK.out _ _ ?_; clear hK K
  show Code.wp _ _ _ _ _
  refine fH (((HF.out).al (b := w.heap.size) (by first | rfl | simp) (by decide)).al (b := w.heap.size + 1) (by first | rfl | simp) (by decide)) fun Wx0 HG => ?_
  clear HF; have HF := HG; clear HG
  generalize w.heap.size + 1 = gx1 at *
  have lx0 := HF.out.c 0 rfl
  refine kS fun K hK => ?_
  refine sq 5 [(true, 0), (true, 1), (true, 2), (true, 3), (true, 4)] fun T hT => ?_
  iterate 2 refine tk ?_
  refine ck Tryz.call92 (fun w' hw => rtold_above_neg (a) k _ HA (by omega)) ?_
  iterate 2 refine tk ?_
  refine nlS hT HF fun vw1 HG => ?_
  clear hT T HF lx0
  have lx1 := HG.out.c 1 rfl; have fx1 := HG.out.f 1 rfl
  have r0 := Gr.refl vw1
  go_wp2
  refine hK.out _ _ ?_; clear hK K
  show Code.wp _ _ _ _ _
  clear r0 lx1 fx1
  refine fH (((((HG.out).put2 1 0 rfl).put2 1 2 rfl).put 1 4 _ rfl).er 0) fun Wx1 HF => ?_
  clear HG
  refine wp_ret ?_
  try simp only [Exit.then, Exit.inBlock]
  have lx1 := HF.out.c 0 rfl
  have r0 := Gr.refl Wx1
  exact bodyPost_ret (v := .tuple #[(.agg #[.int .u64 0, .string ⟨#[]⟩, .bool false, .int .u64 0, .string ⟨#[]⟩]), .int .i64 1]) (by simp [results, Tryz.results25, go_sem, lx1 _ r0]) rfl ⟨rfl, HF.out.1⟩

set_option maxRecDepth 20000 in
set_option maxHeartbeats 4000000 in
theorem rAbove_ok (a z : Rat) (k : Nat) (w : World) (HA : Hid (0 ≤ a)) (HZ : Hid (rhi a k = z)) (hk : k ≤ 100) (hs : sz a ≤ 1000) :
    Calls Tryz.prog 25 #[(Value.agg #[.int .u64 ((lo (Int.natAbs ((a).num)) : Nat) : Int), .string (bg (Int.natAbs ((a).num))), .bool (decide (((a).num) < 0)), .int .u64 ((lo ((a).den - 1) : Nat) : Int), .string (bg ((a).den - 1))]), .int .i64 (((k : Nat) : Int))] w fun e w' => e = .returned ((.tuple #[(Value.agg #[.int .u64 ((lo (Int.natAbs ((z).num)) : Nat) : Int), .string (bg (Int.natAbs ((z).num))), .bool (decide (((z).num) < 0)), .int .u64 ((lo ((z).den - 1) : Nat) : Int), .string (bg ((z).den - 1))]), .int .i64 0])) ∧ Below w.heap.size w w' := by
  go_enter Tryz.func25, Tryz.ntmps25
  have HF := Lib.hid (hp0 w)
  refine kS fun K hK => ?_
  refine wp_region_lit ?_
  go_wp2
  refine hK.out _ _ ?_; clear hK K
  show Code.wp _ _ _ _ _
  refine fH (((HF.out).al (b := w.heap.size) (by first | rfl | simp) (by decide)).al (b := w.heap.size + 1) (by first | rfl | simp) (by decide)) fun Wx0 HG => ?_
  clear HF; have HF := HG; clear HG
  generalize w.heap.size + 1 = gx1 at *
  have lx0 := HF.out.c 0 rfl
  refine kS fun K hK => ?_
  refine sq 5 [(true, 0), (true, 1), (true, 2), (true, 3), (true, 4)] fun T hT => ?_
  iterate 2 refine tk ?_
  refine ck Tryz.call92 (fun w' hw => rtold_above_ok (a) z k _ _ HA (Lib.hid rfl) HZ (by omega) om) ?_
  iterate 2 refine tk ?_
  refine nlS hT HF fun vw1 HG => ?_
  clear hT T HF lx0
  have lx1 := HG.out.c 1 rfl; have fx1 := HG.out.f 1 rfl
  have r0 := Gr.refl vw1
  go_wp2
  refine hK.out _ _ ?_; clear hK K
  show Code.wp _ _ _ _ _
  clear r0 lx1 fx1
  refine fH (((((HG.out).put2 1 0 rfl).put2 1 2 rfl).put 1 4 _ rfl).er 0) fun Wx1 HF => ?_
  clear HG
  refine wp_ret ?_
  try simp only [Exit.then, Exit.inBlock]
  have lx1 := HF.out.c 0 rfl
  have r0 := Gr.refl Wx1
  exact bodyPost_ret (v := .tuple #[(.agg #[.int .u64 ((lo (Int.natAbs ((z).num)) : Nat) : Int), .string (bg (Int.natAbs ((z).num))), .bool (decide (((z).num) < 0)), .int .u64 ((lo ((z).den - 1) : Nat) : Int), .string (bg ((z).den - 1))]), .int .i64 0]) (by simp [results, Tryz.results25, go_sem, lx1 _ r0]) rfl ⟨rfl, HF.out.1⟩

theorem zBelow_lo (a : Rat) (n : Int) (w : World) (hn : n < 0) :
    Calls Tryz.prog 23 #[(Value.agg #[.int .u64 ((lo (Int.natAbs ((a).num)) : Nat) : Int), .string (bg (Int.natAbs ((a).num))), .bool (decide (((a).num) < 0)), .int .u64 ((lo ((a).den - 1) : Nat) : Int), .string (bg ((a).den - 1))]), .int .i64 n] w fun e w' => e = .returned (.tuple #[(Value.agg #[.int .u64 ((lo (Int.natAbs (((0 : Rat)).num)) : Nat) : Int), .string (bg (Int.natAbs (((0 : Rat)).num))), .bool (decide ((((0 : Rat)).num) < 0)), .int .u64 ((lo (((0 : Rat)).den - 1) : Nat) : Int), .string (bg (((0 : Rat)).den - 1))]), .int .i64 1]) ∧ Below w.heap.size w w' := rBelow_lo a n w hn
theorem zBelow_far (a : Rat) (n : Int) (w : World) (hn : 100 < n) :
    Calls Tryz.prog 23 #[(Value.agg #[.int .u64 ((lo (Int.natAbs ((a).num)) : Nat) : Int), .string (bg (Int.natAbs ((a).num))), .bool (decide (((a).num) < 0)), .int .u64 ((lo ((a).den - 1) : Nat) : Int), .string (bg ((a).den - 1))]), .int .i64 n] w fun e w' => e = .returned (.tuple #[(Value.agg #[.int .u64 ((lo (Int.natAbs (((0 : Rat)).num)) : Nat) : Int), .string (bg (Int.natAbs (((0 : Rat)).num))), .bool (decide ((((0 : Rat)).num) < 0)), .int .u64 ((lo (((0 : Rat)).den - 1) : Nat) : Int), .string (bg (((0 : Rat)).den - 1))]), .int .i64 3]) ∧ Below w.heap.size w w' := rBelow_far a n w hn
theorem zBelow_neg (a : Rat) (k : Nat) (w : World) (ha : a < 0) (hk : k ≤ 100) :
    Calls Tryz.prog 23 #[(Value.agg #[.int .u64 ((lo (Int.natAbs ((a).num)) : Nat) : Int), .string (bg (Int.natAbs ((a).num))), .bool (decide (((a).num) < 0)), .int .u64 ((lo ((a).den - 1) : Nat) : Int), .string (bg ((a).den - 1))]), .int .i64 ((k : Nat) : Int)] w fun e w' => e = .returned (.tuple #[(Value.agg #[.int .u64 ((lo (Int.natAbs (((0 : Rat)).num)) : Nat) : Int), .string (bg (Int.natAbs (((0 : Rat)).num))), .bool (decide ((((0 : Rat)).num) < 0)), .int .u64 ((lo (((0 : Rat)).den - 1) : Nat) : Int), .string (bg (((0 : Rat)).den - 1))]), .int .i64 1]) ∧ Below w.heap.size w w' := rBelow_neg a k w (Lib.hid ha) hk
theorem zAbove_lo (a : Rat) (n : Int) (w : World) (hn : n < 0) :
    Calls Tryz.prog 25 #[(Value.agg #[.int .u64 ((lo (Int.natAbs ((a).num)) : Nat) : Int), .string (bg (Int.natAbs ((a).num))), .bool (decide (((a).num) < 0)), .int .u64 ((lo ((a).den - 1) : Nat) : Int), .string (bg ((a).den - 1))]), .int .i64 n] w fun e w' => e = .returned (.tuple #[(Value.agg #[.int .u64 ((lo (Int.natAbs (((0 : Rat)).num)) : Nat) : Int), .string (bg (Int.natAbs (((0 : Rat)).num))), .bool (decide ((((0 : Rat)).num) < 0)), .int .u64 ((lo (((0 : Rat)).den - 1) : Nat) : Int), .string (bg (((0 : Rat)).den - 1))]), .int .i64 1]) ∧ Below w.heap.size w w' := rAbove_lo a n w hn
theorem zAbove_far (a : Rat) (n : Int) (w : World) (hn : 100 < n) :
    Calls Tryz.prog 25 #[(Value.agg #[.int .u64 ((lo (Int.natAbs ((a).num)) : Nat) : Int), .string (bg (Int.natAbs ((a).num))), .bool (decide (((a).num) < 0)), .int .u64 ((lo ((a).den - 1) : Nat) : Int), .string (bg ((a).den - 1))]), .int .i64 n] w fun e w' => e = .returned (.tuple #[(Value.agg #[.int .u64 ((lo (Int.natAbs (((0 : Rat)).num)) : Nat) : Int), .string (bg (Int.natAbs (((0 : Rat)).num))), .bool (decide ((((0 : Rat)).num) < 0)), .int .u64 ((lo (((0 : Rat)).den - 1) : Nat) : Int), .string (bg (((0 : Rat)).den - 1))]), .int .i64 3]) ∧ Below w.heap.size w w' := rAbove_far a n w hn
theorem zAbove_neg (a : Rat) (k : Nat) (w : World) (ha : a < 0) (hk : k ≤ 100) :
    Calls Tryz.prog 25 #[(Value.agg #[.int .u64 ((lo (Int.natAbs ((a).num)) : Nat) : Int), .string (bg (Int.natAbs ((a).num))), .bool (decide (((a).num) < 0)), .int .u64 ((lo ((a).den - 1) : Nat) : Int), .string (bg ((a).den - 1))]), .int .i64 ((k : Nat) : Int)] w fun e w' => e = .returned (.tuple #[(Value.agg #[.int .u64 ((lo (Int.natAbs (((0 : Rat)).num)) : Nat) : Int), .string (bg (Int.natAbs (((0 : Rat)).num))), .bool (decide ((((0 : Rat)).num) < 0)), .int .u64 ((lo (((0 : Rat)).den - 1) : Nat) : Int), .string (bg (((0 : Rat)).den - 1))]), .int .i64 1]) ∧ Below w.heap.size w w' := rAbove_neg a k w (Lib.hid ha) hk

end Go.Proofs.YtaflakcemiilaaaGreatDoor
