
/- decimals: ten, whole, by, rounded. -/
import Derived.Test.YtobojnodohjiaaaGreatDoorPV
import Derived.Test.YtobojnodohjiaaaGreatDoorFieldP
import Derived.Test.YtobojnodohjiaaaGreatDoorHp
namespace Go.Proofs.YtobojnodohjiaaaGreatDoor
open Go.RowKit
set_option linter.unusedSimpArgs false
set_option linter.unusedVariables false
attribute [local go_sem ↓] Go.wp_at_zero Go.wp_at_succ
attribute [local go_sem ↓] eq_nat eq_nat_zero eq_int
theorem wl_ten {k : Nat} (h : k ≤ 101) : wl (10 ^ k) ≤ 12 := Nat.le_trans (wl_mono (Nat.pow_le_pow_right (by decide) h)) (wl_le.2 (by decide +kernel))
/-- the integer that a times 10^places is rounded to -/
def rnd (way : Int) (x : Rat) : Int :=
  if way = 1 then x.floor else if way = 2 then x.ceil
  else if sgQ ((x - (x.floor : Rat)) + (x - (x.floor : Rat)) - 1) < 0 ∨ (sgQ ((x - (x.floor : Rat)) + (x - (x.floor : Rat)) - 1) = 0 ∧ x.floor % 2 = 0) then x.floor else x.ceil
theorem rnd_or (way : Int) (x : Rat) : rnd way x = x.floor ∨ rnd way x = x.ceil := by
  unfold rnd
  split
  · exact .inl rfl
  · split
    · exact .inr rfl
    · split
      · exact .inl rfl
      · exact .inr rfl
theorem wl_rnd (way : Int) (x : Rat) : wl (rnd way x).natAbs ≤ sz x + 1 := by
  rcases rnd_or way x with h | h <;> rw [h]
  · exact wl_floor x
  · exact wl_ceil x
/-- a rounded to a multiple of 10^-k -/
def rdd (way : Int) (a : Rat) (k : Nat) : Rat := mkRat (rnd way (a * (((10 ^ k : Nat) : Int) : Rat))) (10 ^ k)
theorem sz_tenq {k : Nat} (h : k ≤ 101) : sz (((10 ^ k : Nat) : Int) : Rat) ≤ 12 := by
  rw [sz_int, Int.natAbs_natCast]; have := wl_ten h; omega
theorem sz_rdd {way : Int} {a : Rat} {k M : Nat} (hk : k ≤ 101) (h : sz a ≤ M) : sz (rdd way a k) ≤ M + 13 := by
  have h1 := sz_mul a ((((10 ^ k : Nat) : Int) : Rat))
  have h2 := sz_tenq hk
  have h3 := wl_rnd way (a * (((10 ^ k : Nat) : Int) : Rat))
  have h4 := wl_ten hk
  exact sz_mkRat (by omega) (by omega) (by omega)

set_option maxRecDepth 20000 in
set_option maxHeartbeats 4000000 in
theorem dten_any (k z : Nat) (w : World) (HZ : Hid (10 ^ k = z)) (hk : k ≤ 101) :
    Calls Tryz.prog 264 #[.int .i64 (((k : Nat) : Int))] w fun e w' => e = .returned (.agg #[.int .u64 ((lo (z) : Nat) : Int), .string (bg (z))]) ∧ Below w.heap.size w w' := by
  go_enter Tryz.func264, Tryz.ntmps264
  have HF := Lib.hid (hp0 w)
  refine kS fun K hK => ?_
  refine wp_region_lit ?_
  go_wp2
  refine hK.out _ _ ?_; clear hK K
  show Code.wp _ _ _ _ _
  refine fH ((HF.out).al (b := w.heap.size) (by first | rfl | simp) (by decide)) fun Wx0 HG => ?_
  clear HF; have HF := HG; clear HG
  have su_0_1 : wl 10 ≤ 1 := wl_le.2 (by decide +kernel)
  have HZ1 : Hid ((10) ^ k = z) := Lib.hid (HZ.out)
  have su1 : wl (z) ≤ 8192 := by have e := HZ1.out; first | omega | (rw [← e]; exact wl_pow _ _ (by rw [show nb 10 = 4 from by decide +kernel]; omega))
  refine kS fun K hK => ?_
  refine sq 6 [(true, 0), (true, 1), (true, 2), (true, 3), (true, 4), (true, 5)] fun T hT => ?_
  refine ck Tryz.call24 (fun w' hw => nzof 10 _ (by decide)) ?_
  refine tk ?_
  refine ck Tryz.call164 (fun w' hw => nzpow (10) k (z) _ HZ1.out (by omega) (by rw [show nb 10 = 4 from by decide +kernel]; omega) om) ?_
  iterate 3 refine tk ?_
  refine nlS hT HF fun vw1 HG => ?_
  clear hT T HF
  go_wp2
  refine hK.out _ _ ?_; clear hK K
  show Code.wp _ _ _ _ _
  refine fH ((HG.out).al (b := vw1.heap.size) (by first | rfl | simp) (by decide)) fun Wx1 HF => ?_
  clear HG
  generalize vw1.heap.size = gx2 at *
  have lx2 := HF.out.c 1 rfl
  refine kS fun K hK => ?_
  refine sq 1 [(true, 0)] fun T hT => ?_
  refine tk ?_
  refine nlS hT HF fun vw2 HG => ?_
  clear hT T HF lx2
  have lx0 := HG.out.c 0 rfl; have fx0 := HG.out.f 0 rfl
  have r0 := Gr.refl vw2
  go_wp2
  refine hK.out _ _ ?_; clear hK K
  show Code.wp _ _ _ _ _
  clear r0 lx0 fx0
  refine fH (((HG.out).put2 0 0 rfl).er 1) fun Wx2 HF => ?_
  clear HG
  refine wp_ret ?_
  try simp only [Exit.then, Exit.inBlock]
  have lx0 := HF.out.c 0 rfl
  have r0 := Gr.refl Wx2
  exact bodyPost_ret (v := .agg #[.int .u64 ((lo (z) : Nat) : Int), .string (bg (z))]) (by simp [results, Tryz.results264, go_sem, lx0 _ r0]) rfl ⟨rfl, HF.out.1⟩

set_option maxRecDepth 20000 in
set_option maxHeartbeats 4000000 in
theorem dwhole_any (n : Int) (z : Rat) (w : World) (HZ : Hid (((n : Int) : Rat) = z)) (hn9 : wl n.natAbs ≤ 100000000000) :
    Calls Tryz.prog 263 #[(Value.agg #[.int .u64 ((lo (Int.natAbs (n)) : Nat) : Int), .string (bg (Int.natAbs (n))), .bool (decide ((n) < 0))])] w fun e w' => e = .returned (.agg #[.int .u64 ((lo (Int.natAbs ((z).num)) : Nat) : Int), .string (bg (Int.natAbs ((z).num))), .bool (decide (((z).num) < 0)), .int .u64 ((lo ((z).den - 1) : Nat) : Int), .string (bg ((z).den - 1))]) ∧ Below w.heap.size w w' := by
  go_enter Tryz.func263, Tryz.ntmps263
  have HF := Lib.hid (hp0 w)
  refine kS fun K hK => ?_
  refine wp_region_lit ?_
  go_wp2
  refine hK.out _ _ ?_; clear hK K
  show Code.wp _ _ _ _ _
  refine fH (((HF.out).al (b := w.heap.size) (by first | rfl | simp) (by decide)).al (b := w.heap.size + 1) (by first | rfl | simp) (by decide)) fun Wx0 HG => ?_
  clear HF; have HF := HG; clear HG
  generalize w.heap.size + 1 = gx1 at *
  have su_0_1 : wl 1 ≤ 1 := wl_le.2 (by decide +kernel)
  have HZ1 : Hid (mkRat (n) (1) = z) := Lib.hid (by rw [mk_one]; exact HZ.out)
  have su1 : sz (z) ≤ 100000000000 := by have e := HZ1.out; first | omega | (rw [← e]; exact sz_mkRat (k := 100000000000) om om (by decide))
  have lx0 := HF.out.c 0 rfl
  refine kS fun K hK => ?_
  refine wp_region_plan 7 [6] [5] (fun _ => 3) (fun _ => .cells #[.int .u64 0, .string ⟨#[]⟩, .bool false, .int .u64 0, .string ⟨#[]⟩] 36) [(true, 0), (true, 1), (true, 2), (true, 3), (true, 4), (true, 5)] (by kernel_rfl) (by kernel_rfl) (by intro i hi; simp only [List.mem_cons, List.not_mem_nil, or_false] at hi; rcases hi with rfl <;> exact ⟨_, rfl, rfl, rfl, by simp, fun ρ w => by kernel_rfl⟩) (by intro i hi; simp only [List.mem_cons, List.not_mem_nil, or_false] at hi; rcases hi with rfl <;> exact ⟨_, rfl, pure_extract⟩) (fun _ _ _ _ _ h => h) (fun T hT => ?_)
  refine tk ?_
  refine ck Tryz.call24 (fun w' hw => nzof 1 _ (by decide)) ?_
  refine ck Tryz.call102 (fun w' hw => ffrom_ok (n) (1) (z) _ (Lib.hid HZ1.out) (ok) om om) ?_
  iterate 3 refine tk ?_
  refine wpPlan_nil (hT.out _ _ ?_)
  intro G vw1 hg hf
  simp only [puts, Act.put, lA, lB, lC, lD, lE, ↓reduceIte, Nat.reduceEqDiff]
  have HG := Lib.hid (HF.out.fr hg hf (zs := [(#[.int .u64 0, .string ⟨#[]⟩, .bool false, .int .u64 0, .string ⟨#[]⟩], 36)]) rfl (by decide) (by decide))
  simp only [List.zip_cons_cons, List.zip_nil_right, List.map_cons, List.map_nil, lF, lG] at HG
  clear hT T HF hg hf lx0
  generalize G 6 = gx3 at *
  have lx3 := HG.out.c 2 rfl; have fx3 := HG.out.f 2 rfl
  have r0 := Gr.refl vw1
  go_wp2
  refine hK.out _ _ ?_; clear hK K
  show Code.wp _ _ _ _ _
  clear r0 lx3 fx3
  refine fH (((((HG.out).put2 2 0 rfl).put2 2 2 rfl).put 2 4 _ rfl).er 0) fun Wx1 HF => ?_
  clear HG
  have lx3 := HF.out.c 1 rfl
  refine kS fun K hK => ?_
  refine sq 1 [(true, 0)] fun T hT => ?_
  refine tk ?_
  refine nlS hT HF fun vw2 HG => ?_
  clear hT T HF lx3
  have lx1 := HG.out.c 0 rfl; have fx1 := HG.out.f 0 rfl
  have r0 := Gr.refl vw2
  go_wp2
  refine hK.out _ _ ?_; clear hK K
  show Code.wp _ _ _ _ _
  clear r0 lx1 fx1
  refine fH (((((HG.out).put2 0 0 rfl).put2 0 2 rfl).put 0 4 _ rfl).er 1) fun Wx2 HF => ?_
  clear HG
  refine wp_ret ?_
  try simp only [Exit.then, Exit.inBlock]
  have lx1 := HF.out.c 0 rfl
  have r0 := Gr.refl Wx2
  exact bodyPost_ret (v := .agg #[.int .u64 ((lo (Int.natAbs ((z).num)) : Nat) : Int), .string (bg (Int.natAbs ((z).num))), .bool (decide (((z).num) < 0)), .int .u64 ((lo ((z).den - 1) : Nat) : Int), .string (bg ((z).den - 1))]) (by simp [results, Tryz.results263, go_sem, lx1 _ r0]) rfl ⟨rfl, HF.out.1⟩

set_option maxRecDepth 20000 in
set_option maxHeartbeats 4000000 in
theorem dby_any (n : Int) (k p : Nat) (z : Rat) (w : World) (HP : Hid (10 ^ k = p)) (HP0 : Hid (0 < p)) (HZ : Hid (mkRat n p = z)) (hk : k ≤ 101) (hn9 : wl n.natAbs ≤ 10000000000) :
    Calls Tryz.prog 240 #[(Value.agg #[.int .u64 ((lo (Int.natAbs (n)) : Nat) : Int), .string (bg (Int.natAbs (n))), .bool (decide ((n) < 0))]), .int .i64 (((k : Nat) : Int))] w fun e w' => e = .returned (.agg #[.int .u64 ((lo (Int.natAbs ((z).num)) : Nat) : Int), .string (bg (Int.natAbs ((z).num))), .bool (decide (((z).num) < 0)), .int .u64 ((lo ((z).den - 1) : Nat) : Int), .string (bg ((z).den - 1))]) ∧ Below w.heap.size w w' := by
  go_enter Tryz.func240, Tryz.ntmps240
  have HF := Lib.hid (hp0 w)
  refine kS fun K hK => ?_
  refine wp_region_lit ?_
  go_wp2
  refine hK.out _ _ ?_; clear hK K
  show Code.wp _ _ _ _ _
  refine fH (((HF.out).al (b := w.heap.size) (by first | rfl | simp) (by decide)).al (b := w.heap.size + 1) (by first | rfl | simp) (by decide)) fun Wx0 HG => ?_
  clear HF; have HF := HG; clear HG
  generalize w.heap.size + 1 = gx1 at *
  have HZ1 : Hid (10 ^ k = p) := Lib.hid (HP.out)
  have su1 : wl (p) ≤ 12 := by have e := HZ1.out; first | omega | (rw [← e]; exact wl_ten (by omega))
  have HZ2 : Hid (mkRat (n) (p) = z) := Lib.hid (HZ.out)
  have su2 : sz (z) ≤ 10000000000 := by have e := HZ2.out; first | omega | (rw [← e]; exact sz_mkRat (k := 10000000000) om om (by decide))
  have lx0 := HF.out.c 0 rfl
  refine kS fun K hK => ?_
  refine wp_region_plan 8 [7] [6] (fun _ => 5) (fun _ => .cells #[.int .u64 0, .string ⟨#[]⟩, .bool false, .int .u64 0, .string ⟨#[]⟩] 36) [(true, 0), (true, 1), (true, 2), (true, 3), (true, 4), (true, 5), (true, 6)] (by kernel_rfl) (by kernel_rfl) (by intro i hi; simp only [List.mem_cons, List.not_mem_nil, or_false] at hi; rcases hi with rfl <;> exact ⟨_, rfl, rfl, rfl, by simp, fun ρ w => by kernel_rfl⟩) (by intro i hi; simp only [List.mem_cons, List.not_mem_nil, or_false] at hi; rcases hi with rfl <;> exact ⟨_, rfl, pure_extract⟩) (fun _ _ _ _ _ h => h) (fun T hT => ?_)
  iterate 2 refine tk ?_
  refine ck Tryz.call264 (fun w' hw => dten_any k (p) _ (Lib.hid HZ1.out) (by omega)) ?_
  refine ck Tryz.call102 (fun w' hw => ffrom_ok (n) (p) (z) _ (Lib.hid HZ2.out) (by exact HP0.out) om om) ?_
  iterate 3 refine tk ?_
  refine wpPlan_nil (hT.out _ _ ?_)
  intro G vw1 hg hf
  simp only [puts, Act.put, lA, lB, lC, lD, lE, ↓reduceIte, Nat.reduceEqDiff]
  have HG := Lib.hid (HF.out.fr hg hf (zs := [(#[.int .u64 0, .string ⟨#[]⟩, .bool false, .int .u64 0, .string ⟨#[]⟩], 36)]) rfl (by decide) (by decide))
  simp only [List.zip_cons_cons, List.zip_nil_right, List.map_cons, List.map_nil, lF, lG] at HG
  clear hT T HF hg hf lx0
  generalize G 7 = gx3 at *
  have lx3 := HG.out.c 2 rfl; have fx3 := HG.out.f 2 rfl
  have r0 := Gr.refl vw1
  go_wp2
  refine hK.out _ _ ?_; clear hK K
  show Code.wp _ _ _ _ _
  clear r0 lx3 fx3
  refine fH (((((HG.out).put2 2 0 rfl).put2 2 2 rfl).put 2 4 _ rfl).er 0) fun Wx1 HF => ?_
  clear HG
  have lx3 := HF.out.c 1 rfl
  refine kS fun K hK => ?_
  refine sq 1 [(true, 0)] fun T hT => ?_
  refine tk ?_
  refine nlS hT HF fun vw2 HG => ?_
  clear hT T HF lx3
  have lx1 := HG.out.c 0 rfl; have fx1 := HG.out.f 0 rfl
  have r0 := Gr.refl vw2
  go_wp2
  refine hK.out _ _ ?_; clear hK K
  show Code.wp _ _ _ _ _
  clear r0 lx1 fx1
  refine fH (((((HG.out).put2 0 0 rfl).put2 0 2 rfl).put 0 4 _ rfl).er 1) fun Wx2 HF => ?_
  clear HG
  refine wp_ret ?_
  try simp only [Exit.then, Exit.inBlock]
  have lx1 := HF.out.c 0 rfl
  have r0 := Gr.refl Wx2
  exact bodyPost_ret (v := .agg #[.int .u64 ((lo (Int.natAbs ((z).num)) : Nat) : Int), .string (bg (Int.natAbs ((z).num))), .bool (decide (((z).num) < 0)), .int .u64 ((lo ((z).den - 1) : Nat) : Int), .string (bg ((z).den - 1))]) (by simp [results, Tryz.results240, go_sem, lx1 _ r0]) rfl ⟨rfl, HF.out.1⟩

set_option maxRecDepth 20000 in
set_option maxHeartbeats 4000000 in
theorem drnd_1 (a x y : Rat) (k p : Nat) (f c : Int) (w : World) (HP : Hid (10 ^ k = p)) (HY : Hid ((((p : Nat) : Int) : Rat) = y)) (HX : Hid (a * y = x)) (HFL : Hid (x.floor = f)) (HCE : Hid (x.ceil = c)) (hk : k ≤ 100) (hs : sz a ≤ 1000) (hsy : sz y ≤ 12) :
    Calls Tryz.prog 239 #[(Value.agg #[.int .u64 ((lo (Int.natAbs ((a).num)) : Nat) : Int), .string (bg (Int.natAbs ((a).num))), .bool (decide (((a).num) < 0)), .int .u64 ((lo ((a).den - 1) : Nat) : Int), .string (bg ((a).den - 1))]), .int .i64 (((k : Nat) : Int)), .int .i64 1] w fun e w' => e = .returned (.tuple #[(.agg #[.int .u64 ((lo (Int.natAbs (f)) : Nat) : Int), .string (bg (Int.natAbs (f))), .bool (decide ((f) < 0))]), .int .i64 0]) ∧ Below w.heap.size w w' := by
  go_enter Tryz.func239, Tryz.ntmps239
  have HF := Lib.hid (hp0 w)
  refine kS fun K hK => ?_
  refine wp_region_lit ?_
  go_wp2
  refine hK.out _ _ ?_; clear hK K
  show Code.wp _ _ _ _ _
  refine fH (((HF.out).al (b := w.heap.size) (by first | rfl | simp) (by decide)).al (b := w.heap.size + 1) (by first | rfl | simp) (by decide)) fun Wx0 HG => ?_
  clear HF; have HF := HG; clear HG
  generalize w.heap.size + 1 = gx1 at *
  refine wp_seq ?_
  refine wp_block ?_
  have hd1 : ¬ ((((k : Nat) : Int)) < 0) := ok
  have hd2 : ¬ (k < 0) := by have e := hd1; omega
  refine kS fun K hK => ?_
  refine sq 3 [(true, 0), (true, 1), (true, 2)] fun T hT => ?_
  iterate 3 refine tk ?_
  refine nlS hT HF fun vw1 HG => ?_
  clear hT T HF
  go_wp2
  refine hK.out _ _ ?_; clear hK K
  show Code.wp _ _ _ _ _
  have HF := HG; clear HG
  clear hd1 hd2
  refine wp_cond_false (by rfl) ?_
  have hd3 : ¬ (100 < (((k : Nat) : Int))) := ok
  refine kS fun K hK => ?_
  refine sq 3 [(true, 0), (true, 1), (true, 2)] fun T hT => ?_
  iterate 3 refine tk ?_
  refine nlS hT HF fun vw2 HG => ?_
  clear hT T HF
  go_wp2
  refine hK.out _ _ ?_; clear hK K
  show Code.wp _ _ _ _ _
  have HF := HG; clear HG
  clear hd3
  refine wp_cond_false (by rfl) ?_
  refine wp_skip ?_
  show Code.wp _ _ _ _ _
  have HZ1 : Hid (10 ^ k = p) := Lib.hid (HP.out)
  have su1 : wl (p) ≤ 12 := by have e := HZ1.out; first | omega | (rw [← e]; exact wl_ten (by omega))
  have HZ2 : Hid ((if false then -((p : Nat) : Int) else ((p : Nat) : Int)) = ((p : Nat) : Int)) := Lib.hid (by rfl)
  have su2 : wl (Int.natAbs (((p : Nat) : Int))) ≤ 12 := by have e := HZ2.out; first | omega | (rw [← e]; split <;> simp <;> omega)
  have HZ3 : Hid (((((p : Nat) : Int) : Int) : Rat) = y) := Lib.hid (HY.out)
  have su3 : sz (y) ≤ 12 := by have e := HZ3.out; first | omega | (rw [← e]; rw [sz_int]; omega)
  have HZ4 : Hid ((a) * (y) = x) := Lib.hid (HX.out)
  have su4 : sz (x) ≤ 1012 := by have e := HZ4.out; first | omega | (rw [← e]; have := sz_mul (a) (y); omega)
  have lx0 := HF.out.c 0 rfl
  refine kS fun K hK => ?_
  refine wp_region_plan 7 [6] [] (fun _ => 8) (fun _ => .cells #[.int .u64 0, .string ⟨#[]⟩, .bool false, .int .u64 0, .string ⟨#[]⟩] 36) [(true, 0), (true, 1), (true, 2), (true, 3), (true, 4), (true, 5)] (by kernel_rfl) (by kernel_rfl) (by intro i hi; simp only [List.mem_cons, List.not_mem_nil, or_false] at hi; rcases hi with rfl <;> exact ⟨_, rfl, rfl, rfl, by simp, fun ρ w => by kernel_rfl⟩) (fun i hi => by cases hi) (fun _ _ _ _ _ h => h) (fun T hT => ?_)
  iterate 2 refine tk ?_
  refine ck Tryz.call264 (fun w' hw => dten_any k (p) _ (Lib.hid HZ1.out) (by omega)) ?_
  refine ck Tryz.call37 (fun w' hw => from_any false (p) (((p : Nat) : Int)) _ HZ2.out) ?_
  refine ck Tryz.call263 (fun w' hw => dwhole_any (((p : Nat) : Int)) (y) _ (Lib.hid HZ3.out) om) ?_
  refine ck Tryz.call134 (fun w' hw => fmul_any (a) (y) (x) _ HZ4.out om om) ?_
  refine wpPlan_nil (hT.out _ _ ?_)
  intro G vw3 hg hf
  simp only [puts, Act.put, lA, lB, lC, lD, lE, ↓reduceIte, Nat.reduceEqDiff]
  have HG := Lib.hid (HF.out.fr hg hf (zs := [(#[.int .u64 0, .string ⟨#[]⟩, .bool false, .int .u64 0, .string ⟨#[]⟩], 36)]) rfl (by decide) (by decide))
  simp only [List.zip_cons_cons, List.zip_nil_right, List.map_cons, List.map_nil, lF, lG] at HG
  clear hT T HF hg hf lx0
  generalize G 6 = gx3 at *
  have lx3 := HG.out.c 2 rfl; have fx3 := HG.out.f 2 rfl
  have r0 := Gr.refl vw3
  go_wp2
  refine hK.out _ _ ?_; clear hK K
  show Code.wp _ _ _ _ _
  clear r0 lx3 fx3
  refine fH (((((HG.out).put2 2 0 rfl).put2 2 2 rfl).put 2 4 _ rfl).er 0) fun Wx5 HF => ?_
  clear HG
  have HZ5 : Hid ((x).floor = f) := Lib.hid (HFL.out)
  have su5 : wl (Int.natAbs (f)) ≤ 1013 := by have e := HZ5.out; first | omega | (rw [← e]; have := wl_floor (x); omega)
  have lx3 := HF.out.c 1 rfl
  refine kS fun K hK => ?_
  refine sq 2 [(true, 0), (true, 1)] fun T hT => ?_
  refine tk ?_
  refine ck Tryz.call142 (fun w' hw => ffloor_any (x) (f) _ (Lib.hid HZ5.out) om) ?_
  refine nlS hT HF fun vw4 HG => ?_
  clear hT T HF lx3
  go_wp2
  refine hK.out _ _ ?_; clear hK K
  show Code.wp _ _ _ _ _
  refine fH ((HG.out).al (b := vw4.heap.size) (by first | rfl | simp) (by decide)) fun Wx6 HF => ?_
  clear HG
  generalize vw4.heap.size = gx4 at *
  refine wp_seq ?_
  refine kS fun K hK => ?_
  refine sq 1 [(true, 0)] fun T hT => ?_
  refine tk ?_
  refine nlS hT HF fun vw5 HG => ?_
  clear hT T HF
  go_wp2
  refine hK.out _ _ ?_; clear hK K
  show Code.wp _ _ _ _ _
  have HF := HG; clear HG
  refine wp_block ?_
  refine wp_seq ?_
  refine wp_block ?_
  refine wp_seq ?_
  refine wp_block ?_
  refine wp_seq ?_
  refine wp_block ?_
  refine wp_seq ?_
  refine wp_seq ?_
  refine kS fun K hK => ?_
  refine sq 2 [(true, 0), (true, 1)] fun T hT => ?_
  iterate 2 refine tk ?_
  refine nlS hT HF fun vw6 HG => ?_
  clear hT T HF
  go_wp2
  refine hK.out _ _ ?_; clear hK K
  show Code.wp _ _ _ _ _
  have HF := HG; clear HG
  refine wp_cond_false (by rfl) ?_
  refine wp_skip ?_
  show Code.wp _ _ _ _ _
  refine wp_seq ?_
  refine kS fun K hK => ?_
  refine sq 2 [(true, 0), (true, 1)] fun T hT => ?_
  iterate 2 refine tk ?_
  refine nlS hT HF fun vw7 HG => ?_
  clear hT T HF
  go_wp2
  refine hK.out _ _ ?_; clear hK K
  show Code.wp _ _ _ _ _
  have HF := HG; clear HG
  refine wp_cond_false (by rfl) ?_
  refine wp_skip ?_
  show Code.wp _ _ _ _ _
  refine kS fun K hK => ?_
  refine sq 2 [(true, 0), (true, 1)] fun T hT => ?_
  iterate 2 refine tk ?_
  refine nlS hT HF fun vw8 HG => ?_
  clear hT T HF
  go_wp2
  refine hK.out _ _ ?_; clear hK K
  show Code.wp _ _ _ _ _
  have HF := HG; clear HG
  refine wp_cond_true (by rfl) ?_
  refine wp_exit ?_
  show Code.wp _ _ _ _ _
  refine wp_seq ?_
  have lx4 := HF.out.c 2 rfl
  refine kS fun K hK => ?_
  refine sq 1 [(true, 0)] fun T hT => ?_
  refine tk ?_
  refine nlS hT HF fun vw9 HG => ?_
  clear hT T HF lx4
  have lx1 := HG.out.c 0 rfl; have fx1 := HG.out.f 0 rfl
  have r0 := Gr.refl vw9
  go_wp2
  refine hK.out _ _ ?_; clear hK K
  show Code.wp _ _ _ _ _
  clear r0 lx1 fx1
  refine fH (((((HG.out).put2 0 0 rfl).put 0 2 _ rfl).er 2).er 1) fun Wx17 HF => ?_
  clear HG
  refine wp_ret ?_
  try simp only [Exit.then, Exit.inBlock]
  have lx1 := HF.out.c 0 rfl
  have r0 := Gr.refl Wx17
  exact bodyPost_ret (v := .tuple #[(.agg #[.int .u64 ((lo (Int.natAbs (f)) : Nat) : Int), .string (bg (Int.natAbs (f))), .bool (decide ((f) < 0))]), .int .i64 0]) (by simp [results, Tryz.results239, go_sem, lx1 _ r0]) rfl ⟨rfl, HF.out.1⟩

set_option maxRecDepth 20000 in
set_option maxHeartbeats 4000000 in
theorem drnd_2 (a x y : Rat) (k p : Nat) (f c : Int) (w : World) (HP : Hid (10 ^ k = p)) (HY : Hid ((((p : Nat) : Int) : Rat) = y)) (HX : Hid (a * y = x)) (HFL : Hid (x.floor = f)) (HCE : Hid (x.ceil = c)) (hk : k ≤ 100) (hs : sz a ≤ 1000) (hsy : sz y ≤ 12) :
    Calls Tryz.prog 239 #[(Value.agg #[.int .u64 ((lo (Int.natAbs ((a).num)) : Nat) : Int), .string (bg (Int.natAbs ((a).num))), .bool (decide (((a).num) < 0)), .int .u64 ((lo ((a).den - 1) : Nat) : Int), .string (bg ((a).den - 1))]), .int .i64 (((k : Nat) : Int)), .int .i64 2] w fun e w' => e = .returned (.tuple #[(.agg #[.int .u64 ((lo (Int.natAbs (c)) : Nat) : Int), .string (bg (Int.natAbs (c))), .bool (decide ((c) < 0))]), .int .i64 0]) ∧ Below w.heap.size w w' := by
  go_enter Tryz.func239, Tryz.ntmps239
  have HF := Lib.hid (hp0 w)
  refine kS fun K hK => ?_
  refine wp_region_lit ?_
  go_wp2
  refine hK.out _ _ ?_; clear hK K
  show Code.wp _ _ _ _ _
  refine fH (((HF.out).al (b := w.heap.size) (by first | rfl | simp) (by decide)).al (b := w.heap.size + 1) (by first | rfl | simp) (by decide)) fun Wx0 HG => ?_
  clear HF; have HF := HG; clear HG
  generalize w.heap.size + 1 = gx1 at *
  refine wp_seq ?_
  refine wp_block ?_
  have hd1 : ¬ ((((k : Nat) : Int)) < 0) := ok
  have hd2 : ¬ (k < 0) := by have e := hd1; omega
  refine kS fun K hK => ?_
  refine sq 3 [(true, 0), (true, 1), (true, 2)] fun T hT => ?_
  iterate 3 refine tk ?_
  refine nlS hT HF fun vw1 HG => ?_
  clear hT T HF
  go_wp2
  refine hK.out _ _ ?_; clear hK K
  show Code.wp _ _ _ _ _
  have HF := HG; clear HG
  clear hd1 hd2
  refine wp_cond_false (by rfl) ?_
  have hd3 : ¬ (100 < (((k : Nat) : Int))) := ok
  refine kS fun K hK => ?_
  refine sq 3 [(true, 0), (true, 1), (true, 2)] fun T hT => ?_
  iterate 3 refine tk ?_
  refine nlS hT HF fun vw2 HG => ?_
  clear hT T HF
  go_wp2
  refine hK.out _ _ ?_; clear hK K
  show Code.wp _ _ _ _ _
  have HF := HG; clear HG
  clear hd3
  refine wp_cond_false (by rfl) ?_
  refine wp_skip ?_
  show Code.wp _ _ _ _ _
  have HZ1 : Hid (10 ^ k = p) := Lib.hid (HP.out)
  have su1 : wl (p) ≤ 12 := by have e := HZ1.out; first | omega | (rw [← e]; exact wl_ten (by omega))
  have HZ2 : Hid ((if false then -((p : Nat) : Int) else ((p : Nat) : Int)) = ((p : Nat) : Int)) := Lib.hid (by rfl)
  have su2 : wl (Int.natAbs (((p : Nat) : Int))) ≤ 12 := by have e := HZ2.out; first | omega | (rw [← e]; split <;> simp <;> omega)
  have HZ3 : Hid (((((p : Nat) : Int) : Int) : Rat) = y) := Lib.hid (HY.out)
  have su3 : sz (y) ≤ 12 := by have e := HZ3.out; first | omega | (rw [← e]; rw [sz_int]; omega)
  have HZ4 : Hid ((a) * (y) = x) := Lib.hid (HX.out)
  have su4 : sz (x) ≤ 1012 := by have e := HZ4.out; first | omega | (rw [← e]; have := sz_mul (a) (y); omega)
  have lx0 := HF.out.c 0 rfl
  refine kS fun K hK => ?_
  refine wp_region_plan 7 [6] [] (fun _ => 8) (fun _ => .cells #[.int .u64 0, .string ⟨#[]⟩, .bool false, .int .u64 0, .string ⟨#[]⟩] 36) [(true, 0), (true, 1), (true, 2), (true, 3), (true, 4), (true, 5)] (by kernel_rfl) (by kernel_rfl) (by intro i hi; simp only [List.mem_cons, List.not_mem_nil, or_false] at hi; rcases hi with rfl <;> exact ⟨_, rfl, rfl, rfl, by simp, fun ρ w => by kernel_rfl⟩) (fun i hi => by cases hi) (fun _ _ _ _ _ h => h) (fun T hT => ?_)
  iterate 2 refine tk ?_
  refine ck Tryz.call264 (fun w' hw => dten_any k (p) _ (Lib.hid HZ1.out) (by omega)) ?_
  refine ck Tryz.call37 (fun w' hw => from_any false (p) (((p : Nat) : Int)) _ HZ2.out) ?_
  refine ck Tryz.call263 (fun w' hw => dwhole_any (((p : Nat) : Int)) (y) _ (Lib.hid HZ3.out) om) ?_
  refine ck Tryz.call134 (fun w' hw => fmul_any (a) (y) (x) _ HZ4.out om om) ?_
  refine wpPlan_nil (hT.out _ _ ?_)
  intro G vw3 hg hf
  simp only [puts, Act.put, lA, lB, lC, lD, lE, ↓reduceIte, Nat.reduceEqDiff]
  have HG := Lib.hid (HF.out.fr hg hf (zs := [(#[.int .u64 0, .string ⟨#[]⟩, .bool false, .int .u64 0, .string ⟨#[]⟩], 36)]) rfl (by decide) (by decide))
  simp only [List.zip_cons_cons, List.zip_nil_right, List.map_cons, List.map_nil, lF, lG] at HG
  clear hT T HF hg hf lx0
  generalize G 6 = gx3 at *
  have lx3 := HG.out.c 2 rfl; have fx3 := HG.out.f 2 rfl
  have r0 := Gr.refl vw3
  go_wp2
  refine hK.out _ _ ?_; clear hK K
  show Code.wp _ _ _ _ _
  clear r0 lx3 fx3
  refine fH (((((HG.out).put2 2 0 rfl).put2 2 2 rfl).put 2 4 _ rfl).er 0) fun Wx5 HF => ?_
  clear HG
  have HZ5 : Hid ((x).floor = f) := Lib.hid (HFL.out)
  have su5 : wl (Int.natAbs (f)) ≤ 1013 := by have e := HZ5.out; first | omega | (rw [← e]; have := wl_floor (x); omega)
  have lx3 := HF.out.c 1 rfl
  refine kS fun K hK => ?_
  refine sq 2 [(true, 0), (true, 1)] fun T hT => ?_
  refine tk ?_
  refine ck Tryz.call142 (fun w' hw => ffloor_any (x) (f) _ (Lib.hid HZ5.out) om) ?_
  refine nlS hT HF fun vw4 HG => ?_
  clear hT T HF lx3
  go_wp2
  refine hK.out _ _ ?_; clear hK K
  show Code.wp _ _ _ _ _
  refine fH ((HG.out).al (b := vw4.heap.size) (by first | rfl | simp) (by decide)) fun Wx6 HF => ?_
  clear HG
  generalize vw4.heap.size = gx4 at *
  refine wp_seq ?_
  refine kS fun K hK => ?_
  refine sq 1 [(true, 0)] fun T hT => ?_
  refine tk ?_
  refine nlS hT HF fun vw5 HG => ?_
  clear hT T HF
  go_wp2
  refine hK.out _ _ ?_; clear hK K
  show Code.wp _ _ _ _ _
  have HF := HG; clear HG
  refine wp_block ?_
  refine wp_seq ?_
  refine wp_block ?_
  refine wp_seq ?_
  refine wp_block ?_
  refine wp_seq ?_
  refine wp_block ?_
  refine wp_seq ?_
  refine wp_seq ?_
  refine kS fun K hK => ?_
  refine sq 2 [(true, 0), (true, 1)] fun T hT => ?_
  iterate 2 refine tk ?_
  refine nlS hT HF fun vw6 HG => ?_
  clear hT T HF
  go_wp2
  refine hK.out _ _ ?_; clear hK K
  show Code.wp _ _ _ _ _
  have HF := HG; clear HG
  refine wp_cond_false (by rfl) ?_
  refine wp_skip ?_
  show Code.wp _ _ _ _ _
  refine wp_seq ?_
  refine kS fun K hK => ?_
  refine sq 2 [(true, 0), (true, 1)] fun T hT => ?_
  iterate 2 refine tk ?_
  refine nlS hT HF fun vw7 HG => ?_
  clear hT T HF
  go_wp2
  refine hK.out _ _ ?_; clear hK K
  show Code.wp _ _ _ _ _
  have HF := HG; clear HG
  refine wp_cond_true (by rfl) ?_
  refine wp_exit ?_
  show Code.wp _ _ _ _ _
  refine wp_seq ?_
  have HZ6 : Hid ((x).ceil = c) := Lib.hid (HCE.out)
  have su6 : wl (Int.natAbs (c)) ≤ 1013 := by have e := HZ6.out; first | omega | (rw [← e]; have := wl_ceil (x); omega)
  have lx3 := HF.out.c 1 rfl
  refine kS fun K hK => ?_
  refine sq 2 [(true, 0), (true, 1)] fun T hT => ?_
  refine tk ?_
  refine ck Tryz.call148 (fun w' hw => fceil_any (x) (c) _ (Lib.hid HZ6.out) om) ?_
  refine nlS hT HF fun vw8 HG => ?_
  clear hT T HF lx3
  have lx1 := HG.out.c 0 rfl; have fx1 := HG.out.f 0 rfl
  have r0 := Gr.refl vw8
  go_wp2
  refine hK.out _ _ ?_; clear hK K
  show Code.wp _ _ _ _ _
  clear r0 lx1 fx1
  refine fH ((((HG.out).put2 0 0 rfl).put 0 2 _ rfl).er 1) fun Wx16 HF => ?_
  clear HG
  refine wp_ret ?_
  try simp only [Exit.then, Exit.inBlock]
  have lx1 := HF.out.c 0 rfl
  have r0 := Gr.refl Wx16
  exact bodyPost_ret (v := .tuple #[(.agg #[.int .u64 ((lo (Int.natAbs (c)) : Nat) : Int), .string (bg (Int.natAbs (c))), .bool (decide ((c) < 0))]), .int .i64 0]) (by simp [results, Tryz.results239, go_sem, lx1 _ r0]) rfl ⟨rfl, HF.out.1⟩

set_option maxRecDepth 20000 in
set_option maxHeartbeats 4000000 in
theorem drnd_lt (a x y : Rat) (k p : Nat) (f c : Int) (r : Rat) (o d : Int) (w : World) (HP : Hid (10 ^ k = p)) (HY : Hid ((((p : Nat) : Int) : Rat) = y)) (HX : Hid (a * y = x)) (HFL : Hid (x.floor = f)) (HCE : Hid (x.ceil = c)) (hk : k ≤ 100) (hs : sz a ≤ 1000) (hsy : sz y ≤ 12) (HR : Hid (x - ((f : Int) : Rat) = r)) (HT_ : Hid (sgQ (r + r - (1 : Rat)) = o)) (HD : Hid (f % 2 = d)) (HO : Hid (o = -1)) :
    Calls Tryz.prog 239 #[(Value.agg #[.int .u64 ((lo (Int.natAbs ((a).num)) : Nat) : Int), .string (bg (Int.natAbs ((a).num))), .bool (decide (((a).num) < 0)), .int .u64 ((lo ((a).den - 1) : Nat) : Int), .string (bg ((a).den - 1))]), .int .i64 (((k : Nat) : Int)), .int .i64 3] w fun e w' => e = .returned (.tuple #[(.agg #[.int .u64 ((lo (Int.natAbs (f)) : Nat) : Int), .string (bg (Int.natAbs (f))), .bool (decide ((f) < 0))]), .int .i64 0]) ∧ Below w.heap.size w w' := by
  go_enter Tryz.func239, Tryz.ntmps239
  have HF := Lib.hid (hp0 w)
  refine kS fun K hK => ?_
  refine wp_region_lit ?_
  go_wp2
  refine hK.out _ _ ?_; clear hK K
  show Code.wp _ _ _ _ _
  refine fH (((HF.out).al (b := w.heap.size) (by first | rfl | simp) (by decide)).al (b := w.heap.size + 1) (by first | rfl | simp) (by decide)) fun Wx0 HG => ?_
  clear HF; have HF := HG; clear HG
  generalize w.heap.size + 1 = gx1 at *
  refine wp_seq ?_
  refine wp_block ?_
  have hd1 : ¬ ((((k : Nat) : Int)) < 0) := ok
  have hd2 : ¬ (k < 0) := by have e := hd1; omega
  refine kS fun K hK => ?_
  refine sq 3 [(true, 0), (true, 1), (true, 2)] fun T hT => ?_
  iterate 3 refine tk ?_
  refine nlS hT HF fun vw1 HG => ?_
  clear hT T HF
  go_wp2
  refine hK.out _ _ ?_; clear hK K
  show Code.wp _ _ _ _ _
  have HF := HG; clear HG
  clear hd1 hd2
  refine wp_cond_false (by rfl) ?_
  have hd3 : ¬ (100 < (((k : Nat) : Int))) := ok
  refine kS fun K hK => ?_
  refine sq 3 [(true, 0), (true, 1), (true, 2)] fun T hT => ?_
  iterate 3 refine tk ?_
  refine nlS hT HF fun vw2 HG => ?_
  clear hT T HF
  go_wp2
  refine hK.out _ _ ?_; clear hK K
  show Code.wp _ _ _ _ _
  have HF := HG; clear HG
  clear hd3
  refine wp_cond_false (by rfl) ?_
  refine wp_skip ?_
  show Code.wp _ _ _ _ _
  have HZ1 : Hid (10 ^ k = p) := Lib.hid (HP.out)
  have su1 : wl (p) ≤ 12 := by have e := HZ1.out; first | omega | (rw [← e]; exact wl_ten (by omega))
  have HZ2 : Hid ((if false then -((p : Nat) : Int) else ((p : Nat) : Int)) = ((p : Nat) : Int)) := Lib.hid (by rfl)
  have su2 : wl (Int.natAbs (((p : Nat) : Int))) ≤ 12 := by have e := HZ2.out; first | omega | (rw [← e]; split <;> simp <;> omega)
  have HZ3 : Hid (((((p : Nat) : Int) : Int) : Rat) = y) := Lib.hid (HY.out)
  have su3 : sz (y) ≤ 12 := by have e := HZ3.out; first | omega | (rw [← e]; rw [sz_int]; omega)
  have HZ4 : Hid ((a) * (y) = x) := Lib.hid (HX.out)
  have su4 : sz (x) ≤ 1012 := by have e := HZ4.out; first | omega | (rw [← e]; have := sz_mul (a) (y); omega)
  have lx0 := HF.out.c 0 rfl
  refine kS fun K hK => ?_
  refine wp_region_plan 7 [6] [] (fun _ => 8) (fun _ => .cells #[.int .u64 0, .string ⟨#[]⟩, .bool false, .int .u64 0, .string ⟨#[]⟩] 36) [(true, 0), (true, 1), (true, 2), (true, 3), (true, 4), (true, 5)] (by kernel_rfl) (by kernel_rfl) (by intro i hi; simp only [List.mem_cons, List.not_mem_nil, or_false] at hi; rcases hi with rfl <;> exact ⟨_, rfl, rfl, rfl, by simp, fun ρ w => by kernel_rfl⟩) (fun i hi => by cases hi) (fun _ _ _ _ _ h => h) (fun T hT => ?_)
  iterate 2 refine tk ?_
  refine ck Tryz.call264 (fun w' hw => dten_any k (p) _ (Lib.hid HZ1.out) (by omega)) ?_
  refine ck Tryz.call37 (fun w' hw => from_any false (p) (((p : Nat) : Int)) _ HZ2.out) ?_
  refine ck Tryz.call263 (fun w' hw => dwhole_any (((p : Nat) : Int)) (y) _ (Lib.hid HZ3.out) om) ?_
  refine ck Tryz.call134 (fun w' hw => fmul_any (a) (y) (x) _ HZ4.out om om) ?_
  refine wpPlan_nil (hT.out _ _ ?_)
  intro G vw3 hg hf
  simp only [puts, Act.put, lA, lB, lC, lD, lE, ↓reduceIte, Nat.reduceEqDiff]
  have HG := Lib.hid (HF.out.fr hg hf (zs := [(#[.int .u64 0, .string ⟨#[]⟩, .bool false, .int .u64 0, .string ⟨#[]⟩], 36)]) rfl (by decide) (by decide))
  simp only [List.zip_cons_cons, List.zip_nil_right, List.map_cons, List.map_nil, lF, lG] at HG
  clear hT T HF hg hf lx0
  generalize G 6 = gx3 at *
  have lx3 := HG.out.c 2 rfl; have fx3 := HG.out.f 2 rfl
  have r0 := Gr.refl vw3
  go_wp2
  refine hK.out _ _ ?_; clear hK K
  show Code.wp _ _ _ _ _
  clear r0 lx3 fx3
  refine fH (((((HG.out).put2 2 0 rfl).put2 2 2 rfl).put 2 4 _ rfl).er 0) fun Wx5 HF => ?_
  clear HG
  have HZ5 : Hid ((x).floor = f) := Lib.hid (HFL.out)
  have su5 : wl (Int.natAbs (f)) ≤ 1013 := by have e := HZ5.out; first | omega | (rw [← e]; have := wl_floor (x); omega)
  have lx3 := HF.out.c 1 rfl
  refine kS fun K hK => ?_
  refine sq 2 [(true, 0), (true, 1)] fun T hT => ?_
  refine tk ?_
  refine ck Tryz.call142 (fun w' hw => ffloor_any (x) (f) _ (Lib.hid HZ5.out) om) ?_
  refine nlS hT HF fun vw4 HG => ?_
  clear hT T HF lx3
  go_wp2
  refine hK.out _ _ ?_; clear hK K
  show Code.wp _ _ _ _ _
  refine fH ((HG.out).al (b := vw4.heap.size) (by first | rfl | simp) (by decide)) fun Wx6 HF => ?_
  clear HG
  generalize vw4.heap.size = gx4 at *
  refine wp_seq ?_
  refine kS fun K hK => ?_
  refine sq 1 [(true, 0)] fun T hT => ?_
  refine tk ?_
  refine nlS hT HF fun vw5 HG => ?_
  clear hT T HF
  go_wp2
  refine hK.out _ _ ?_; clear hK K
  show Code.wp _ _ _ _ _
  have HF := HG; clear HG
  refine wp_block ?_
  refine wp_seq ?_
  refine wp_block ?_
  refine wp_seq ?_
  refine wp_block ?_
  refine wp_seq ?_
  refine wp_block ?_
  refine wp_seq ?_
  refine wp_seq ?_
  refine kS fun K hK => ?_
  refine sq 2 [(true, 0), (true, 1)] fun T hT => ?_
  iterate 2 refine tk ?_
  refine nlS hT HF fun vw6 HG => ?_
  clear hT T HF
  go_wp2
  refine hK.out _ _ ?_; clear hK K
  show Code.wp _ _ _ _ _
  have HF := HG; clear HG
  refine wp_cond_true (by rfl) ?_
  refine wp_exit ?_
  show Code.wp _ _ _ _ _
  obtain ⟨u6, HZ6⟩ : ∃ z, Hid (((f : Int) : Rat) = z) := ⟨_, Lib.hid rfl⟩
  have su6 : sz (u6) ≤ 1013 := by rw [← HZ6.out]; rw [sz_int]; omega
  have HZ7 : Hid ((x) - (u6) = r) := Lib.hid (by rw [← HR.out]; simp only [← HZ6.out])
  have su7 : sz (r) ≤ 2026 := by have e := HZ7.out; first | omega | (rw [← e]; have := sz_sub (x) (u6); omega)
  have lx3 := HF.out.c 1 rfl
  have lx4 := HF.out.c 2 rfl
  refine kS fun K hK => ?_
  refine wp_region_plan 5 [4] [] (fun _ => 10) (fun _ => .cells #[.int .u64 0, .string ⟨#[]⟩, .bool false, .int .u64 0, .string ⟨#[]⟩] 36) [(true, 0), (true, 1), (true, 2), (true, 3)] (by kernel_rfl) (by kernel_rfl) (by intro i hi; simp only [List.mem_cons, List.not_mem_nil, or_false] at hi; rcases hi with rfl <;> exact ⟨_, rfl, rfl, rfl, by simp, fun ρ w => by kernel_rfl⟩) (fun i hi => by cases hi) (fun _ _ _ _ _ h => h) (fun T hT => ?_)
  iterate 2 refine tk ?_
  refine ck Tryz.call263 (fun w' hw => dwhole_any (f) (u6) _ (Lib.hid HZ6.out) om) ?_
  refine ck Tryz.call132 (fun w' hw => fsub_any (x) (u6) (r) _ HZ7.out om om) ?_
  refine wpPlan_nil (hT.out _ _ ?_)
  intro G vw7 hg hf
  simp only [puts, Act.put, lA, lB, lC, lD, lE, ↓reduceIte, Nat.reduceEqDiff]
  have HG := Lib.hid (HF.out.fr hg hf (zs := [(#[.int .u64 0, .string ⟨#[]⟩, .bool false, .int .u64 0, .string ⟨#[]⟩], 36)]) rfl (by decide) (by decide))
  simp only [List.zip_cons_cons, List.zip_nil_right, List.map_cons, List.map_nil, lF, lG] at HG
  clear hT T HF hg hf lx3 lx4
  generalize G 4 = gx5 at *
  have lx5 := HG.out.c 3 rfl; have fx5 := HG.out.f 3 rfl
  have r0 := Gr.refl vw7
  go_wp2
  refine hK.out _ _ ?_; clear hK K
  show Code.wp _ _ _ _ _
  clear r0 lx5 fx5
  refine fH ((((HG.out).put2 3 0 rfl).put2 3 2 rfl).put 3 4 _ rfl) fun Wx11 HF => ?_
  clear HG
  have su8 : wl (Int.natAbs (2)) ≤ 1 := wl_le.2 (by decide +kernel)
  obtain ⟨u9, HZ9⟩ : ∃ z, Hid ((f) / (2) = z) := ⟨_, Lib.hid rfl⟩
  have su9 : wl (Int.natAbs (u9)) ≤ 1014 := by rw [← HZ9.out]; have := wl_idiv (f) (2); omega
  have HZ10 : Hid ((f) % (2) = d) := Lib.hid (HD.out)
  have su10 : wl (Int.natAbs (d)) ≤ 1013 := by have e := HZ10.out; first | omega | (rw [← e]; have := wl_imod (f) (2) (by first | exact ok | (simp only [← HZ9.out, ← HZ6.out] <;> first | exact ok)); omega)
  have lx4 := HF.out.c 2 rfl
  refine kS fun K hK => ?_
  refine wp_region_plan 9 [7, 8] [5, 6] (fun i => if i = 7 then 11 else 12) (fun i => if i = 7 then .cells #[.int .u64 0, .string ⟨#[]⟩, .bool false] 34 else .cells #[.int .u64 0, .string ⟨#[]⟩, .bool false] 34) [(true, 0), (true, 1), (true, 2), (true, 3), (true, 4), (true, 5), (true, 6)] (by kernel_rfl) (by kernel_rfl) (by intro i hi; simp only [List.mem_cons, List.not_mem_nil, or_false] at hi; rcases hi with rfl | rfl <;> exact ⟨_, rfl, rfl, rfl, by simp, fun ρ w => by kernel_rfl⟩) (by intro i hi; simp only [List.mem_cons, List.not_mem_nil, or_false] at hi; rcases hi with rfl | rfl <;> exact ⟨_, rfl, pure_extract⟩) (fun _ _ _ _ _ h => h) (fun T hT => ?_)
  refine tk ?_
  refine ck Tryz.call23 (fun w' hw => iof_any (2) _ (by decide) (by decide)) ?_
  refine ck Tryz.call42 (fun w' hw => zidiv (f) (2) (u9) (d) _ HZ9.out HZ10.out (by first | exact ok | (simp only [← HZ9.out, ← HZ6.out] <;> first | exact ok)) om om) ?_
  iterate 4 refine tk ?_
  refine wpPlan_nil (hT.out _ _ ?_)
  intro G vw8 hg hf
  simp only [puts, Act.put, lA, lB, lC, lD, lE, ↓reduceIte, Nat.reduceEqDiff]
  have HG := Lib.hid (HF.out.fr hg hf (zs := [(#[.int .u64 0, .string ⟨#[]⟩, .bool false], 34), (#[.int .u64 0, .string ⟨#[]⟩, .bool false], 34)]) rfl (by decide) (by decide))
  simp only [List.zip_cons_cons, List.zip_nil_right, List.map_cons, List.map_nil, lF, lG] at HG
  clear hT T HF hg hf lx4
  generalize G 7 = gx6 at *
  generalize G 8 = gx7 at *
  have lx6 := HG.out.c 4 rfl; have fx6 := HG.out.f 4 rfl
  have lx7 := HG.out.c 5 rfl; have fx7 := HG.out.f 5 rfl
  have r0 := Gr.refl vw8
  obtain ⟨d6_7, d7_6⟩ := HG.out.ne 4 5 rfl rfl (by decide)
  go_wp2
  refine hK.out _ _ ?_; clear hK K
  show Code.wp _ _ _ _ _
  clear r0 lx6 fx6 lx7 fx7 d6_7 d7_6
  refine fH ((((((HG.out).put2 4 0 rfl).put 4 2 _ rfl).put2 5 0 rfl).put 5 2 _ rfl).er 4) fun Wx12 HF => ?_
  clear HG
  obtain ⟨u11, HZ11⟩ : ∃ z, Hid ((r) + (r) = z) := ⟨_, Lib.hid rfl⟩
  have su11 : sz (u11) ≤ 4053 := by rw [← HZ11.out]; have := sz_add (r) (r); omega
  have HZ12 : Hid (((1 : Int) : Rat) = (1 : Rat)) := Lib.hid (by decide +kernel)
  have su12 : sz ((1 : Rat)) ≤ 2 := sz_of (wl_le.2 (by decide +kernel)) (wl_le.2 (by decide +kernel))
  have lx5 := HF.out.c 3 rfl
  refine kS fun K hK => ?_
  refine sq 6 [(true, 0), (true, 1), (true, 2), (true, 3), (true, 4), (true, 5)] fun T hT => ?_
  iterate 2 refine tk ?_
  refine ck Tryz.call130 (fun w' hw => fadd_any (r) (r) (u11) _ HZ11.out om om) ?_
  refine ck Tryz.call147 (fun w' hw => fint_any (1) (1 : Rat) _ HZ12.out om om) ?_
  refine ck Tryz.call140 (fun w' hw => fcmp_any (u11) (1 : Rat) (-1) _ (by have e9 := HT_.out; have e8 := HO.out; simp only [← HZ11.out, ← HZ9.out, ← HZ6.out]; rw [e9, e8]) om om) ?_
  refine tk ?_
  refine nlS hT HF fun vw9 HG => ?_
  clear hT T HF lx5
  go_wp2
  refine hK.out _ _ ?_; clear hK K
  show Code.wp _ _ _ _ _
  refine fH ((HG.out).er 3) fun Wx13 HF => ?_
  clear HG
  have lx7 := HF.out.c 3 rfl
  refine kS fun K hK => ?_
  refine sq 11 [(true, 0), (true, 1), (true, 2), (true, 3), (true, 4), (true, 5), (true, 6), (true, 7), (true, 8), (true, 9), (true, 10)] fun T hT => ?_
  iterate 3 refine tk ?_
  iterate 7 refine sk ?_
  refine tk ?_
  refine nlS hT HF fun vw10 HG => ?_
  clear hT T HF lx7
  go_wp2
  refine hK.out _ _ ?_; clear hK K
  show Code.wp _ _ _ _ _
  refine fH ((HG.out).er 3) fun Wx14 HF => ?_
  clear HG
  refine wp_cond_true (by rfl) ?_
  have lx4 := HF.out.c 2 rfl
  refine kS fun K hK => ?_
  refine sq 1 [(true, 0)] fun T hT => ?_
  refine tk ?_
  refine nlS hT HF fun vw11 HG => ?_
  clear hT T HF lx4
  have lx1 := HG.out.c 0 rfl; have fx1 := HG.out.f 0 rfl
  have r0 := Gr.refl vw11
  go_wp2
  refine hK.out _ _ ?_; clear hK K
  show Code.wp _ _ _ _ _
  clear r0 lx1 fx1
  refine fH (((HG.out).put2 0 0 rfl).put 0 2 _ rfl) fun Wx15 HF => ?_
  clear HG
  refine wp_ret ?_
  try simp only [Exit.then, Exit.inBlock]
  have lx1 := HF.out.c 0 rfl
  have r0 := Gr.refl Wx15
  exact bodyPost_ret (v := .tuple #[(.agg #[.int .u64 ((lo (Int.natAbs (f)) : Nat) : Int), .string (bg (Int.natAbs (f))), .bool (decide ((f) < 0))]), .int .i64 0]) (by simp [results, Tryz.results239, go_sem, lx1 _ r0]) rfl ⟨rfl, HF.out.1⟩

set_option maxRecDepth 20000 in
set_option maxHeartbeats 4000000 in
theorem drnd_gt (a x y : Rat) (k p : Nat) (f c : Int) (r : Rat) (o d : Int) (w : World) (HP : Hid (10 ^ k = p)) (HY : Hid ((((p : Nat) : Int) : Rat) = y)) (HX : Hid (a * y = x)) (HFL : Hid (x.floor = f)) (HCE : Hid (x.ceil = c)) (hk : k ≤ 100) (hs : sz a ≤ 1000) (hsy : sz y ≤ 12) (HR : Hid (x - ((f : Int) : Rat) = r)) (HT_ : Hid (sgQ (r + r - (1 : Rat)) = o)) (HD : Hid (f % 2 = d)) (HO : Hid (o = 1)) :
    Calls Tryz.prog 239 #[(Value.agg #[.int .u64 ((lo (Int.natAbs ((a).num)) : Nat) : Int), .string (bg (Int.natAbs ((a).num))), .bool (decide (((a).num) < 0)), .int .u64 ((lo ((a).den - 1) : Nat) : Int), .string (bg ((a).den - 1))]), .int .i64 (((k : Nat) : Int)), .int .i64 3] w fun e w' => e = .returned (.tuple #[(.agg #[.int .u64 ((lo (Int.natAbs (c)) : Nat) : Int), .string (bg (Int.natAbs (c))), .bool (decide ((c) < 0))]), .int .i64 0]) ∧ Below w.heap.size w w' := by
  go_enter Tryz.func239, Tryz.ntmps239
  have HF := Lib.hid (hp0 w)
  refine kS fun K hK => ?_
  refine wp_region_lit ?_
  go_wp2
  refine hK.out _ _ ?_; clear hK K
  show Code.wp _ _ _ _ _
  refine fH (((HF.out).al (b := w.heap.size) (by first | rfl | simp) (by decide)).al (b := w.heap.size + 1) (by first | rfl | simp) (by decide)) fun Wx0 HG => ?_
  clear HF; have HF := HG; clear HG
  generalize w.heap.size + 1 = gx1 at *
  refine wp_seq ?_
  refine wp_block ?_
  have hd1 : ¬ ((((k : Nat) : Int)) < 0) := ok
  have hd2 : ¬ (k < 0) := by have e := hd1; omega
  refine kS fun K hK => ?_
  refine sq 3 [(true, 0), (true, 1), (true, 2)] fun T hT => ?_
  iterate 3 refine tk ?_
  refine nlS hT HF fun vw1 HG => ?_
  clear hT T HF
  go_wp2
  refine hK.out _ _ ?_; clear hK K
  show Code.wp _ _ _ _ _
  have HF := HG; clear HG
  clear hd1 hd2
  refine wp_cond_false (by rfl) ?_
  have hd3 : ¬ (100 < (((k : Nat) : Int))) := ok
  refine kS fun K hK => ?_
  refine sq 3 [(true, 0), (true, 1), (true, 2)] fun T hT => ?_
  iterate 3 refine tk ?_
  refine nlS hT HF fun vw2 HG => ?_
  clear hT T HF
  go_wp2
  refine hK.out _ _ ?_; clear hK K
  show Code.wp _ _ _ _ _
  have HF := HG; clear HG
  clear hd3
  refine wp_cond_false (by rfl) ?_
  refine wp_skip ?_
  show Code.wp _ _ _ _ _
  have HZ1 : Hid (10 ^ k = p) := Lib.hid (HP.out)
  have su1 : wl (p) ≤ 12 := by have e := HZ1.out; first | omega | (rw [← e]; exact wl_ten (by omega))
  have HZ2 : Hid ((if false then -((p : Nat) : Int) else ((p : Nat) : Int)) = ((p : Nat) : Int)) := Lib.hid (by rfl)
  have su2 : wl (Int.natAbs (((p : Nat) : Int))) ≤ 12 := by have e := HZ2.out; first | omega | (rw [← e]; split <;> simp <;> omega)
  have HZ3 : Hid (((((p : Nat) : Int) : Int) : Rat) = y) := Lib.hid (HY.out)
  have su3 : sz (y) ≤ 12 := by have e := HZ3.out; first | omega | (rw [← e]; rw [sz_int]; omega)
  have HZ4 : Hid ((a) * (y) = x) := Lib.hid (HX.out)
  have su4 : sz (x) ≤ 1012 := by have e := HZ4.out; first | omega | (rw [← e]; have := sz_mul (a) (y); omega)
  have lx0 := HF.out.c 0 rfl
  refine kS fun K hK => ?_
  refine wp_region_plan 7 [6] [] (fun _ => 8) (fun _ => .cells #[.int .u64 0, .string ⟨#[]⟩, .bool false, .int .u64 0, .string ⟨#[]⟩] 36) [(true, 0), (true, 1), (true, 2), (true, 3), (true, 4), (true, 5)] (by kernel_rfl) (by kernel_rfl) (by intro i hi; simp only [List.mem_cons, List.not_mem_nil, or_false] at hi; rcases hi with rfl <;> exact ⟨_, rfl, rfl, rfl, by simp, fun ρ w => by kernel_rfl⟩) (fun i hi => by cases hi) (fun _ _ _ _ _ h => h) (fun T hT => ?_)
  iterate 2 refine tk ?_
  refine ck Tryz.call264 (fun w' hw => dten_any k (p) _ (Lib.hid HZ1.out) (by omega)) ?_
  refine ck Tryz.call37 (fun w' hw => from_any false (p) (((p : Nat) : Int)) _ HZ2.out) ?_
  refine ck Tryz.call263 (fun w' hw => dwhole_any (((p : Nat) : Int)) (y) _ (Lib.hid HZ3.out) om) ?_
  refine ck Tryz.call134 (fun w' hw => fmul_any (a) (y) (x) _ HZ4.out om om) ?_
  refine wpPlan_nil (hT.out _ _ ?_)
  intro G vw3 hg hf
  simp only [puts, Act.put, lA, lB, lC, lD, lE, ↓reduceIte, Nat.reduceEqDiff]
  have HG := Lib.hid (HF.out.fr hg hf (zs := [(#[.int .u64 0, .string ⟨#[]⟩, .bool false, .int .u64 0, .string ⟨#[]⟩], 36)]) rfl (by decide) (by decide))
  simp only [List.zip_cons_cons, List.zip_nil_right, List.map_cons, List.map_nil, lF, lG] at HG
  clear hT T HF hg hf lx0
  generalize G 6 = gx3 at *
  have lx3 := HG.out.c 2 rfl; have fx3 := HG.out.f 2 rfl
  have r0 := Gr.refl vw3
  go_wp2
  refine hK.out _ _ ?_; clear hK K
  show Code.wp _ _ _ _ _
  clear r0 lx3 fx3
  refine fH (((((HG.out).put2 2 0 rfl).put2 2 2 rfl).put 2 4 _ rfl).er 0) fun Wx5 HF => ?_
  clear HG
  have HZ5 : Hid ((x).floor = f) := Lib.hid (HFL.out)
  have su5 : wl (Int.natAbs (f)) ≤ 1013 := by have e := HZ5.out; first | omega | (rw [← e]; have := wl_floor (x); omega)
  have lx3 := HF.out.c 1 rfl
  refine kS fun K hK => ?_
  refine sq 2 [(true, 0), (true, 1)] fun T hT => ?_
  refine tk ?_
  refine ck Tryz.call142 (fun w' hw => ffloor_any (x) (f) _ (Lib.hid HZ5.out) om) ?_
  refine nlS hT HF fun vw4 HG => ?_
  clear hT T HF lx3
  go_wp2
  refine hK.out _ _ ?_; clear hK K
  show Code.wp _ _ _ _ _
  refine fH ((HG.out).al (b := vw4.heap.size) (by first | rfl | simp) (by decide)) fun Wx6 HF => ?_
  clear HG
  generalize vw4.heap.size = gx4 at *
  refine wp_seq ?_
  refine kS fun K hK => ?_
  refine sq 1 [(true, 0)] fun T hT => ?_
  refine tk ?_
  refine nlS hT HF fun vw5 HG => ?_
  clear hT T HF
  go_wp2
  refine hK.out _ _ ?_; clear hK K
  show Code.wp _ _ _ _ _
  have HF := HG; clear HG
  refine wp_block ?_
  refine wp_seq ?_
  refine wp_block ?_
  refine wp_seq ?_
  refine wp_block ?_
  refine wp_seq ?_
  refine wp_block ?_
  refine wp_seq ?_
  refine wp_seq ?_
  refine kS fun K hK => ?_
  refine sq 2 [(true, 0), (true, 1)] fun T hT => ?_
  iterate 2 refine tk ?_
  refine nlS hT HF fun vw6 HG => ?_
  clear hT T HF
  go_wp2
  refine hK.out _ _ ?_; clear hK K
  show Code.wp _ _ _ _ _
  have HF := HG; clear HG
  refine wp_cond_true (by rfl) ?_
  refine wp_exit ?_
  show Code.wp _ _ _ _ _
  obtain ⟨u6, HZ6⟩ : ∃ z, Hid (((f : Int) : Rat) = z) := ⟨_, Lib.hid rfl⟩
  have su6 : sz (u6) ≤ 1013 := by rw [← HZ6.out]; rw [sz_int]; omega
  have HZ7 : Hid ((x) - (u6) = r) := Lib.hid (by rw [← HR.out]; simp only [← HZ6.out])
  have su7 : sz (r) ≤ 2026 := by have e := HZ7.out; first | omega | (rw [← e]; have := sz_sub (x) (u6); omega)
  have lx3 := HF.out.c 1 rfl
  have lx4 := HF.out.c 2 rfl
  refine kS fun K hK => ?_
  refine wp_region_plan 5 [4] [] (fun _ => 10) (fun _ => .cells #[.int .u64 0, .string ⟨#[]⟩, .bool false, .int .u64 0, .string ⟨#[]⟩] 36) [(true, 0), (true, 1), (true, 2), (true, 3)] (by kernel_rfl) (by kernel_rfl) (by intro i hi; simp only [List.mem_cons, List.not_mem_nil, or_false] at hi; rcases hi with rfl <;> exact ⟨_, rfl, rfl, rfl, by simp, fun ρ w => by kernel_rfl⟩) (fun i hi => by cases hi) (fun _ _ _ _ _ h => h) (fun T hT => ?_)
  iterate 2 refine tk ?_
  refine ck Tryz.call263 (fun w' hw => dwhole_any (f) (u6) _ (Lib.hid HZ6.out) om) ?_
  refine ck Tryz.call132 (fun w' hw => fsub_any (x) (u6) (r) _ HZ7.out om om) ?_
  refine wpPlan_nil (hT.out _ _ ?_)
  intro G vw7 hg hf
  simp only [puts, Act.put, lA, lB, lC, lD, lE, ↓reduceIte, Nat.reduceEqDiff]
  have HG := Lib.hid (HF.out.fr hg hf (zs := [(#[.int .u64 0, .string ⟨#[]⟩, .bool false, .int .u64 0, .string ⟨#[]⟩], 36)]) rfl (by decide) (by decide))
  simp only [List.zip_cons_cons, List.zip_nil_right, List.map_cons, List.map_nil, lF, lG] at HG
  clear hT T HF hg hf lx3 lx4
  generalize G 4 = gx5 at *
  have lx5 := HG.out.c 3 rfl; have fx5 := HG.out.f 3 rfl
  have r0 := Gr.refl vw7
  go_wp2
  refine hK.out _ _ ?_; clear hK K
  show Code.wp _ _ _ _ _
  clear r0 lx5 fx5
  refine fH ((((HG.out).put2 3 0 rfl).put2 3 2 rfl).put 3 4 _ rfl) fun Wx11 HF => ?_
  clear HG
  have su8 : wl (Int.natAbs (2)) ≤ 1 := wl_le.2 (by decide +kernel)
  obtain ⟨u9, HZ9⟩ : ∃ z, Hid ((f) / (2) = z) := ⟨_, Lib.hid rfl⟩
  have su9 : wl (Int.natAbs (u9)) ≤ 1014 := by rw [← HZ9.out]; have := wl_idiv (f) (2); omega
  have HZ10 : Hid ((f) % (2) = d) := Lib.hid (HD.out)
  have su10 : wl (Int.natAbs (d)) ≤ 1013 := by have e := HZ10.out; first | omega | (rw [← e]; have := wl_imod (f) (2) (by first | exact ok | (simp only [← HZ9.out, ← HZ6.out] <;> first | exact ok)); omega)
  have lx4 := HF.out.c 2 rfl
  refine kS fun K hK => ?_
  refine wp_region_plan 9 [7, 8] [5, 6] (fun i => if i = 7 then 11 else 12) (fun i => if i = 7 then .cells #[.int .u64 0, .string ⟨#[]⟩, .bool false] 34 else .cells #[.int .u64 0, .string ⟨#[]⟩, .bool false] 34) [(true, 0), (true, 1), (true, 2), (true, 3), (true, 4), (true, 5), (true, 6)] (by kernel_rfl) (by kernel_rfl) (by intro i hi; simp only [List.mem_cons, List.not_mem_nil, or_false] at hi; rcases hi with rfl | rfl <;> exact ⟨_, rfl, rfl, rfl, by simp, fun ρ w => by kernel_rfl⟩) (by intro i hi; simp only [List.mem_cons, List.not_mem_nil, or_false] at hi; rcases hi with rfl | rfl <;> exact ⟨_, rfl, pure_extract⟩) (fun _ _ _ _ _ h => h) (fun T hT => ?_)
  refine tk ?_
  refine ck Tryz.call23 (fun w' hw => iof_any (2) _ (by decide) (by decide)) ?_
  refine ck Tryz.call42 (fun w' hw => zidiv (f) (2) (u9) (d) _ HZ9.out HZ10.out (by first | exact ok | (simp only [← HZ9.out, ← HZ6.out] <;> first | exact ok)) om om) ?_
  iterate 4 refine tk ?_
  refine wpPlan_nil (hT.out _ _ ?_)
  intro G vw8 hg hf
  simp only [puts, Act.put, lA, lB, lC, lD, lE, ↓reduceIte, Nat.reduceEqDiff]
  have HG := Lib.hid (HF.out.fr hg hf (zs := [(#[.int .u64 0, .string ⟨#[]⟩, .bool false], 34), (#[.int .u64 0, .string ⟨#[]⟩, .bool false], 34)]) rfl (by decide) (by decide))
  simp only [List.zip_cons_cons, List.zip_nil_right, List.map_cons, List.map_nil, lF, lG] at HG
  clear hT T HF hg hf lx4
  generalize G 7 = gx6 at *
  generalize G 8 = gx7 at *
  have lx6 := HG.out.c 4 rfl; have fx6 := HG.out.f 4 rfl
  have lx7 := HG.out.c 5 rfl; have fx7 := HG.out.f 5 rfl
  have r0 := Gr.refl vw8
  obtain ⟨d6_7, d7_6⟩ := HG.out.ne 4 5 rfl rfl (by decide)
  go_wp2
  refine hK.out _ _ ?_; clear hK K
  show Code.wp _ _ _ _ _
  clear r0 lx6 fx6 lx7 fx7 d6_7 d7_6
  refine fH ((((((HG.out).put2 4 0 rfl).put 4 2 _ rfl).put2 5 0 rfl).put 5 2 _ rfl).er 4) fun Wx12 HF => ?_
  clear HG
  obtain ⟨u11, HZ11⟩ : ∃ z, Hid ((r) + (r) = z) := ⟨_, Lib.hid rfl⟩
  have su11 : sz (u11) ≤ 4053 := by rw [← HZ11.out]; have := sz_add (r) (r); omega
  have HZ12 : Hid (((1 : Int) : Rat) = (1 : Rat)) := Lib.hid (by decide +kernel)
  have su12 : sz ((1 : Rat)) ≤ 2 := sz_of (wl_le.2 (by decide +kernel)) (wl_le.2 (by decide +kernel))
  have lx5 := HF.out.c 3 rfl
  refine kS fun K hK => ?_
  refine sq 6 [(true, 0), (true, 1), (true, 2), (true, 3), (true, 4), (true, 5)] fun T hT => ?_
  iterate 2 refine tk ?_
  refine ck Tryz.call130 (fun w' hw => fadd_any (r) (r) (u11) _ HZ11.out om om) ?_
  refine ck Tryz.call147 (fun w' hw => fint_any (1) (1 : Rat) _ HZ12.out om om) ?_
  refine ck Tryz.call140 (fun w' hw => fcmp_any (u11) (1 : Rat) (1) _ (by have e9 := HT_.out; have e8 := HO.out; simp only [← HZ11.out, ← HZ9.out, ← HZ6.out]; rw [e9, e8]) om om) ?_
  refine tk ?_
  refine nlS hT HF fun vw9 HG => ?_
  clear hT T HF lx5
  go_wp2
  refine hK.out _ _ ?_; clear hK K
  show Code.wp _ _ _ _ _
  refine fH ((HG.out).er 3) fun Wx13 HF => ?_
  clear HG
  have lx7 := HF.out.c 3 rfl
  refine kS fun K hK => ?_
  refine sq 11 [(true, 0), (true, 1), (true, 2), (true, 3), (true, 4), (true, 5), (true, 6), (true, 7), (true, 8), (true, 9), (true, 10)] fun T hT => ?_
  iterate 6 refine tk ?_
  iterate 3 refine sk ?_
  iterate 2 refine tk ?_
  refine nlS hT HF fun vw10 HG => ?_
  clear hT T HF lx7
  go_wp2
  refine hK.out _ _ ?_; clear hK K
  show Code.wp _ _ _ _ _
  refine fH ((HG.out).er 3) fun Wx14 HF => ?_
  clear HG
  refine wp_cond_false (by rfl) ?_
  refine wp_skip ?_
  show Code.wp _ _ _ _ _
  refine wp_seq ?_
  have HZ13 : Hid ((x).ceil = c) := Lib.hid (HCE.out)
  have su13 : wl (Int.natAbs (c)) ≤ 1013 := by have e := HZ13.out; first | omega | (rw [← e]; have := wl_ceil (x); omega)
  have lx3 := HF.out.c 1 rfl
  refine kS fun K hK => ?_
  refine sq 2 [(true, 0), (true, 1)] fun T hT => ?_
  refine tk ?_
  refine ck Tryz.call148 (fun w' hw => fceil_any (x) (c) _ (Lib.hid HZ13.out) om) ?_
  refine nlS hT HF fun vw11 HG => ?_
  clear hT T HF lx3
  have lx1 := HG.out.c 0 rfl; have fx1 := HG.out.f 0 rfl
  have r0 := Gr.refl vw11
  go_wp2
  refine hK.out _ _ ?_; clear hK K
  show Code.wp _ _ _ _ _
  clear r0 lx1 fx1
  refine fH ((((HG.out).put2 0 0 rfl).put 0 2 _ rfl).er 1) fun Wx16 HF => ?_
  clear HG
  refine wp_ret ?_
  try simp only [Exit.then, Exit.inBlock]
  have lx1 := HF.out.c 0 rfl
  have r0 := Gr.refl Wx16
  exact bodyPost_ret (v := .tuple #[(.agg #[.int .u64 ((lo (Int.natAbs (c)) : Nat) : Int), .string (bg (Int.natAbs (c))), .bool (decide ((c) < 0))]), .int .i64 0]) (by simp [results, Tryz.results239, go_sem, lx1 _ r0]) rfl ⟨rfl, HF.out.1⟩

set_option maxRecDepth 20000 in
set_option maxHeartbeats 4000000 in
theorem drnd_even (a x y : Rat) (k p : Nat) (f c : Int) (r : Rat) (o d : Int) (w : World) (HP : Hid (10 ^ k = p)) (HY : Hid ((((p : Nat) : Int) : Rat) = y)) (HX : Hid (a * y = x)) (HFL : Hid (x.floor = f)) (HCE : Hid (x.ceil = c)) (hk : k ≤ 100) (hs : sz a ≤ 1000) (hsy : sz y ≤ 12) (HR : Hid (x - ((f : Int) : Rat) = r)) (HT_ : Hid (sgQ (r + r - (1 : Rat)) = o)) (HD : Hid (f % 2 = d)) (HO : Hid (o = 0)) (HDV : Hid (d = 0)) :
    Calls Tryz.prog 239 #[(Value.agg #[.int .u64 ((lo (Int.natAbs ((a).num)) : Nat) : Int), .string (bg (Int.natAbs ((a).num))), .bool (decide (((a).num) < 0)), .int .u64 ((lo ((a).den - 1) : Nat) : Int), .string (bg ((a).den - 1))]), .int .i64 (((k : Nat) : Int)), .int .i64 3] w fun e w' => e = .returned (.tuple #[(.agg #[.int .u64 ((lo (Int.natAbs (f)) : Nat) : Int), .string (bg (Int.natAbs (f))), .bool (decide ((f) < 0))]), .int .i64 0]) ∧ Below w.heap.size w w' := by
  go_enter Tryz.func239, Tryz.ntmps239
  have HF := Lib.hid (hp0 w)
  refine kS fun K hK => ?_
  refine wp_region_lit ?_
  go_wp2
  refine hK.out _ _ ?_; clear hK K
  show Code.wp _ _ _ _ _
  refine fH (((HF.out).al (b := w.heap.size) (by first | rfl | simp) (by decide)).al (b := w.heap.size + 1) (by first | rfl | simp) (by decide)) fun Wx0 HG => ?_
  clear HF; have HF := HG; clear HG
  generalize w.heap.size + 1 = gx1 at *
  refine wp_seq ?_
  refine wp_block ?_
  have hd1 : ¬ ((((k : Nat) : Int)) < 0) := ok
  have hd2 : ¬ (k < 0) := by have e := hd1; omega
  refine kS fun K hK => ?_
  refine sq 3 [(true, 0), (true, 1), (true, 2)] fun T hT => ?_
  iterate 3 refine tk ?_
  refine nlS hT HF fun vw1 HG => ?_
  clear hT T HF
  go_wp2
  refine hK.out _ _ ?_; clear hK K
  show Code.wp _ _ _ _ _
  have HF := HG; clear HG
  clear hd1 hd2
  refine wp_cond_false (by rfl) ?_
  have hd3 : ¬ (100 < (((k : Nat) : Int))) := ok
  refine kS fun K hK => ?_
  refine sq 3 [(true, 0), (true, 1), (true, 2)] fun T hT => ?_
  iterate 3 refine tk ?_
  refine nlS hT HF fun vw2 HG => ?_
  clear hT T HF
  go_wp2
  refine hK.out _ _ ?_; clear hK K
  show Code.wp _ _ _ _ _
  have HF := HG; clear HG
  clear hd3
  refine wp_cond_false (by rfl) ?_
  refine wp_skip ?_
  show Code.wp _ _ _ _ _
  have HZ1 : Hid (10 ^ k = p) := Lib.hid (HP.out)
  have su1 : wl (p) ≤ 12 := by have e := HZ1.out; first | omega | (rw [← e]; exact wl_ten (by omega))
  have HZ2 : Hid ((if false then -((p : Nat) : Int) else ((p : Nat) : Int)) = ((p : Nat) : Int)) := Lib.hid (by rfl)
  have su2 : wl (Int.natAbs (((p : Nat) : Int))) ≤ 12 := by have e := HZ2.out; first | omega | (rw [← e]; split <;> simp <;> omega)
  have HZ3 : Hid (((((p : Nat) : Int) : Int) : Rat) = y) := Lib.hid (HY.out)
  have su3 : sz (y) ≤ 12 := by have e := HZ3.out; first | omega | (rw [← e]; rw [sz_int]; omega)
  have HZ4 : Hid ((a) * (y) = x) := Lib.hid (HX.out)
  have su4 : sz (x) ≤ 1012 := by have e := HZ4.out; first | omega | (rw [← e]; have := sz_mul (a) (y); omega)
  have lx0 := HF.out.c 0 rfl
  refine kS fun K hK => ?_
  refine wp_region_plan 7 [6] [] (fun _ => 8) (fun _ => .cells #[.int .u64 0, .string ⟨#[]⟩, .bool false, .int .u64 0, .string ⟨#[]⟩] 36) [(true, 0), (true, 1), (true, 2), (true, 3), (true, 4), (true, 5)] (by kernel_rfl) (by kernel_rfl) (by intro i hi; simp only [List.mem_cons, List.not_mem_nil, or_false] at hi; rcases hi with rfl <;> exact ⟨_, rfl, rfl, rfl, by simp, fun ρ w => by kernel_rfl⟩) (fun i hi => by cases hi) (fun _ _ _ _ _ h => h) (fun T hT => ?_)
  iterate 2 refine tk ?_
  refine ck Tryz.call264 (fun w' hw => dten_any k (p) _ (Lib.hid HZ1.out) (by omega)) ?_
  refine ck Tryz.call37 (fun w' hw => from_any false (p) (((p : Nat) : Int)) _ HZ2.out) ?_
  refine ck Tryz.call263 (fun w' hw => dwhole_any (((p : Nat) : Int)) (y) _ (Lib.hid HZ3.out) om) ?_
  refine ck Tryz.call134 (fun w' hw => fmul_any (a) (y) (x) _ HZ4.out om om) ?_
  refine wpPlan_nil (hT.out _ _ ?_)
  intro G vw3 hg hf
  simp only [puts, Act.put, lA, lB, lC, lD, lE, ↓reduceIte, Nat.reduceEqDiff]
  have HG := Lib.hid (HF.out.fr hg hf (zs := [(#[.int .u64 0, .string ⟨#[]⟩, .bool false, .int .u64 0, .string ⟨#[]⟩], 36)]) rfl (by decide) (by decide))
  simp only [List.zip_cons_cons, List.zip_nil_right, List.map_cons, List.map_nil, lF, lG] at HG
  clear hT T HF hg hf lx0
  generalize G 6 = gx3 at *
  have lx3 := HG.out.c 2 rfl; have fx3 := HG.out.f 2 rfl
  have r0 := Gr.refl vw3
  go_wp2
  refine hK.out _ _ ?_; clear hK K
  show Code.wp _ _ _ _ _
  clear r0 lx3 fx3
  refine fH (((((HG.out).put2 2 0 rfl).put2 2 2 rfl).put 2 4 _ rfl).er 0) fun Wx5 HF => ?_
  clear HG
  have HZ5 : Hid ((x).floor = f) := Lib.hid (HFL.out)
  have su5 : wl (Int.natAbs (f)) ≤ 1013 := by have e := HZ5.out; first | omega | (rw [← e]; have := wl_floor (x); omega)
  have lx3 := HF.out.c 1 rfl
  refine kS fun K hK => ?_
  refine sq 2 [(true, 0), (true, 1)] fun T hT => ?_
  refine tk ?_
  refine ck Tryz.call142 (fun w' hw => ffloor_any (x) (f) _ (Lib.hid HZ5.out) om) ?_
  refine nlS hT HF fun vw4 HG => ?_
  clear hT T HF lx3
  go_wp2
  refine hK.out _ _ ?_; clear hK K
  show Code.wp _ _ _ _ _
  refine fH ((HG.out).al (b := vw4.heap.size) (by first | rfl | simp) (by decide)) fun Wx6 HF => ?_
  clear HG
  generalize vw4.heap.size = gx4 at *
  refine wp_seq ?_
  refine kS fun K hK => ?_
  refine sq 1 [(true, 0)] fun T hT => ?_
  refine tk ?_
  refine nlS hT HF fun vw5 HG => ?_
  clear hT T HF
  go_wp2
  refine hK.out _ _ ?_; clear hK K
  show Code.wp _ _ _ _ _
  have HF := HG; clear HG
  refine wp_block ?_
  refine wp_seq ?_
  refine wp_block ?_
  refine wp_seq ?_
  refine wp_block ?_
  refine wp_seq ?_
  refine wp_block ?_
  refine wp_seq ?_
  refine wp_seq ?_
  refine kS fun K hK => ?_
  refine sq 2 [(true, 0), (true, 1)] fun T hT => ?_
  iterate 2 refine tk ?_
  refine nlS hT HF fun vw6 HG => ?_
  clear hT T HF
  go_wp2
  refine hK.out _ _ ?_; clear hK K
  show Code.wp _ _ _ _ _
  have HF := HG; clear HG
  refine wp_cond_true (by rfl) ?_
  refine wp_exit ?_
  show Code.wp _ _ _ _ _
  obtain ⟨u6, HZ6⟩ : ∃ z, Hid (((f : Int) : Rat) = z) := ⟨_, Lib.hid rfl⟩
  have su6 : sz (u6) ≤ 1013 := by rw [← HZ6.out]; rw [sz_int]; omega
  have HZ7 : Hid ((x) - (u6) = r) := Lib.hid (by rw [← HR.out]; simp only [← HZ6.out])
  have su7 : sz (r) ≤ 2026 := by have e := HZ7.out; first | omega | (rw [← e]; have := sz_sub (x) (u6); omega)
  have lx3 := HF.out.c 1 rfl
  have lx4 := HF.out.c 2 rfl
  refine kS fun K hK => ?_
  refine wp_region_plan 5 [4] [] (fun _ => 10) (fun _ => .cells #[.int .u64 0, .string ⟨#[]⟩, .bool false, .int .u64 0, .string ⟨#[]⟩] 36) [(true, 0), (true, 1), (true, 2), (true, 3)] (by kernel_rfl) (by kernel_rfl) (by intro i hi; simp only [List.mem_cons, List.not_mem_nil, or_false] at hi; rcases hi with rfl <;> exact ⟨_, rfl, rfl, rfl, by simp, fun ρ w => by kernel_rfl⟩) (fun i hi => by cases hi) (fun _ _ _ _ _ h => h) (fun T hT => ?_)
  iterate 2 refine tk ?_
  refine ck Tryz.call263 (fun w' hw => dwhole_any (f) (u6) _ (Lib.hid HZ6.out) om) ?_
  refine ck Tryz.call132 (fun w' hw => fsub_any (x) (u6) (r) _ HZ7.out om om) ?_
  refine wpPlan_nil (hT.out _ _ ?_)
  intro G vw7 hg hf
  simp only [puts, Act.put, lA, lB, lC, lD, lE, ↓reduceIte, Nat.reduceEqDiff]
  have HG := Lib.hid (HF.out.fr hg hf (zs := [(#[.int .u64 0, .string ⟨#[]⟩, .bool false, .int .u64 0, .string ⟨#[]⟩], 36)]) rfl (by decide) (by decide))
  simp only [List.zip_cons_cons, List.zip_nil_right, List.map_cons, List.map_nil, lF, lG] at HG
  clear hT T HF hg hf lx3 lx4
  generalize G 4 = gx5 at *
  have lx5 := HG.out.c 3 rfl; have fx5 := HG.out.f 3 rfl
  have r0 := Gr.refl vw7
  go_wp2
  refine hK.out _ _ ?_; clear hK K
  show Code.wp _ _ _ _ _
  clear r0 lx5 fx5
  refine fH ((((HG.out).put2 3 0 rfl).put2 3 2 rfl).put 3 4 _ rfl) fun Wx11 HF => ?_
  clear HG
  have su8 : wl (Int.natAbs (2)) ≤ 1 := wl_le.2 (by decide +kernel)
  obtain ⟨u9, HZ9⟩ : ∃ z, Hid ((f) / (2) = z) := ⟨_, Lib.hid rfl⟩
  have su9 : wl (Int.natAbs (u9)) ≤ 1014 := by rw [← HZ9.out]; have := wl_idiv (f) (2); omega
  have HZ10 : Hid ((f) % (2) = d) := Lib.hid (HD.out)
  have su10 : wl (Int.natAbs (d)) ≤ 1013 := by have e := HZ10.out; first | omega | (rw [← e]; have := wl_imod (f) (2) (by first | exact ok | (simp only [← HZ9.out, ← HZ6.out] <;> first | exact ok)); omega)
  have lx4 := HF.out.c 2 rfl
  refine kS fun K hK => ?_
  refine wp_region_plan 9 [7, 8] [5, 6] (fun i => if i = 7 then 11 else 12) (fun i => if i = 7 then .cells #[.int .u64 0, .string ⟨#[]⟩, .bool false] 34 else .cells #[.int .u64 0, .string ⟨#[]⟩, .bool false] 34) [(true, 0), (true, 1), (true, 2), (true, 3), (true, 4), (true, 5), (true, 6)] (by kernel_rfl) (by kernel_rfl) (by intro i hi; simp only [List.mem_cons, List.not_mem_nil, or_false] at hi; rcases hi with rfl | rfl <;> exact ⟨_, rfl, rfl, rfl, by simp, fun ρ w => by kernel_rfl⟩) (by intro i hi; simp only [List.mem_cons, List.not_mem_nil, or_false] at hi; rcases hi with rfl | rfl <;> exact ⟨_, rfl, pure_extract⟩) (fun _ _ _ _ _ h => h) (fun T hT => ?_)
  refine tk ?_
  refine ck Tryz.call23 (fun w' hw => iof_any (2) _ (by decide) (by decide)) ?_
  refine ck Tryz.call42 (fun w' hw => zidiv (f) (2) (u9) (d) _ HZ9.out HZ10.out (by first | exact ok | (simp only [← HZ9.out, ← HZ6.out] <;> first | exact ok)) om om) ?_
  iterate 4 refine tk ?_
  refine wpPlan_nil (hT.out _ _ ?_)
  intro G vw8 hg hf
  simp only [puts, Act.put, lA, lB, lC, lD, lE, ↓reduceIte, Nat.reduceEqDiff]
  have HG := Lib.hid (HF.out.fr hg hf (zs := [(#[.int .u64 0, .string ⟨#[]⟩, .bool false], 34), (#[.int .u64 0, .string ⟨#[]⟩, .bool false], 34)]) rfl (by decide) (by decide))
  simp only [List.zip_cons_cons, List.zip_nil_right, List.map_cons, List.map_nil, lF, lG] at HG
  clear hT T HF hg hf lx4
  generalize G 7 = gx6 at *
  generalize G 8 = gx7 at *
  have lx6 := HG.out.c 4 rfl; have fx6 := HG.out.f 4 rfl
  have lx7 := HG.out.c 5 rfl; have fx7 := HG.out.f 5 rfl
  have r0 := Gr.refl vw8
  obtain ⟨d6_7, d7_6⟩ := HG.out.ne 4 5 rfl rfl (by decide)
  go_wp2
  refine hK.out _ _ ?_; clear hK K
  show Code.wp _ _ _ _ _
  clear r0 lx6 fx6 lx7 fx7 d6_7 d7_6
  refine fH ((((((HG.out).put2 4 0 rfl).put 4 2 _ rfl).put2 5 0 rfl).put 5 2 _ rfl).er 4) fun Wx12 HF => ?_
  clear HG
  obtain ⟨u11, HZ11⟩ : ∃ z, Hid ((r) + (r) = z) := ⟨_, Lib.hid rfl⟩
  have su11 : sz (u11) ≤ 4053 := by rw [← HZ11.out]; have := sz_add (r) (r); omega
  have HZ12 : Hid (((1 : Int) : Rat) = (1 : Rat)) := Lib.hid (by decide +kernel)
  have su12 : sz ((1 : Rat)) ≤ 2 := sz_of (wl_le.2 (by decide +kernel)) (wl_le.2 (by decide +kernel))
  have lx5 := HF.out.c 3 rfl
  refine kS fun K hK => ?_
  refine sq 6 [(true, 0), (true, 1), (true, 2), (true, 3), (true, 4), (true, 5)] fun T hT => ?_
  iterate 2 refine tk ?_
  refine ck Tryz.call130 (fun w' hw => fadd_any (r) (r) (u11) _ HZ11.out om om) ?_
  refine ck Tryz.call147 (fun w' hw => fint_any (1) (1 : Rat) _ HZ12.out om om) ?_
  refine ck Tryz.call140 (fun w' hw => fcmp_any (u11) (1 : Rat) (0) _ (by have e9 := HT_.out; have e8 := HO.out; simp only [← HZ11.out, ← HZ9.out, ← HZ6.out]; rw [e9, e8]) om om) ?_
  refine tk ?_
  refine nlS hT HF fun vw9 HG => ?_
  clear hT T HF lx5
  go_wp2
  refine hK.out _ _ ?_; clear hK K
  show Code.wp _ _ _ _ _
  refine fH ((HG.out).er 3) fun Wx13 HF => ?_
  clear HG
  have lx7 := HF.out.c 3 rfl
  refine kS fun K hK => ?_
  refine sq 11 [(true, 0), (true, 1), (true, 2), (true, 3), (true, 4), (true, 5), (true, 6), (true, 7), (true, 8), (true, 9), (true, 10)] fun T hT => ?_
  iterate 7 refine tk ?_
  refine ck Tryz.call101 (fun w' hw => zisign (d) (0) _ (by have e8 := HDV.out; rw [e8]; rfl)) ?_
  iterate 3 refine tk ?_
  refine nlS hT HF fun vw10 HG => ?_
  clear hT T HF lx7
  go_wp2
  refine hK.out _ _ ?_; clear hK K
  show Code.wp _ _ _ _ _
  refine fH ((HG.out).er 3) fun Wx14 HF => ?_
  clear HG
  refine wp_cond_true (by rfl) ?_
  have lx4 := HF.out.c 2 rfl
  refine kS fun K hK => ?_
  refine sq 1 [(true, 0)] fun T hT => ?_
  refine tk ?_
  refine nlS hT HF fun vw11 HG => ?_
  clear hT T HF lx4
  have lx1 := HG.out.c 0 rfl; have fx1 := HG.out.f 0 rfl
  have r0 := Gr.refl vw11
  go_wp2
  refine hK.out _ _ ?_; clear hK K
  show Code.wp _ _ _ _ _
  clear r0 lx1 fx1
  refine fH (((HG.out).put2 0 0 rfl).put 0 2 _ rfl) fun Wx15 HF => ?_
  clear HG
  refine wp_ret ?_
  try simp only [Exit.then, Exit.inBlock]
  have lx1 := HF.out.c 0 rfl
  have r0 := Gr.refl Wx15
  exact bodyPost_ret (v := .tuple #[(.agg #[.int .u64 ((lo (Int.natAbs (f)) : Nat) : Int), .string (bg (Int.natAbs (f))), .bool (decide ((f) < 0))]), .int .i64 0]) (by simp [results, Tryz.results239, go_sem, lx1 _ r0]) rfl ⟨rfl, HF.out.1⟩

set_option maxRecDepth 20000 in
set_option maxHeartbeats 4000000 in
theorem drnd_odd (a x y : Rat) (k p : Nat) (f c : Int) (r : Rat) (o d : Int) (w : World) (HP : Hid (10 ^ k = p)) (HY : Hid ((((p : Nat) : Int) : Rat) = y)) (HX : Hid (a * y = x)) (HFL : Hid (x.floor = f)) (HCE : Hid (x.ceil = c)) (hk : k ≤ 100) (hs : sz a ≤ 1000) (hsy : sz y ≤ 12) (HR : Hid (x - ((f : Int) : Rat) = r)) (HT_ : Hid (sgQ (r + r - (1 : Rat)) = o)) (HD : Hid (f % 2 = d)) (HO : Hid (o = 0)) (HDV : Hid (d = 1)) :
    Calls Tryz.prog 239 #[(Value.agg #[.int .u64 ((lo (Int.natAbs ((a).num)) : Nat) : Int), .string (bg (Int.natAbs ((a).num))), .bool (decide (((a).num) < 0)), .int .u64 ((lo ((a).den - 1) : Nat) : Int), .string (bg ((a).den - 1))]), .int .i64 (((k : Nat) : Int)), .int .i64 3] w fun e w' => e = .returned (.tuple #[(.agg #[.int .u64 ((lo (Int.natAbs (c)) : Nat) : Int), .string (bg (Int.natAbs (c))), .bool (decide ((c) < 0))]), .int .i64 0]) ∧ Below w.heap.size w w' := by
  go_enter Tryz.func239, Tryz.ntmps239
  have HF := Lib.hid (hp0 w)
  refine kS fun K hK => ?_
  refine wp_region_lit ?_
  go_wp2
  refine hK.out _ _ ?_; clear hK K
  show Code.wp _ _ _ _ _
  refine fH (((HF.out).al (b := w.heap.size) (by first | rfl | simp) (by decide)).al (b := w.heap.size + 1) (by first | rfl | simp) (by decide)) fun Wx0 HG => ?_
  clear HF; have HF := HG; clear HG
  generalize w.heap.size + 1 = gx1 at *
  refine wp_seq ?_
  refine wp_block ?_
  have hd1 : ¬ ((((k : Nat) : Int)) < 0) := ok
  have hd2 : ¬ (k < 0) := by have e := hd1; omega
  refine kS fun K hK => ?_
  refine sq 3 [(true, 0), (true, 1), (true, 2)] fun T hT => ?_
  iterate 3 refine tk ?_
  refine nlS hT HF fun vw1 HG => ?_
  clear hT T HF
  go_wp2
  refine hK.out _ _ ?_; clear hK K
  show Code.wp _ _ _ _ _
  have HF := HG; clear HG
  clear hd1 hd2
  refine wp_cond_false (by rfl) ?_
  have hd3 : ¬ (100 < (((k : Nat) : Int))) := ok
  refine kS fun K hK => ?_
  refine sq 3 [(true, 0), (true, 1), (true, 2)] fun T hT => ?_
  iterate 3 refine tk ?_
  refine nlS hT HF fun vw2 HG => ?_
  clear hT T HF
  go_wp2
  refine hK.out _ _ ?_; clear hK K
  show Code.wp _ _ _ _ _
  have HF := HG; clear HG
  clear hd3
  refine wp_cond_false (by rfl) ?_
  refine wp_skip ?_
  show Code.wp _ _ _ _ _
  have HZ1 : Hid (10 ^ k = p) := Lib.hid (HP.out)
  have su1 : wl (p) ≤ 12 := by have e := HZ1.out; first | omega | (rw [← e]; exact wl_ten (by omega))
  have HZ2 : Hid ((if false then -((p : Nat) : Int) else ((p : Nat) : Int)) = ((p : Nat) : Int)) := Lib.hid (by rfl)
  have su2 : wl (Int.natAbs (((p : Nat) : Int))) ≤ 12 := by have e := HZ2.out; first | omega | (rw [← e]; split <;> simp <;> omega)
  have HZ3 : Hid (((((p : Nat) : Int) : Int) : Rat) = y) := Lib.hid (HY.out)
  have su3 : sz (y) ≤ 12 := by have e := HZ3.out; first | omega | (rw [← e]; rw [sz_int]; omega)
  have HZ4 : Hid ((a) * (y) = x) := Lib.hid (HX.out)
  have su4 : sz (x) ≤ 1012 := by have e := HZ4.out; first | omega | (rw [← e]; have := sz_mul (a) (y); omega)
  have lx0 := HF.out.c 0 rfl
  refine kS fun K hK => ?_
  refine wp_region_plan 7 [6] [] (fun _ => 8) (fun _ => .cells #[.int .u64 0, .string ⟨#[]⟩, .bool false, .int .u64 0, .string ⟨#[]⟩] 36) [(true, 0), (true, 1), (true, 2), (true, 3), (true, 4), (true, 5)] (by kernel_rfl) (by kernel_rfl) (by intro i hi; simp only [List.mem_cons, List.not_mem_nil, or_false] at hi; rcases hi with rfl <;> exact ⟨_, rfl, rfl, rfl, by simp, fun ρ w => by kernel_rfl⟩) (fun i hi => by cases hi) (fun _ _ _ _ _ h => h) (fun T hT => ?_)
  iterate 2 refine tk ?_
  refine ck Tryz.call264 (fun w' hw => dten_any k (p) _ (Lib.hid HZ1.out) (by omega)) ?_
  refine ck Tryz.call37 (fun w' hw => from_any false (p) (((p : Nat) : Int)) _ HZ2.out) ?_
  refine ck Tryz.call263 (fun w' hw => dwhole_any (((p : Nat) : Int)) (y) _ (Lib.hid HZ3.out) om) ?_
  refine ck Tryz.call134 (fun w' hw => fmul_any (a) (y) (x) _ HZ4.out om om) ?_
  refine wpPlan_nil (hT.out _ _ ?_)
  intro G vw3 hg hf
  simp only [puts, Act.put, lA, lB, lC, lD, lE, ↓reduceIte, Nat.reduceEqDiff]
  have HG := Lib.hid (HF.out.fr hg hf (zs := [(#[.int .u64 0, .string ⟨#[]⟩, .bool false, .int .u64 0, .string ⟨#[]⟩], 36)]) rfl (by decide) (by decide))
  simp only [List.zip_cons_cons, List.zip_nil_right, List.map_cons, List.map_nil, lF, lG] at HG
  clear hT T HF hg hf lx0
  generalize G 6 = gx3 at *
  have lx3 := HG.out.c 2 rfl; have fx3 := HG.out.f 2 rfl
  have r0 := Gr.refl vw3
  go_wp2
  refine hK.out _ _ ?_; clear hK K
  show Code.wp _ _ _ _ _
  clear r0 lx3 fx3
  refine fH (((((HG.out).put2 2 0 rfl).put2 2 2 rfl).put 2 4 _ rfl).er 0) fun Wx5 HF => ?_
  clear HG
  have HZ5 : Hid ((x).floor = f) := Lib.hid (HFL.out)
  have su5 : wl (Int.natAbs (f)) ≤ 1013 := by have e := HZ5.out; first | omega | (rw [← e]; have := wl_floor (x); omega)
  have lx3 := HF.out.c 1 rfl
  refine kS fun K hK => ?_
  refine sq 2 [(true, 0), (true, 1)] fun T hT => ?_
  refine tk ?_
  refine ck Tryz.call142 (fun w' hw => ffloor_any (x) (f) _ (Lib.hid HZ5.out) om) ?_
  refine nlS hT HF fun vw4 HG => ?_
  clear hT T HF lx3
  go_wp2
  refine hK.out _ _ ?_; clear hK K
  show Code.wp _ _ _ _ _
  refine fH ((HG.out).al (b := vw4.heap.size) (by first | rfl | simp) (by decide)) fun Wx6 HF => ?_
  clear HG
  generalize vw4.heap.size = gx4 at *
  refine wp_seq ?_
  refine kS fun K hK => ?_
  refine sq 1 [(true, 0)] fun T hT => ?_
  refine tk ?_
  refine nlS hT HF fun vw5 HG => ?_
  clear hT T HF
  go_wp2
  refine hK.out _ _ ?_; clear hK K
  show Code.wp _ _ _ _ _
  have HF := HG; clear HG
  refine wp_block ?_
  refine wp_seq ?_
  refine wp_block ?_
  refine wp_seq ?_
  refine wp_block ?_
  refine wp_seq ?_
  refine wp_block ?_
  refine wp_seq ?_
  refine wp_seq ?_
  refine kS fun K hK => ?_
  refine sq 2 [(true, 0), (true, 1)] fun T hT => ?_
  iterate 2 refine tk ?_
  refine nlS hT HF fun vw6 HG => ?_
  clear hT T HF
  go_wp2
  refine hK.out _ _ ?_; clear hK K
  show Code.wp _ _ _ _ _
  have HF := HG; clear HG
  refine wp_cond_true (by rfl) ?_
  refine wp_exit ?_
  show Code.wp _ _ _ _ _
  obtain ⟨u6, HZ6⟩ : ∃ z, Hid (((f : Int) : Rat) = z) := ⟨_, Lib.hid rfl⟩
  have su6 : sz (u6) ≤ 1013 := by rw [← HZ6.out]; rw [sz_int]; omega
  have HZ7 : Hid ((x) - (u6) = r) := Lib.hid (by rw [← HR.out]; simp only [← HZ6.out])
  have su7 : sz (r) ≤ 2026 := by have e := HZ7.out; first | omega | (rw [← e]; have := sz_sub (x) (u6); omega)
  have lx3 := HF.out.c 1 rfl
  have lx4 := HF.out.c 2 rfl
  refine kS fun K hK => ?_
  refine wp_region_plan 5 [4] [] (fun _ => 10) (fun _ => .cells #[.int .u64 0, .string ⟨#[]⟩, .bool false, .int .u64 0, .string ⟨#[]⟩] 36) [(true, 0), (true, 1), (true, 2), (true, 3)] (by kernel_rfl) (by kernel_rfl) (by intro i hi; simp only [List.mem_cons, List.not_mem_nil, or_false] at hi; rcases hi with rfl <;> exact ⟨_, rfl, rfl, rfl, by simp, fun ρ w => by kernel_rfl⟩) (fun i hi => by cases hi) (fun _ _ _ _ _ h => h) (fun T hT => ?_)
  iterate 2 refine tk ?_
  refine ck Tryz.call263 (fun w' hw => dwhole_any (f) (u6) _ (Lib.hid HZ6.out) om) ?_
  refine ck Tryz.call132 (fun w' hw => fsub_any (x) (u6) (r) _ HZ7.out om om) ?_
  refine wpPlan_nil (hT.out _ _ ?_)
  intro G vw7 hg hf
  simp only [puts, Act.put, lA, lB, lC, lD, lE, ↓reduceIte, Nat.reduceEqDiff]
  have HG := Lib.hid (HF.out.fr hg hf (zs := [(#[.int .u64 0, .string ⟨#[]⟩, .bool false, .int .u64 0, .string ⟨#[]⟩], 36)]) rfl (by decide) (by decide))
  simp only [List.zip_cons_cons, List.zip_nil_right, List.map_cons, List.map_nil, lF, lG] at HG
  clear hT T HF hg hf lx3 lx4
  generalize G 4 = gx5 at *
  have lx5 := HG.out.c 3 rfl; have fx5 := HG.out.f 3 rfl
  have r0 := Gr.refl vw7
  go_wp2
  refine hK.out _ _ ?_; clear hK K
  show Code.wp _ _ _ _ _
  clear r0 lx5 fx5
  refine fH ((((HG.out).put2 3 0 rfl).put2 3 2 rfl).put 3 4 _ rfl) fun Wx11 HF => ?_
  clear HG
  have su8 : wl (Int.natAbs (2)) ≤ 1 := wl_le.2 (by decide +kernel)
  obtain ⟨u9, HZ9⟩ : ∃ z, Hid ((f) / (2) = z) := ⟨_, Lib.hid rfl⟩
  have su9 : wl (Int.natAbs (u9)) ≤ 1014 := by rw [← HZ9.out]; have := wl_idiv (f) (2); omega
  have HZ10 : Hid ((f) % (2) = d) := Lib.hid (HD.out)
  have su10 : wl (Int.natAbs (d)) ≤ 1013 := by have e := HZ10.out; first | omega | (rw [← e]; have := wl_imod (f) (2) (by first | exact ok | (simp only [← HZ9.out, ← HZ6.out] <;> first | exact ok)); omega)
  have lx4 := HF.out.c 2 rfl
  refine kS fun K hK => ?_
  refine wp_region_plan 9 [7, 8] [5, 6] (fun i => if i = 7 then 11 else 12) (fun i => if i = 7 then .cells #[.int .u64 0, .string ⟨#[]⟩, .bool false] 34 else .cells #[.int .u64 0, .string ⟨#[]⟩, .bool false] 34) [(true, 0), (true, 1), (true, 2), (true, 3), (true, 4), (true, 5), (true, 6)] (by kernel_rfl) (by kernel_rfl) (by intro i hi; simp only [List.mem_cons, List.not_mem_nil, or_false] at hi; rcases hi with rfl | rfl <;> exact ⟨_, rfl, rfl, rfl, by simp, fun ρ w => by kernel_rfl⟩) (by intro i hi; simp only [List.mem_cons, List.not_mem_nil, or_false] at hi; rcases hi with rfl | rfl <;> exact ⟨_, rfl, pure_extract⟩) (fun _ _ _ _ _ h => h) (fun T hT => ?_)
  refine tk ?_
  refine ck Tryz.call23 (fun w' hw => iof_any (2) _ (by decide) (by decide)) ?_
  refine ck Tryz.call42 (fun w' hw => zidiv (f) (2) (u9) (d) _ HZ9.out HZ10.out (by first | exact ok | (simp only [← HZ9.out, ← HZ6.out] <;> first | exact ok)) om om) ?_
  iterate 4 refine tk ?_
  refine wpPlan_nil (hT.out _ _ ?_)
  intro G vw8 hg hf
  simp only [puts, Act.put, lA, lB, lC, lD, lE, ↓reduceIte, Nat.reduceEqDiff]
  have HG := Lib.hid (HF.out.fr hg hf (zs := [(#[.int .u64 0, .string ⟨#[]⟩, .bool false], 34), (#[.int .u64 0, .string ⟨#[]⟩, .bool false], 34)]) rfl (by decide) (by decide))
  simp only [List.zip_cons_cons, List.zip_nil_right, List.map_cons, List.map_nil, lF, lG] at HG
  clear hT T HF hg hf lx4
  generalize G 7 = gx6 at *
  generalize G 8 = gx7 at *
  have lx6 := HG.out.c 4 rfl; have fx6 := HG.out.f 4 rfl
  have lx7 := HG.out.c 5 rfl; have fx7 := HG.out.f 5 rfl
  have r0 := Gr.refl vw8
  obtain ⟨d6_7, d7_6⟩ := HG.out.ne 4 5 rfl rfl (by decide)
  go_wp2
  refine hK.out _ _ ?_; clear hK K
  show Code.wp _ _ _ _ _
  clear r0 lx6 fx6 lx7 fx7 d6_7 d7_6
  refine fH ((((((HG.out).put2 4 0 rfl).put 4 2 _ rfl).put2 5 0 rfl).put 5 2 _ rfl).er 4) fun Wx12 HF => ?_
  clear HG
  obtain ⟨u11, HZ11⟩ : ∃ z, Hid ((r) + (r) = z) := ⟨_, Lib.hid rfl⟩
  have su11 : sz (u11) ≤ 4053 := by rw [← HZ11.out]; have := sz_add (r) (r); omega
  have HZ12 : Hid (((1 : Int) : Rat) = (1 : Rat)) := Lib.hid (by decide +kernel)
  have su12 : sz ((1 : Rat)) ≤ 2 := sz_of (wl_le.2 (by decide +kernel)) (wl_le.2 (by decide +kernel))
  have lx5 := HF.out.c 3 rfl
  refine kS fun K hK => ?_
  refine sq 6 [(true, 0), (true, 1), (true, 2), (true, 3), (true, 4), (true, 5)] fun T hT => ?_
  iterate 2 refine tk ?_
  refine ck Tryz.call130 (fun w' hw => fadd_any (r) (r) (u11) _ HZ11.out om om) ?_
  refine ck Tryz.call147 (fun w' hw => fint_any (1) (1 : Rat) _ HZ12.out om om) ?_
  refine ck Tryz.call140 (fun w' hw => fcmp_any (u11) (1 : Rat) (0) _ (by have e9 := HT_.out; have e8 := HO.out; simp only [← HZ11.out, ← HZ9.out, ← HZ6.out]; rw [e9, e8]) om om) ?_
  refine tk ?_
  refine nlS hT HF fun vw9 HG => ?_
  clear hT T HF lx5
  go_wp2
  refine hK.out _ _ ?_; clear hK K
  show Code.wp _ _ _ _ _
  refine fH ((HG.out).er 3) fun Wx13 HF => ?_
  clear HG
  have lx7 := HF.out.c 3 rfl
  refine kS fun K hK => ?_
  refine sq 11 [(true, 0), (true, 1), (true, 2), (true, 3), (true, 4), (true, 5), (true, 6), (true, 7), (true, 8), (true, 9), (true, 10)] fun T hT => ?_
  iterate 7 refine tk ?_
  refine ck Tryz.call101 (fun w' hw => zisign (d) (1) _ (by have e8 := HDV.out; rw [e8]; rfl)) ?_
  iterate 3 refine tk ?_
  refine nlS hT HF fun vw10 HG => ?_
  clear hT T HF lx7
  go_wp2
  refine hK.out _ _ ?_; clear hK K
  show Code.wp _ _ _ _ _
  refine fH ((HG.out).er 3) fun Wx14 HF => ?_
  clear HG
  refine wp_cond_false (by rfl) ?_
  refine wp_skip ?_
  show Code.wp _ _ _ _ _
  refine wp_seq ?_
  have HZ13 : Hid ((x).ceil = c) := Lib.hid (HCE.out)
  have su13 : wl (Int.natAbs (c)) ≤ 1013 := by have e := HZ13.out; first | omega | (rw [← e]; have := wl_ceil (x); omega)
  have lx3 := HF.out.c 1 rfl
  refine kS fun K hK => ?_
  refine sq 2 [(true, 0), (true, 1)] fun T hT => ?_
  refine tk ?_
  refine ck Tryz.call148 (fun w' hw => fceil_any (x) (c) _ (Lib.hid HZ13.out) om) ?_
  refine nlS hT HF fun vw11 HG => ?_
  clear hT T HF lx3
  have lx1 := HG.out.c 0 rfl; have fx1 := HG.out.f 0 rfl
  have r0 := Gr.refl vw11
  go_wp2
  refine hK.out _ _ ?_; clear hK K
  show Code.wp _ _ _ _ _
  clear r0 lx1 fx1
  refine fH ((((HG.out).put2 0 0 rfl).put 0 2 _ rfl).er 1) fun Wx16 HF => ?_
  clear HG
  refine wp_ret ?_
  try simp only [Exit.then, Exit.inBlock]
  have lx1 := HF.out.c 0 rfl
  have r0 := Gr.refl Wx16
  exact bodyPost_ret (v := .tuple #[(.agg #[.int .u64 ((lo (Int.natAbs (c)) : Nat) : Int), .string (bg (Int.natAbs (c))), .bool (decide ((c) < 0))]), .int .i64 0]) (by simp [results, Tryz.results239, go_sem, lx1 _ r0]) rfl ⟨rfl, HF.out.1⟩

set_option maxRecDepth 20000 in
set_option maxHeartbeats 4000000 in
theorem drnd_neg0 (a : Rat) (n way : Int) (w : World) (hn : n < 0) :
    Calls Tryz.prog 239 #[(Value.agg #[.int .u64 ((lo (Int.natAbs ((a).num)) : Nat) : Int), .string (bg (Int.natAbs ((a).num))), .bool (decide (((a).num) < 0)), .int .u64 ((lo ((a).den - 1) : Nat) : Int), .string (bg ((a).den - 1))]), .int .i64 (n), .int .i64 (way)] w fun e w' => e = .returned ((.tuple #[(.agg #[.int .u64 0, .string ⟨#[]⟩, .bool false]), .int .i64 1])) ∧ Below w.heap.size w w' := by
  go_enter Tryz.func239, Tryz.ntmps239
  have HF := Lib.hid (hp0 w)
  refine kS fun K hK => ?_
  refine wp_region_lit ?_
  go_wp2
  refine hK.out _ _ ?_; clear hK K
  show Code.wp _ _ _ _ _
  refine fH (((HF.out).al (b := w.heap.size) (by first | rfl | simp) (by decide)).al (b := w.heap.size + 1) (by first | rfl | simp) (by decide)) fun Wx0 HG => ?_
  clear HF; have HF := HG; clear HG
  generalize w.heap.size + 1 = gx1 at *
  refine wp_seq ?_
  refine wp_block ?_
  have hd1 : n < 0 := ok
  refine kS fun K hK => ?_
  refine sq 3 [(true, 0), (true, 1), (true, 2)] fun T hT => ?_
  iterate 3 refine tk ?_
  refine nlS hT HF fun vw1 HG => ?_
  clear hT T HF
  go_wp2
  refine hK.out _ _ ?_; clear hK K
  show Code.wp _ _ _ _ _
  have HF := HG; clear HG
  clear hd1
  refine wp_cond_true (by rfl) ?_
  refine kS fun K hK => ?_
  refine sq 1 [(true, 0)] fun T hT => ?_
  refine tk ?_
  refine nlS hT HF fun vw2 HG => ?_
  clear hT T HF
  have lx1 := HG.out.c 1 rfl; have fx1 := HG.out.f 1 rfl
  have r0 := Gr.refl vw2
  go_wp2
  refine hK.out _ _ ?_; clear hK K
  show Code.wp _ _ _ _ _
  clear r0 lx1 fx1
  refine fH (((HG.out).put2 1 0 rfl).put 1 2 _ rfl) fun Wx2 HF => ?_
  clear HG
  refine wp_ret ?_
  try simp only [Exit.then, Exit.inBlock]
  have lx1 := HF.out.c 1 rfl
  have r0 := Gr.refl Wx2
  exact bodyPost_ret (v := .tuple #[(.agg #[.int .u64 0, .string ⟨#[]⟩, .bool false]), .int .i64 1]) (by simp [results, Tryz.results239, go_sem, lx1 _ r0]) rfl ⟨rfl, HF.out.1⟩

set_option maxRecDepth 20000 in
set_option maxHeartbeats 4000000 in
theorem drnd_far0 (a : Rat) (n way : Int) (w : World) (hn : 100 < n) :
    Calls Tryz.prog 239 #[(Value.agg #[.int .u64 ((lo (Int.natAbs ((a).num)) : Nat) : Int), .string (bg (Int.natAbs ((a).num))), .bool (decide (((a).num) < 0)), .int .u64 ((lo ((a).den - 1) : Nat) : Int), .string (bg ((a).den - 1))]), .int .i64 (n), .int .i64 (way)] w fun e w' => e = .returned ((.tuple #[(.agg #[.int .u64 0, .string ⟨#[]⟩, .bool false]), .int .i64 3])) ∧ Below w.heap.size w w' := by
  go_enter Tryz.func239, Tryz.ntmps239
  have HF := Lib.hid (hp0 w)
  refine kS fun K hK => ?_
  refine wp_region_lit ?_
  go_wp2
  refine hK.out _ _ ?_; clear hK K
  show Code.wp _ _ _ _ _
  refine fH (((HF.out).al (b := w.heap.size) (by first | rfl | simp) (by decide)).al (b := w.heap.size + 1) (by first | rfl | simp) (by decide)) fun Wx0 HG => ?_
  clear HF; have HF := HG; clear HG
  generalize w.heap.size + 1 = gx1 at *
  refine wp_seq ?_
  refine wp_block ?_
  have hd1 : ¬ (n < 0) := ok
  refine kS fun K hK => ?_
  refine sq 3 [(true, 0), (true, 1), (true, 2)] fun T hT => ?_
  iterate 3 refine tk ?_
  refine nlS hT HF fun vw1 HG => ?_
  clear hT T HF
  go_wp2
  refine hK.out _ _ ?_; clear hK K
  show Code.wp _ _ _ _ _
  have HF := HG; clear HG
  clear hd1
  refine wp_cond_false (by rfl) ?_
  have hd2 : 100 < n := ok
  refine kS fun K hK => ?_
  refine sq 3 [(true, 0), (true, 1), (true, 2)] fun T hT => ?_
  iterate 3 refine tk ?_
  refine nlS hT HF fun vw2 HG => ?_
  clear hT T HF
  go_wp2
  refine hK.out _ _ ?_; clear hK K
  show Code.wp _ _ _ _ _
  have HF := HG; clear HG
  clear hd2
  refine wp_cond_true (by rfl) ?_
  refine kS fun K hK => ?_
  refine sq 1 [(true, 0)] fun T hT => ?_
  refine tk ?_
  refine nlS hT HF fun vw3 HG => ?_
  clear hT T HF
  have lx1 := HG.out.c 1 rfl; have fx1 := HG.out.f 1 rfl
  have r0 := Gr.refl vw3
  go_wp2
  refine hK.out _ _ ?_; clear hK K
  show Code.wp _ _ _ _ _
  clear r0 lx1 fx1
  refine fH (((HG.out).put2 1 0 rfl).put 1 2 _ rfl) fun Wx4 HF => ?_
  clear HG
  refine wp_ret ?_
  try simp only [Exit.then, Exit.inBlock]
  have lx1 := HF.out.c 1 rfl
  have r0 := Gr.refl Wx4
  exact bodyPost_ret (v := .tuple #[(.agg #[.int .u64 0, .string ⟨#[]⟩, .bool false]), .int .i64 3]) (by simp [results, Tryz.results239, go_sem, lx1 _ r0]) rfl ⟨rfl, HF.out.1⟩

set_option maxRecDepth 20000 in
set_option maxHeartbeats 4000000 in
theorem drnd_way0 (a y : Rat) (k p : Nat) (way : Int) (w : World) (HP : Hid (10 ^ k = p)) (HY : Hid ((((p : Nat) : Int) : Rat) = y)) (hk : k ≤ 100) (hs : sz a ≤ 1000) (hsy : sz y ≤ 12) (hw : way < 1 ∨ 3 < way) :
    Calls Tryz.prog 239 #[(Value.agg #[.int .u64 ((lo (Int.natAbs ((a).num)) : Nat) : Int), .string (bg (Int.natAbs ((a).num))), .bool (decide (((a).num) < 0)), .int .u64 ((lo ((a).den - 1) : Nat) : Int), .string (bg ((a).den - 1))]), .int .i64 (((k : Nat) : Int)), .int .i64 (way)] w fun e w' => e = .returned ((.tuple #[(.agg #[.int .u64 0, .string ⟨#[]⟩, .bool false]), .int .i64 1])) ∧ Below w.heap.size w w' := by
  go_enter Tryz.func239, Tryz.ntmps239
  have HF := Lib.hid (hp0 w)
  refine kS fun K hK => ?_
  refine wp_region_lit ?_
  go_wp2
  refine hK.out _ _ ?_; clear hK K
  show Code.wp _ _ _ _ _
  refine fH (((HF.out).al (b := w.heap.size) (by first | rfl | simp) (by decide)).al (b := w.heap.size + 1) (by first | rfl | simp) (by decide)) fun Wx0 HG => ?_
  clear HF; have HF := HG; clear HG
  generalize w.heap.size + 1 = gx1 at *
  refine wp_seq ?_
  refine wp_block ?_
  have hd1 : ¬ ((((k : Nat) : Int)) < 0) := ok
  have hd2 : ¬ (k < 0) := by have e := hd1; omega
  refine kS fun K hK => ?_
  refine sq 3 [(true, 0), (true, 1), (true, 2)] fun T hT => ?_
  iterate 3 refine tk ?_
  refine nlS hT HF fun vw1 HG => ?_
  clear hT T HF
  go_wp2
  refine hK.out _ _ ?_; clear hK K
  show Code.wp _ _ _ _ _
  have HF := HG; clear HG
  clear hd1 hd2
  refine wp_cond_false (by rfl) ?_
  have hd3 : ¬ (100 < (((k : Nat) : Int))) := ok
  refine kS fun K hK => ?_
  refine sq 3 [(true, 0), (true, 1), (true, 2)] fun T hT => ?_
  iterate 3 refine tk ?_
  refine nlS hT HF fun vw2 HG => ?_
  clear hT T HF
  go_wp2
  refine hK.out _ _ ?_; clear hK K
  show Code.wp _ _ _ _ _
  have HF := HG; clear HG
  clear hd3
  refine wp_cond_false (by rfl) ?_
  refine wp_skip ?_
  show Code.wp _ _ _ _ _
  have HZ1 : Hid (10 ^ k = p) := Lib.hid (HP.out)
  have su1 : wl (p) ≤ 12 := by have e := HZ1.out; first | omega | (rw [← e]; exact wl_ten (by omega))
  have HZ2 : Hid ((if false then -((p : Nat) : Int) else ((p : Nat) : Int)) = ((p : Nat) : Int)) := Lib.hid (by rfl)
  have su2 : wl (Int.natAbs (((p : Nat) : Int))) ≤ 12 := by have e := HZ2.out; first | omega | (rw [← e]; split <;> simp <;> omega)
  have HZ3 : Hid (((((p : Nat) : Int) : Int) : Rat) = y) := Lib.hid (HY.out)
  have su3 : sz (y) ≤ 12 := by have e := HZ3.out; first | omega | (rw [← e]; rw [sz_int]; omega)
  obtain ⟨u4, HZ4⟩ : ∃ z, Hid ((a) * (y) = z) := ⟨_, Lib.hid rfl⟩
  have su4 : sz (u4) ≤ 1012 := by rw [← HZ4.out]; have := sz_mul (a) (y); omega
  have lx0 := HF.out.c 0 rfl
  refine kS fun K hK => ?_
  refine wp_region_plan 7 [6] [] (fun _ => 8) (fun _ => .cells #[.int .u64 0, .string ⟨#[]⟩, .bool false, .int .u64 0, .string ⟨#[]⟩] 36) [(true, 0), (true, 1), (true, 2), (true, 3), (true, 4), (true, 5)] (by kernel_rfl) (by kernel_rfl) (by intro i hi; simp only [List.mem_cons, List.not_mem_nil, or_false] at hi; rcases hi with rfl <;> exact ⟨_, rfl, rfl, rfl, by simp, fun ρ w => by kernel_rfl⟩) (fun i hi => by cases hi) (fun _ _ _ _ _ h => h) (fun T hT => ?_)
  iterate 2 refine tk ?_
  refine ck Tryz.call264 (fun w' hw => dten_any k (p) _ (Lib.hid HZ1.out) (by omega)) ?_
  refine ck Tryz.call37 (fun w' hw => from_any false (p) (((p : Nat) : Int)) _ HZ2.out) ?_
  refine ck Tryz.call263 (fun w' hw => dwhole_any (((p : Nat) : Int)) (y) _ (Lib.hid HZ3.out) om) ?_
  refine ck Tryz.call134 (fun w' hw => fmul_any (a) (y) (u4) _ HZ4.out om om) ?_
  refine wpPlan_nil (hT.out _ _ ?_)
  intro G vw3 hg hf
  simp only [puts, Act.put, lA, lB, lC, lD, lE, ↓reduceIte, Nat.reduceEqDiff]
  have HG := Lib.hid (HF.out.fr hg hf (zs := [(#[.int .u64 0, .string ⟨#[]⟩, .bool false, .int .u64 0, .string ⟨#[]⟩], 36)]) rfl (by decide) (by decide))
  simp only [List.zip_cons_cons, List.zip_nil_right, List.map_cons, List.map_nil, lF, lG] at HG
  clear hT T HF hg hf lx0
  generalize G 6 = gx3 at *
  have lx3 := HG.out.c 2 rfl; have fx3 := HG.out.f 2 rfl
  have r0 := Gr.refl vw3
  go_wp2
  refine hK.out _ _ ?_; clear hK K
  show Code.wp _ _ _ _ _
  clear r0 lx3 fx3
  refine fH (((((HG.out).put2 2 0 rfl).put2 2 2 rfl).put 2 4 _ rfl).er 0) fun Wx5 HF => ?_
  clear HG
  obtain ⟨u5, HZ5⟩ : ∃ z, Hid ((u4).floor = z) := ⟨_, Lib.hid rfl⟩
  have su5 : wl (Int.natAbs (u5)) ≤ 1013 := by rw [← HZ5.out]; have := wl_floor (u4); omega
  have lx3 := HF.out.c 1 rfl
  refine kS fun K hK => ?_
  refine sq 2 [(true, 0), (true, 1)] fun T hT => ?_
  refine tk ?_
  refine ck Tryz.call142 (fun w' hw => ffloor_any (u4) (u5) _ (Lib.hid HZ5.out) om) ?_
  refine nlS hT HF fun vw4 HG => ?_
  clear hT T HF lx3
  go_wp2
  refine hK.out _ _ ?_; clear hK K
  show Code.wp _ _ _ _ _
  refine fH ((HG.out).al (b := vw4.heap.size) (by first | rfl | simp) (by decide)) fun Wx6 HF => ?_
  clear HG
  generalize vw4.heap.size = gx4 at *
  refine wp_seq ?_
  refine kS fun K hK => ?_
  refine sq 1 [(true, 0)] fun T hT => ?_
  refine tk ?_
  refine nlS hT HF fun vw5 HG => ?_
  clear hT T HF
  go_wp2
  refine hK.out _ _ ?_; clear hK K
  show Code.wp _ _ _ _ _
  have HF := HG; clear HG
  refine wp_block ?_
  refine wp_seq ?_
  refine wp_block ?_
  refine wp_seq ?_
  refine wp_block ?_
  refine wp_seq ?_
  refine wp_block ?_
  refine wp_seq ?_
  refine wp_seq ?_
  have hd4 : ((way) == (3)) = false := by have : ¬ (way = 3) := (by first | exact ok | (simp only [← HZ5.out, ← HZ4.out] <;> first | exact ok)); simpa using this
  refine kS fun K hK => ?_
  refine sq 2 [(true, 0), (true, 1)] fun T hT => ?_
  iterate 2 refine tk ?_
  refine nlS hT HF fun vw6 HG => ?_
  clear hT T HF
  go_wp2
  refine hK.out _ _ ?_; clear hK K
  show Code.wp _ _ _ _ _
  have HF := HG; clear HG
  clear hd4
  refine wp_cond_false (by rfl) ?_
  refine wp_skip ?_
  show Code.wp _ _ _ _ _
  refine wp_seq ?_
  have hd5 : ((way) == (2)) = false := by have : ¬ (way = 2) := (by first | exact ok | (simp only [← HZ5.out, ← HZ4.out] <;> first | exact ok)); simpa using this
  refine kS fun K hK => ?_
  refine sq 2 [(true, 0), (true, 1)] fun T hT => ?_
  iterate 2 refine tk ?_
  refine nlS hT HF fun vw7 HG => ?_
  clear hT T HF
  go_wp2
  refine hK.out _ _ ?_; clear hK K
  show Code.wp _ _ _ _ _
  have HF := HG; clear HG
  clear hd5
  refine wp_cond_false (by rfl) ?_
  refine wp_skip ?_
  show Code.wp _ _ _ _ _
  have hd6 : ((way) == (1)) = false := by have : ¬ (way = 1) := (by first | exact ok | (simp only [← HZ5.out, ← HZ4.out] <;> first | exact ok)); simpa using this
  refine kS fun K hK => ?_
  refine sq 2 [(true, 0), (true, 1)] fun T hT => ?_
  iterate 2 refine tk ?_
  refine nlS hT HF fun vw8 HG => ?_
  clear hT T HF
  go_wp2
  refine hK.out _ _ ?_; clear hK K
  show Code.wp _ _ _ _ _
  have HF := HG; clear HG
  clear hd6
  refine wp_cond_false (by rfl) ?_
  refine wp_skip ?_
  show Code.wp _ _ _ _ _
  refine wp_exit ?_
  show Code.wp _ _ _ _ _
  refine kS fun K hK => ?_
  refine sq 1 [(true, 0)] fun T hT => ?_
  refine tk ?_
  refine nlS hT HF fun vw9 HG => ?_
  clear hT T HF
  have lx1 := HG.out.c 0 rfl; have fx1 := HG.out.f 0 rfl
  have r0 := Gr.refl vw9
  go_wp2
  refine hK.out _ _ ?_; clear hK K
  show Code.wp _ _ _ _ _
  clear r0 lx1 fx1
  refine fH (((((HG.out).put2 0 0 rfl).put 0 2 _ rfl).er 2).er 1) fun Wx18 HF => ?_
  clear HG
  refine wp_ret ?_
  try simp only [Exit.then, Exit.inBlock]
  have lx1 := HF.out.c 0 rfl
  have r0 := Gr.refl Wx18
  exact bodyPost_ret (v := .tuple #[(.agg #[.int .u64 0, .string ⟨#[]⟩, .bool false]), .int .i64 1]) (by simp [results, Tryz.results239, go_sem, lx1 _ r0]) rfl ⟨rfl, HF.out.1⟩

theorem drounded (way : Int) (a : Rat) (k : Nat) (z : Int) (w : World) (hw1 : 1 ≤ way) (hw2 : way ≤ 3) (hz : rnd way (a * (((10 ^ k : Nat) : Int) : Rat)) = z) (hk : k ≤ 100) (hs : sz a ≤ 1000) :
    Calls Tryz.prog 239 #[(Value.agg #[.int .u64 ((lo (Int.natAbs ((a).num)) : Nat) : Int), .string (bg (Int.natAbs ((a).num))), .bool (decide (((a).num) < 0)), .int .u64 ((lo ((a).den - 1) : Nat) : Int), .string (bg ((a).den - 1))]), .int .i64 ((k : Nat) : Int), .int .i64 way] w fun e w' => e = .returned (.tuple #[(Value.agg #[.int .u64 ((lo (Int.natAbs (z)) : Nat) : Int), .string (bg (Int.natAbs (z))), .bool (decide ((z) < 0))]), .int .i64 0]) ∧ Below w.heap.size w w' := by
  subst hz
  have h12 := sz_tenq (k := k) (by omega)
  obtain rfl | rfl | rfl : way = 1 ∨ way = 2 ∨ way = 3 := by omega
  · exact drnd_1 a _ _ k _ _ _ w (Lib.hid rfl) (Lib.hid rfl) (Lib.hid rfl) (Lib.hid rfl) (Lib.hid rfl) hk hs h12
  · exact drnd_2 a _ _ k _ _ _ w (Lib.hid rfl) (Lib.hid rfl) (Lib.hid rfl) (Lib.hid rfl) (Lib.hid rfl) hk hs h12
  · obtain ⟨x, hx⟩ : ∃ x, a * (((10 ^ k : Nat) : Int) : Rat) = x := ⟨_, rfl⟩
    rw [hx]
    rcases sgQ_cases ((x - (x.floor : Rat)) + (x - (x.floor : Rat)) - 1) with ⟨_, e⟩ | ⟨_, e⟩ | ⟨_, e⟩
    · have er : rnd 3 x = x.floor := by unfold rnd; rw [if_neg (by decide), if_neg (by decide), if_pos (.inl (by rw [e]; decide))]
      rw [er]
      exact drnd_lt a _ _ k _ _ _ _ _ _ w (Lib.hid rfl) (Lib.hid rfl) (Lib.hid hx) (Lib.hid rfl) (Lib.hid rfl) hk hs h12 (Lib.hid rfl) (Lib.hid rfl) (Lib.hid rfl) (Lib.hid e)
    · rcases (show x.floor % 2 = 0 ∨ x.floor % 2 = 1 by omega) with hd | hd
      · have er : rnd 3 x = x.floor := by unfold rnd; rw [if_neg (by decide), if_neg (by decide), if_pos (.inr ⟨e, hd⟩)]
        rw [er]
        exact drnd_even a _ _ k _ _ _ _ _ _ w (Lib.hid rfl) (Lib.hid rfl) (Lib.hid hx) (Lib.hid rfl) (Lib.hid rfl) hk hs h12 (Lib.hid rfl) (Lib.hid rfl) (Lib.hid rfl) (Lib.hid e) (Lib.hid hd)
      · have er : rnd 3 x = x.ceil := by unfold rnd; rw [if_neg (by decide), if_neg (by decide), if_neg (by rw [e, hd]; decide)]
        rw [er]
        exact drnd_odd a _ _ k _ _ _ _ _ _ w (Lib.hid rfl) (Lib.hid rfl) (Lib.hid hx) (Lib.hid rfl) (Lib.hid rfl) hk hs h12 (Lib.hid rfl) (Lib.hid rfl) (Lib.hid rfl) (Lib.hid e) (Lib.hid hd)
    · have er : rnd 3 x = x.ceil := by unfold rnd; rw [if_neg (by decide), if_neg (by decide), if_neg (by rw [e]; rintro (h | ⟨h, _⟩) <;> exact absurd h (by decide))]
      rw [er]
      exact drnd_gt a _ _ k _ _ _ _ _ _ w (Lib.hid rfl) (Lib.hid rfl) (Lib.hid hx) (Lib.hid rfl) (Lib.hid rfl) hk hs h12 (Lib.hid rfl) (Lib.hid rfl) (Lib.hid rfl) (Lib.hid e)
/-- the code of a rounding's arguments -/
def rcode (n way : Int) : Int := if n < 0 then 1 else if 100 < n then 3 else if way < 1 ∨ 3 < way then 1 else 0
theorem drnd_bad (a : Rat) (n way : Int) (c : Int) (w : World) (hc : rcode n way = c) (h0 : c ≠ 0) (hs : sz a ≤ 1000) :
    Calls Tryz.prog 239 #[(Value.agg #[.int .u64 ((lo (Int.natAbs ((a).num)) : Nat) : Int), .string (bg (Int.natAbs ((a).num))), .bool (decide (((a).num) < 0)), .int .u64 ((lo ((a).den - 1) : Nat) : Int), .string (bg ((a).den - 1))]), .int .i64 n, .int .i64 way] w fun e w' => e = .returned (.tuple #[(Value.agg #[.int .u64 ((lo (Int.natAbs (0)) : Nat) : Int), .string (bg (Int.natAbs (0))), .bool (decide ((0) < 0))]), .int .i64 c]) ∧ Below w.heap.size w w' := by
  subst hc
  unfold rcode at *
  by_cases h1 : n < 0
  · rw [if_pos h1]; exact drnd_neg0 a n way w h1
  · rw [if_neg h1] at h0 ⊢
    by_cases h2 : 100 < n
    · rw [if_pos h2]; exact drnd_far0 a n way w h2
    · rw [if_neg h2] at h0 ⊢
      by_cases h3 : way < 1 ∨ 3 < way
      · rw [if_pos h3]
        obtain ⟨k, rfl⟩ : ∃ k : Nat, n = (k : Int) := ⟨n.toNat, by omega⟩
        exact drnd_way0 a _ k _ way w (Lib.hid rfl) (Lib.hid rfl) (by omega) hs (sz_tenq (by omega)) h3
      · rw [if_neg h3] at h0; exact absurd rfl h0

end Go.Proofs.YtobojnodohjiaaaGreatDoor
