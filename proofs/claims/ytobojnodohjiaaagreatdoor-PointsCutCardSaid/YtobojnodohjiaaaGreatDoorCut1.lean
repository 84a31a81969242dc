
/- points.Cut: the other ways. -/
import Derived.Test.YtobojnodohjiaaaGreatDoorPX
import Derived.Test.YtobojnodohjiaaaGreatDoorHp
set_option linter.unusedVariables false
set_option linter.unusedSimpArgs false
namespace Go.Proofs.YtobojnodohjiaaaGreatDoor
open Go.RowKit
-- short cells
attribute [local go_sem ↓] Go.wp_at_zero Go.wp_at_succ
attribute [local go_sem ↓] eq_nat eq_nat_zero eq_int eq_frac eq_pt
set_option maxRecDepth 100000 in
set_option maxHeartbeats 4000000 in
theorem pcut_ways (a1 a2 b1 b2 c1 c2 d1 d2 : Rat) (t1 t2 t3 t4 : Int) (p q : Int) (n : Int) (m1 m2 : Rat) (w : World) (ht1 : Hid (turn a1 a2 b1 b2 c1 c2 = t1)) (ht2 : Hid (turn a1 a2 b1 b2 d1 d2 = t2)) (ht3 : Hid (turn c1 c2 d1 d2 a1 a2 = t3)) (ht4 : Hid (turn c1 c2 d1 d2 b1 b2 = t4)) (hp : IntKind.i64.wrap (t1 * t2) = p) (hq : IntKind.i64.wrap (t3 * t4) = q) (way : ((t1 == 0) = false ∧ Hid ((decide (0 < p) = true ∧ n = 0 ∧ m1 = 0 ∧ m2 = 0) ∨ (decide (0 < p) = false ∧ decide (0 < q) = true ∧ n = 0 ∧ m1 = 0 ∧ m2 = 0)))
    ∨ ((t1 == 0) = true ∧ (t2 == 0) = false ∧ Hid ((decide (0 < p) = true ∧ n = 0 ∧ m1 = 0 ∧ m2 = 0) ∨ (decide (0 < p) = false ∧ decide (0 < q) = true ∧ n = 0 ∧ m1 = 0 ∧ m2 = 0) ∨ (decide (0 < p) = false ∧ decide (0 < q) = false ∧ n = 1 ∧ Hid (((b1 - a1) * (d2 - c2) - (b2 - a2) * (d1 - c1)) ≠ 0) ∧ sz ((b1 - a1) * (d2 - c2) - (b2 - a2) * (d1 - c1)) ≤ 100000000 ∧ Hid (a1 + (b1 - a1) * (((c1 - a1) * (d2 - c2) - (c2 - a2) * (d1 - c1)) / ((b1 - a1) * (d2 - c2) - (b2 - a2) * (d1 - c1))) = m1) ∧ Hid (a2 + (b2 - a2) * (((c1 - a1) * (d2 - c2) - (c2 - a2) * (d1 - c1)) / ((b1 - a1) * (d2 - c2) - (b2 - a2) * (d1 - c1))) = m2))))
    ∨ ((t1 == 0) = true ∧ (t2 == 0) = true ∧ (t3 == 0) = false ∧ Hid ((decide (0 < p) = true ∧ n = 0 ∧ m1 = 0 ∧ m2 = 0) ∨ (decide (0 < p) = false ∧ decide (0 < q) = true ∧ n = 0 ∧ m1 = 0 ∧ m2 = 0) ∨ (decide (0 < p) = false ∧ decide (0 < q) = false ∧ n = 1 ∧ Hid (((b1 - a1) * (d2 - c2) - (b2 - a2) * (d1 - c1)) ≠ 0) ∧ sz ((b1 - a1) * (d2 - c2) - (b2 - a2) * (d1 - c1)) ≤ 100000000 ∧ Hid (a1 + (b1 - a1) * (((c1 - a1) * (d2 - c2) - (c2 - a2) * (d1 - c1)) / ((b1 - a1) * (d2 - c2) - (b2 - a2) * (d1 - c1))) = m1) ∧ Hid (a2 + (b2 - a2) * (((c1 - a1) * (d2 - c2) - (c2 - a2) * (d1 - c1)) / ((b1 - a1) * (d2 - c2) - (b2 - a2) * (d1 - c1))) = m2))))
    ∨ ((t1 == 0) = true ∧ (t2 == 0) = true ∧ (t3 == 0) = true ∧ (t4 == 0) = false ∧ Hid ((decide (0 < p) = true ∧ n = 0 ∧ m1 = 0 ∧ m2 = 0) ∨ (decide (0 < p) = false ∧ decide (0 < q) = true ∧ n = 0 ∧ m1 = 0 ∧ m2 = 0) ∨ (decide (0 < p) = false ∧ decide (0 < q) = false ∧ n = 1 ∧ Hid (((b1 - a1) * (d2 - c2) - (b2 - a2) * (d1 - c1)) ≠ 0) ∧ sz ((b1 - a1) * (d2 - c2) - (b2 - a2) * (d1 - c1)) ≤ 100000000 ∧ Hid (a1 + (b1 - a1) * (((c1 - a1) * (d2 - c2) - (c2 - a2) * (d1 - c1)) / ((b1 - a1) * (d2 - c2) - (b2 - a2) * (d1 - c1))) = m1) ∧ Hid (a2 + (b2 - a2) * (((c1 - a1) * (d2 - c2) - (c2 - a2) * (d1 - c1)) / ((b1 - a1) * (d2 - c2) - (b2 - a2) * (d1 - c1))) = m2))))) (hs_a1 : sz a1 ≤ 10000000) (hs_a2 : sz a2 ≤ 10000000) (hs_b1 : sz b1 ≤ 10000000) (hs_b2 : sz b2 ≤ 10000000) (hs_c1 : sz c1 ≤ 10000000) (hs_c2 : sz c2 ≤ 10000000) (hs_d1 : sz d1 ≤ 10000000) (hs_d2 : sz d2 ≤ 10000000) :
    Calls Tryz.prog 16 #[(Value.agg #[.int .u64 (lo a1.num.natAbs), .string (bg a1.num.natAbs), .bool (decide (a1.num < 0)), .int .u64 (lo (a1.den - 1)), .string (bg (a1.den - 1)), .int .u64 (lo a2.num.natAbs), .string (bg a2.num.natAbs), .bool (decide (a2.num < 0)), .int .u64 (lo (a2.den - 1)), .string (bg (a2.den - 1))]), (Value.agg #[.int .u64 (lo b1.num.natAbs), .string (bg b1.num.natAbs), .bool (decide (b1.num < 0)), .int .u64 (lo (b1.den - 1)), .string (bg (b1.den - 1)), .int .u64 (lo b2.num.natAbs), .string (bg b2.num.natAbs), .bool (decide (b2.num < 0)), .int .u64 (lo (b2.den - 1)), .string (bg (b2.den - 1))]), (Value.agg #[.int .u64 (lo c1.num.natAbs), .string (bg c1.num.natAbs), .bool (decide (c1.num < 0)), .int .u64 (lo (c1.den - 1)), .string (bg (c1.den - 1)), .int .u64 (lo c2.num.natAbs), .string (bg c2.num.natAbs), .bool (decide (c2.num < 0)), .int .u64 (lo (c2.den - 1)), .string (bg (c2.den - 1))]), (Value.agg #[.int .u64 (lo d1.num.natAbs), .string (bg d1.num.natAbs), .bool (decide (d1.num < 0)), .int .u64 (lo (d1.den - 1)), .string (bg (d1.den - 1)), .int .u64 (lo d2.num.natAbs), .string (bg d2.num.natAbs), .bool (decide (d2.num < 0)), .int .u64 (lo (d2.den - 1)), .string (bg (d2.den - 1))])] w fun e w' => e = .returned (.tuple #[.int .i64 (n), (.agg #[.int .u64 (lo m1.num.natAbs), .string (bg m1.num.natAbs), .bool (decide (m1.num < 0)), .int .u64 (lo (m1.den - 1)), .string (bg (m1.den - 1)), .int .u64 (lo m2.num.natAbs), .string (bg m2.num.natAbs), .bool (decide (m2.num < 0)), .int .u64 (lo (m2.den - 1)), .string (bg (m2.den - 1))])]) ∧ Below w.heap.size w w' := by
  replace way := Lib.hid way
  go_enter Tryz.func16, Tryz.ntmps16
  have HF := Lib.hid (hp0 w)
  refine kS fun K hK => ?_
  refine wp_region_lit ?_
  go_wp2
  refine kO hK ?_; clear hK K
  refine fH ((((((HF.out).aL (w.heap.size)).aL (w.heap.size + 1)).aL (w.heap.size + 1 + 1)).aL (w.heap.size + 1 + 1 + 1)).aL (w.heap.size + 1 + 1 + 1 + 1)) fun Wx0 HG => ?_
  clear HF; have HF := HG; clear HG
  generalize w.heap.size + 1 + 1 + 1 + 1 = gx4 at *
  generalize w.heap.size + 1 + 1 + 1 = gx3 at *
  generalize w.heap.size + 1 + 1 = gx2 at *
  generalize w.heap.size + 1 = gx1 at *
  have lx0 := HF.out.c 0 rfl
  have lx1 := HF.out.c 1 rfl
  have lx2 := HF.out.c 2 rfl
  have lx3 := HF.out.c 3 rfl
  refine kS fun K hK => ?_
  refine pd 9 [(true, 0), (true, 1), (true, 2), (true, 4), (true, 5), (true, 6), (true, 3), (true, 7), (true, 8)] fun T hT => ?_
  iterate 6 refine tk ?_
  refine ck Tryz.call76 (fun w' hw => pturn_any (a1) (a2) (b1) (b2) (c1) (c2) (t1) _ (ht1.out) om om om om om om) ?_
  refine ck Tryz.call76 (fun w' hw => pturn_any (a1) (a2) (b1) (b2) (d1) (d2) (t2) _ (ht2.out) om om om om om om) ?_
  refine tk ?_
  refine nlD hT HF fun vw1 HG => ?_
  clear hT T HF lx0 lx1 lx2 lx3
  go_wp2
  refine kO hK ?_; clear hK K
  have HF := HG; clear HG
  have lx0 := HF.out.c 0 rfl
  have lx1 := HF.out.c 1 rfl
  have lx2 := HF.out.c 2 rfl
  have lx3 := HF.out.c 3 rfl
  refine kS fun K hK => ?_
  refine pd 9 [(true, 0), (true, 1), (true, 2), (true, 4), (true, 5), (true, 6), (true, 3), (true, 7), (true, 8)] fun T hT => ?_
  iterate 6 refine tk ?_
  refine ck Tryz.call76 (fun w' hw => pturn_any (c1) (c2) (d1) (d2) (a1) (a2) (t3) _ (ht3.out) om om om om om om) ?_
  refine ck Tryz.call76 (fun w' hw => pturn_any (c1) (c2) (d1) (d2) (b1) (b2) (t4) _ (ht4.out) om om om om om om) ?_
  refine tk ?_
  refine nlD hT HF fun vw2 HG => ?_
  clear hT T HF lx0 lx1 lx2 lx3
  go_wp2
  refine kO hK ?_; clear hK K
  have HF := HG; clear HG
  refine wp_seq ?_
  refine wp_block ?_
  have way2 := way.out; clear way; rcases way2 with ⟨z1, way⟩ | ⟨z1, z2, way⟩ | ⟨z1, z2, z3, way⟩ | ⟨z1, z2, z3, z4, way⟩
  · -- region 3
    refine kS fun K hK => ?_
    refine sq 15 [(true, 0), (true, 1), (true, 2), (true, 3), (true, 4), (true, 5), (true, 6), (true, 7), (true, 8), (true, 9), (true, 10), (true, 11), (true, 12), (true, 13), (true, 14)] fun T hT => ?_
    iterate 3 refine tk ?_
    iterate 2 refine sk ?_
    iterate 2 refine tk ?_
    iterate 2 refine sk ?_
    iterate 2 refine tk ?_
    iterate 2 refine sk ?_
    iterate 2 refine tk ?_
    refine nlS hT HF fun vw3 HG => ?_
    clear hT T HF
    go_wp2
    refine kO hK ?_; clear hK K
    have HF := HG; clear HG
    refine wp_cond_false (by rfl) ?_
    have way2 := way.out; clear way; rcases way2 with ⟨g1, rfl, rfl, rfl⟩ | ⟨g1, g2, rfl, rfl, rfl⟩
    · -- region 5
      refine kS fun K hK => ?_
      refine sq 11 [(true, 0), (true, 1), (true, 2), (true, 3), (true, 4), (true, 5), (true, 6), (true, 7), (true, 8), (true, 9), (true, 10)] fun T hT => ?_
      iterate 5 refine tk ?_
      iterate 4 refine sk ?_
      iterate 2 refine tk ?_
      refine nlS hT HF fun vw4 HG => ?_
      clear hT T HF
      go_wp2
      refine kO hK ?_; clear hK K
      have HF := HG; clear HG
      refine wp_cond_true (by rfl) ?_
      refine kS fun K hK => ?_
      refine sq 2 [(true, 0), (true, 1)] fun T hT => ?_
      iterate 2 refine tk ?_
      refine nlS hT HF fun vw5 HG => ?_
      clear hT T HF
      have lx4 := HG.out.c 4 rfl; have fx4 := HG.out.f 4 rfl
      have r0 := Gr.refl vw5
      go_wp2
      refine kO hK ?_; clear hK K
      clear r0 lx4 fx4
      refine fH ((((((HG.out).put2 4 0 rfl).put2 4 2 rfl).put2 4 4 rfl).put2 4 6 rfl).put2 4 8 rfl) fun Wx6 HF => ?_
      clear HG
      refine wp_ret ?_
      try simp only [Exit.then, Exit.inBlock]
      have lx4 := HF.out.c 4 rfl
      have r0 := Gr.refl Wx6
      exact bodyPost_ret (v := .tuple #[.int .i64 0, (.agg #[.int .u64 0, .string ⟨#[]⟩, .bool false, .int .u64 0, .string ⟨#[]⟩, .int .u64 0, .string ⟨#[]⟩, .bool false, .int .u64 0, .string ⟨#[]⟩])]) (by simp [results, Tryz.results16, go_sem, lx4 _ r0]) rfl ⟨rfl, HF.out.1⟩
    · -- region 5
      refine kS fun K hK => ?_
      refine sq 11 [(true, 0), (true, 1), (true, 2), (true, 3), (true, 4), (true, 5), (true, 6), (true, 7), (true, 8), (true, 9), (true, 10)] fun T hT => ?_
      iterate 11 refine tk ?_
      refine nlS hT HF fun vw4 HG => ?_
      clear hT T HF
      go_wp2
      refine kO hK ?_; clear hK K
      have HF := HG; clear HG
      refine wp_cond_true (by rfl) ?_
      refine kS fun K hK => ?_
      refine sq 2 [(true, 0), (true, 1)] fun T hT => ?_
      iterate 2 refine tk ?_
      refine nlS hT HF fun vw5 HG => ?_
      clear hT T HF
      have lx4 := HG.out.c 4 rfl; have fx4 := HG.out.f 4 rfl
      have r0 := Gr.refl vw5
      go_wp2
      refine kO hK ?_; clear hK K
      clear r0 lx4 fx4
      refine fH ((((((HG.out).put2 4 0 rfl).put2 4 2 rfl).put2 4 4 rfl).put2 4 6 rfl).put2 4 8 rfl) fun Wx6 HF => ?_
      clear HG
      refine wp_ret ?_
      try simp only [Exit.then, Exit.inBlock]
      have lx4 := HF.out.c 4 rfl
      have r0 := Gr.refl Wx6
      exact bodyPost_ret (v := .tuple #[.int .i64 0, (.agg #[.int .u64 0, .string ⟨#[]⟩, .bool false, .int .u64 0, .string ⟨#[]⟩, .int .u64 0, .string ⟨#[]⟩, .bool false, .int .u64 0, .string ⟨#[]⟩])]) (by simp [results, Tryz.results16, go_sem, lx4 _ r0]) rfl ⟨rfl, HF.out.1⟩
  · -- region 3
    refine kS fun K hK => ?_
    refine sq 15 [(true, 0), (true, 1), (true, 2), (true, 3), (true, 4), (true, 5), (true, 6), (true, 7), (true, 8), (true, 9), (true, 10), (true, 11), (true, 12), (true, 13), (true, 14)] fun T hT => ?_
    iterate 7 refine tk ?_
    iterate 2 refine sk ?_
    iterate 2 refine tk ?_
    iterate 2 refine sk ?_
    iterate 2 refine tk ?_
    refine nlS hT HF fun vw3 HG => ?_
    clear hT T HF
    go_wp2
    refine kO hK ?_; clear hK K
    have HF := HG; clear HG
    refine wp_cond_false (by rfl) ?_
    have way2 := way.out; clear way; rcases way2 with ⟨g1, rfl, rfl, rfl⟩ | ⟨g1, g2, rfl, rfl, rfl⟩ | ⟨g1, g2, rfl, hk0, hs_k, hm1, hm2⟩
    · -- region 5
      refine kS fun K hK => ?_
      refine sq 11 [(true, 0), (true, 1), (true, 2), (true, 3), (true, 4), (true, 5), (true, 6), (true, 7), (true, 8), (true, 9), (true, 10)] fun T hT => ?_
      iterate 5 refine tk ?_
      iterate 4 refine sk ?_
      iterate 2 refine tk ?_
      refine nlS hT HF fun vw4 HG => ?_
      clear hT T HF
      go_wp2
      refine kO hK ?_; clear hK K
      have HF := HG; clear HG
      refine wp_cond_true (by rfl) ?_
      refine kS fun K hK => ?_
      refine sq 2 [(true, 0), (true, 1)] fun T hT => ?_
      iterate 2 refine tk ?_
      refine nlS hT HF fun vw5 HG => ?_
      clear hT T HF
      have lx4 := HG.out.c 4 rfl; have fx4 := HG.out.f 4 rfl
      have r0 := Gr.refl vw5
      go_wp2
      refine kO hK ?_; clear hK K
      clear r0 lx4 fx4
      refine fH ((((((HG.out).put2 4 0 rfl).put2 4 2 rfl).put2 4 4 rfl).put2 4 6 rfl).put2 4 8 rfl) fun Wx6 HF => ?_
      clear HG
      refine wp_ret ?_
      try simp only [Exit.then, Exit.inBlock]
      have lx4 := HF.out.c 4 rfl
      have r0 := Gr.refl Wx6
      exact bodyPost_ret (v := .tuple #[.int .i64 0, (.agg #[.int .u64 0, .string ⟨#[]⟩, .bool false, .int .u64 0, .string ⟨#[]⟩, .int .u64 0, .string ⟨#[]⟩, .bool false, .int .u64 0, .string ⟨#[]⟩])]) (by simp [results, Tryz.results16, go_sem, lx4 _ r0]) rfl ⟨rfl, HF.out.1⟩
    · -- region 5
      refine kS fun K hK => ?_
      refine sq 11 [(true, 0), (true, 1), (true, 2), (true, 3), (true, 4), (true, 5), (true, 6), (true, 7), (true, 8), (true, 9), (true, 10)] fun T hT => ?_
      iterate 11 refine tk ?_
      refine nlS hT HF fun vw4 HG => ?_
      clear hT T HF
      go_wp2
      refine kO hK ?_; clear hK K
      have HF := HG; clear HG
      refine wp_cond_true (by rfl) ?_
      refine kS fun K hK => ?_
      refine sq 2 [(true, 0), (true, 1)] fun T hT => ?_
      iterate 2 refine tk ?_
      refine nlS hT HF fun vw5 HG => ?_
      clear hT T HF
      have lx4 := HG.out.c 4 rfl; have fx4 := HG.out.f 4 rfl
      have r0 := Gr.refl vw5
      go_wp2
      refine kO hK ?_; clear hK K
      clear r0 lx4 fx4
      refine fH ((((((HG.out).put2 4 0 rfl).put2 4 2 rfl).put2 4 4 rfl).put2 4 6 rfl).put2 4 8 rfl) fun Wx6 HF => ?_
      clear HG
      refine wp_ret ?_
      try simp only [Exit.then, Exit.inBlock]
      have lx4 := HF.out.c 4 rfl
      have r0 := Gr.refl Wx6
      exact bodyPost_ret (v := .tuple #[.int .i64 0, (.agg #[.int .u64 0, .string ⟨#[]⟩, .bool false, .int .u64 0, .string ⟨#[]⟩, .int .u64 0, .string ⟨#[]⟩, .bool false, .int .u64 0, .string ⟨#[]⟩])]) (by simp [results, Tryz.results16, go_sem, lx4 _ r0]) rfl ⟨rfl, HF.out.1⟩
    · -- region 5
      refine kS fun K hK => ?_
      refine sq 11 [(true, 0), (true, 1), (true, 2), (true, 3), (true, 4), (true, 5), (true, 6), (true, 7), (true, 8), (true, 9), (true, 10)] fun T hT => ?_
      iterate 11 refine tk ?_
      refine nlS hT HF fun vw4 HG => ?_
      clear hT T HF
      go_wp2
      refine kO hK ?_; clear hK K
      have HF := HG; clear HG
      refine wp_cond_false (by rfl) ?_
      refine wp_skip ?_
      show Code.wp _ _ _ _ _
      obtain ⟨u1, HZ1⟩ : ∃ z, Hid ((b1) - (a1) = z) := ⟨_, Lib.hid rfl⟩
      have su1 : sz u1 ≤ 20000001 := by rw [← HZ1.out]; have := sz_sub (b1) (a1); omega
      obtain ⟨u2, HZ2⟩ : ∃ z, Hid ((b2) - (a2) = z) := ⟨_, Lib.hid rfl⟩
      have su2 : sz u2 ≤ 20000001 := by rw [← HZ2.out]; have := sz_sub (b2) (a2); omega
      obtain ⟨u3, HZ3⟩ : ∃ z, Hid ((d1) - (c1) = z) := ⟨_, Lib.hid rfl⟩
      have su3 : sz u3 ≤ 20000001 := by rw [← HZ3.out]; have := sz_sub (d1) (c1); omega
      obtain ⟨u4, HZ4⟩ : ∃ z, Hid ((d2) - (c2) = z) := ⟨_, Lib.hid rfl⟩
      have su4 : sz u4 ≤ 20000001 := by rw [← HZ4.out]; have := sz_sub (d2) (c2); omega
      have lx0 := HF.out.c 0 rfl
      have lx1 := HF.out.c 1 rfl
      have lx2 := HF.out.c 2 rfl
      have lx3 := HF.out.c 3 rfl
      refine kS fun K hK => ?_
      refine wp_region_plan 8 [6, 7] [] (fun i => if i = 6 then 14 else 15) (fun i => if i = 6 then .cells #[.int .u64 0, .string ⟨#[]⟩, .bool false, .int .u64 0, .string ⟨#[]⟩, .int .u64 0, .string ⟨#[]⟩, .bool false, .int .u64 0, .string ⟨#[]⟩] 38 else .cells #[.int .u64 0, .string ⟨#[]⟩, .bool false, .int .u64 0, .string ⟨#[]⟩, .int .u64 0, .string ⟨#[]⟩, .bool false, .int .u64 0, .string ⟨#[]⟩] 38) [(true, 0), (true, 1), (true, 3), (true, 4), (true, 2), (true, 5)] (by kernel_rfl) (by kernel_rfl) (by intro i hi; simp only [List.mem_cons, List.not_mem_nil, or_false] at hi; rcases hi with rfl | rfl <;> exact ⟨_, rfl, rfl, rfl, by simp, fun ρ w => by kernel_rfl⟩) (fun i hi => by cases hi) (fun _ _ _ _ _ h => h) (fun T hT => ?_)
      iterate 4 refine tk ?_
      refine ck Tryz.call78 (fun w' hw => psub_any (b1) (b2) (a1) (a2) (u1) (u2) _ HZ1.out HZ2.out om om om om) ?_
      refine ck Tryz.call78 (fun w' hw => psub_any (d1) (d2) (c1) (c2) (u3) (u4) _ HZ3.out HZ4.out om om om om) ?_
      refine wpPlan_nil (hT.out _ _ ?_)
      intro G vw5 hg hf
      simp only [puts, Act.put, lA, lB, lC, lD, lE, ↓reduceIte, Nat.reduceEqDiff]
      have HG := Lib.hid (HF.out.fr hg hf (zs := [(#[.int .u64 0, .string ⟨#[]⟩, .bool false, .int .u64 0, .string ⟨#[]⟩, .int .u64 0, .string ⟨#[]⟩, .bool false, .int .u64 0, .string ⟨#[]⟩], 38), (#[.int .u64 0, .string ⟨#[]⟩, .bool false, .int .u64 0, .string ⟨#[]⟩, .int .u64 0, .string ⟨#[]⟩, .bool false, .int .u64 0, .string ⟨#[]⟩], 38)]) rfl (by decide) (by decide))
      simp only [zq1_, zq2_, zq3_, zq4_, lF, lG] at HG
      clear hT T HF hg hf lx0 lx1 lx2 lx3
      generalize G 6 = gx6 at *
      generalize G 7 = gx7 at *
      have lx6 := HG.out.c 5 rfl; have fx6 := HG.out.f 5 rfl
      have lx7 := HG.out.c 6 rfl; have fx7 := HG.out.f 6 rfl
      have r0 := Gr.refl vw5
      obtain ⟨d6_7, d7_6⟩ := HG.out.ne 5 6 rfl rfl (by decide)
      go_wp2
      refine kO hK ?_; clear hK K
      clear r0 lx6 fx6 lx7 fx7 d6_7 d7_6
      refine fH (((((((((((((HG.out).put2 5 0 rfl).put2 5 2 rfl).put2 5 4 rfl).put2 5 6 rfl).put2 5 8 rfl).put2 6 0 rfl).put2 6 2 rfl).put2 6 4 rfl).put2 6 6 rfl).put2 6 8 rfl).er 3).er 1) fun Wx7 HF => ?_
      clear HG
      obtain ⟨u5, HZ5⟩ : ∃ z, Hid ((c1) - (a1) = z) := ⟨_, Lib.hid rfl⟩
      have su5 : sz u5 ≤ 20000001 := by rw [← HZ5.out]; have := sz_sub (c1) (a1); omega
      obtain ⟨u6, HZ6⟩ : ∃ z, Hid ((c2) - (a2) = z) := ⟨_, Lib.hid rfl⟩
      have su6 : sz u6 ≤ 20000001 := by rw [← HZ6.out]; have := sz_sub (c2) (a2); omega
      obtain ⟨u7, HZ7⟩ : ∃ z, Hid ((u5) * (u4) - (u6) * (u3) = z) := ⟨_, Lib.hid rfl⟩
      have su7 : sz u7 ≤ 80000005 := by rw [← HZ7.out]; have := sz_cross (u5) (u6) (u3) (u4); omega
      have HZ8 : Hid ((u1) * (u4) - (u2) * (u3) = ((b1 - a1) * (d2 - c2) - (b2 - a2) * (d1 - c1))) := Lib.hid (by rw [← HZ1.out, ← HZ2.out, ← HZ3.out, ← HZ4.out])
      obtain ⟨u9, HZ9⟩ : ∃ z, Hid ((u7) / (((b1 - a1) * (d2 - c2) - (b2 - a2) * (d1 - c1))) = z) := ⟨_, Lib.hid rfl⟩
      have su9 : sz u9 ≤ 180000005 := by rw [← HZ9.out]; have := sz_div (u7) (((b1 - a1) * (d2 - c2) - (b2 - a2) * (d1 - c1))); omega
      have lx0 := HF.out.c 0 rfl
      have lx2 := HF.out.c 1 rfl
      have lx6 := HF.out.c 3 rfl
      have lx7 := HF.out.c 4 rfl
      refine kS fun K hK => ?_
      refine wp_region_plan 13 [12] [11] (fun _ => 16) (fun _ => .cells #[.int .u64 0, .string ⟨#[]⟩, .bool false, .int .u64 0, .string ⟨#[]⟩] 36) [(true, 0), (true, 1), (true, 3), (true, 5), (true, 6), (true, 2), (true, 4), (true, 7), (true, 8), (true, 9), (true, 10), (true, 11)] (by kernel_rfl) (by kernel_rfl) (by intro i hi; simp only [List.mem_cons, List.not_mem_nil, or_false] at hi; rcases hi with rfl <;> exact ⟨_, rfl, rfl, rfl, by simp, fun ρ w => by kernel_rfl⟩) (by intro i hi; simp only [List.mem_cons, List.not_mem_nil, or_false] at hi; rcases hi with rfl <;> exact ⟨_, rfl, pure_extract⟩) (fun _ _ _ _ _ h => h) (fun T hT => ?_)
      iterate 5 refine tk ?_
      refine ck Tryz.call78 (fun w' hw => psub_any (c1) (c2) (a1) (a2) (u5) (u6) _ HZ5.out HZ6.out om om om om) ?_
      refine ck Tryz.call80 (fun w' hw => pcross_any (u5) (u6) (u3) (u4) (u7) _ HZ7.out om om om om) ?_
      refine ck Tryz.call80 (fun w' hw => pcross_any (u1) (u2) (u3) (u4) (((b1 - a1) * (d2 - c2) - (b2 - a2) * (d1 - c1))) _ HZ8.out om om om om) ?_
      refine ck Tryz.call79 (fun w' hw => fdiv_any (u7) (((b1 - a1) * (d2 - c2) - (b2 - a2) * (d1 - c1))) (u9) _ HZ9.out hk0.out om om) ?_
      iterate 3 refine tk ?_
      refine wpPlan_nil (hT.out _ _ ?_)
      intro G vw6 hg hf
      simp only [puts, Act.put, lA, lB, lC, lD, lE, ↓reduceIte, Nat.reduceEqDiff]
      have HG := Lib.hid (HF.out.fr hg hf (zs := [(#[.int .u64 0, .string ⟨#[]⟩, .bool false, .int .u64 0, .string ⟨#[]⟩], 36)]) rfl (by decide) (by decide))
      simp only [zq1_, zq2_, zq3_, zq4_, lF, lG] at HG
      clear hT T HF hg hf lx0 lx2 lx6 lx7
      generalize G 12 = gx8 at *
      have lx8 := HG.out.c 5 rfl; have fx8 := HG.out.f 5 rfl
      have r0 := Gr.refl vw6
      go_wp2
      refine kO hK ?_; clear hK K
      clear r0 lx8 fx8
      refine fH ((((((HG.out).put2 5 0 rfl).put2 5 2 rfl).put 5 4 _ rfl).er 4).er 1) fun Wx8 HF => ?_
      clear HG
      obtain ⟨u10, HZ10⟩ : ∃ z, Hid ((u1) * (u9) = z) := ⟨_, Lib.hid rfl⟩
      have su10 : sz u10 ≤ 200000006 := by rw [← HZ10.out]; have := sz_mul (u1) (u9); omega
      obtain ⟨u11, HZ11⟩ : ∃ z, Hid ((u2) * (u9) = z) := ⟨_, Lib.hid rfl⟩
      have su11 : sz u11 ≤ 200000006 := by rw [← HZ11.out]; have := sz_mul (u2) (u9); omega
      have HZ12 : Hid ((a1) + (u10) = m1) := Lib.hid (by rw [← HZ10.out, ← HZ9.out, ← HZ7.out, ← HZ6.out, ← HZ5.out, ← HZ4.out, ← HZ3.out, ← HZ1.out]; exact hm1.out)
      have HZ13 : Hid ((a2) + (u11) = m2) := Lib.hid (by rw [← HZ11.out, ← HZ9.out, ← HZ7.out, ← HZ6.out, ← HZ5.out, ← HZ4.out, ← HZ3.out, ← HZ2.out]; exact hm2.out)
      have lx0 := HF.out.c 0 rfl
      have lx6 := HF.out.c 2 rfl
      have lx8 := HF.out.c 3 rfl
      refine kS fun K hK => ?_
      refine pd 6 [(true, 0), (true, 1), (true, 2), (true, 3), (true, 4), (true, 5)] fun T hT => ?_
      iterate 3 refine tk ?_
      refine ck Tryz.call82 (fun w' hw => pscale_any (u1) (u2) (u9) (u10) (u11) _ HZ10.out HZ11.out om om om) ?_
      refine ck Tryz.call81 (fun w' hw => padd_any (a1) (a2) (u10) (u11) (m1) (m2) _ HZ12.out HZ13.out om om om om) ?_
      refine tk ?_
      refine nlD hT HF fun vw7 HG => ?_
      clear hT T HF lx0 lx6 lx8
      have lx4 := HG.out.c 1 rfl; have fx4 := HG.out.f 1 rfl
      have r0 := Gr.refl vw7
      go_wp2
      refine kO hK ?_; clear hK K
      clear r0 lx4 fx4
      refine fH (((((((((HG.out).put2 1 0 rfl).put2 1 2 rfl).put2 1 4 rfl).put2 1 6 rfl).put2 1 8 rfl).er 3).er 2).er 0) fun Wx9 HF => ?_
      clear HG
      refine wp_ret ?_
      try simp only [Exit.then, Exit.inBlock]
      have lx4 := HF.out.c 0 rfl
      have r0 := Gr.refl Wx9
      exact bodyPost_ret (v := .tuple #[.int .i64 1, (.agg #[.int .u64 (lo m1.num.natAbs), .string (bg m1.num.natAbs), .bool (decide (m1.num < 0)), .int .u64 (lo (m1.den - 1)), .string (bg (m1.den - 1)), .int .u64 (lo m2.num.natAbs), .string (bg m2.num.natAbs), .bool (decide (m2.num < 0)), .int .u64 (lo (m2.den - 1)), .string (bg (m2.den - 1))])]) (by simp [results, Tryz.results16, go_sem, lx4 _ r0]) rfl ⟨rfl, HF.out.1⟩
  · -- region 3
    refine kS fun K hK => ?_
    refine sq 15 [(true, 0), (true, 1), (true, 2), (true, 3), (true, 4), (true, 5), (true, 6), (true, 7), (true, 8), (true, 9), (true, 10), (true, 11), (true, 12), (true, 13), (true, 14)] fun T hT => ?_
    iterate 11 refine tk ?_
    iterate 2 refine sk ?_
    iterate 2 refine tk ?_
    refine nlS hT HF fun vw3 HG => ?_
    clear hT T HF
    go_wp2
    refine kO hK ?_; clear hK K
    have HF := HG; clear HG
    refine wp_cond_false (by rfl) ?_
    have way2 := way.out; clear way; rcases way2 with ⟨g1, rfl, rfl, rfl⟩ | ⟨g1, g2, rfl, rfl, rfl⟩ | ⟨g1, g2, rfl, hk0, hs_k, hm1, hm2⟩
    · -- region 5
      refine kS fun K hK => ?_
      refine sq 11 [(true, 0), (true, 1), (true, 2), (true, 3), (true, 4), (true, 5), (true, 6), (true, 7), (true, 8), (true, 9), (true, 10)] fun T hT => ?_
      iterate 5 refine tk ?_
      iterate 4 refine sk ?_
      iterate 2 refine tk ?_
      refine nlS hT HF fun vw4 HG => ?_
      clear hT T HF
      go_wp2
      refine kO hK ?_; clear hK K
      have HF := HG; clear HG
      refine wp_cond_true (by rfl) ?_
      refine kS fun K hK => ?_
      refine sq 2 [(true, 0), (true, 1)] fun T hT => ?_
      iterate 2 refine tk ?_
      refine nlS hT HF fun vw5 HG => ?_
      clear hT T HF
      have lx4 := HG.out.c 4 rfl; have fx4 := HG.out.f 4 rfl
      have r0 := Gr.refl vw5
      go_wp2
      refine kO hK ?_; clear hK K
      clear r0 lx4 fx4
      refine fH ((((((HG.out).put2 4 0 rfl).put2 4 2 rfl).put2 4 4 rfl).put2 4 6 rfl).put2 4 8 rfl) fun Wx6 HF => ?_
      clear HG
      refine wp_ret ?_
      try simp only [Exit.then, Exit.inBlock]
      have lx4 := HF.out.c 4 rfl
      have r0 := Gr.refl Wx6
      exact bodyPost_ret (v := .tuple #[.int .i64 0, (.agg #[.int .u64 0, .string ⟨#[]⟩, .bool false, .int .u64 0, .string ⟨#[]⟩, .int .u64 0, .string ⟨#[]⟩, .bool false, .int .u64 0, .string ⟨#[]⟩])]) (by simp [results, Tryz.results16, go_sem, lx4 _ r0]) rfl ⟨rfl, HF.out.1⟩
    · -- region 5
      refine kS fun K hK => ?_
      refine sq 11 [(true, 0), (true, 1), (true, 2), (true, 3), (true, 4), (true, 5), (true, 6), (true, 7), (true, 8), (true, 9), (true, 10)] fun T hT => ?_
      iterate 11 refine tk ?_
      refine nlS hT HF fun vw4 HG => ?_
      clear hT T HF
      go_wp2
      refine kO hK ?_; clear hK K
      have HF := HG; clear HG
      refine wp_cond_true (by rfl) ?_
      refine kS fun K hK => ?_
      refine sq 2 [(true, 0), (true, 1)] fun T hT => ?_
      iterate 2 refine tk ?_
      refine nlS hT HF fun vw5 HG => ?_
      clear hT T HF
      have lx4 := HG.out.c 4 rfl; have fx4 := HG.out.f 4 rfl
      have r0 := Gr.refl vw5
      go_wp2
      refine kO hK ?_; clear hK K
      clear r0 lx4 fx4
      refine fH ((((((HG.out).put2 4 0 rfl).put2 4 2 rfl).put2 4 4 rfl).put2 4 6 rfl).put2 4 8 rfl) fun Wx6 HF => ?_
      clear HG
      refine wp_ret ?_
      try simp only [Exit.then, Exit.inBlock]
      have lx4 := HF.out.c 4 rfl
      have r0 := Gr.refl Wx6
      exact bodyPost_ret (v := .tuple #[.int .i64 0, (.agg #[.int .u64 0, .string ⟨#[]⟩, .bool false, .int .u64 0, .string ⟨#[]⟩, .int .u64 0, .string ⟨#[]⟩, .bool false, .int .u64 0, .string ⟨#[]⟩])]) (by simp [results, Tryz.results16, go_sem, lx4 _ r0]) rfl ⟨rfl, HF.out.1⟩
    · -- region 5
      refine kS fun K hK => ?_
      refine sq 11 [(true, 0), (true, 1), (true, 2), (true, 3), (true, 4), (true, 5), (true, 6), (true, 7), (true, 8), (true, 9), (true, 10)] fun T hT => ?_
      iterate 11 refine tk ?_
      refine nlS hT HF fun vw4 HG => ?_
      clear hT T HF
      go_wp2
      refine kO hK ?_; clear hK K
      have HF := HG; clear HG
      refine wp_cond_false (by rfl) ?_
      refine wp_skip ?_
      show Code.wp _ _ _ _ _
      obtain ⟨u1, HZ1⟩ : ∃ z, Hid ((b1) - (a1) = z) := ⟨_, Lib.hid rfl⟩
      have su1 : sz u1 ≤ 20000001 := by rw [← HZ1.out]; have := sz_sub (b1) (a1); omega
      obtain ⟨u2, HZ2⟩ : ∃ z, Hid ((b2) - (a2) = z) := ⟨_, Lib.hid rfl⟩
      have su2 : sz u2 ≤ 20000001 := by rw [← HZ2.out]; have := sz_sub (b2) (a2); omega
      obtain ⟨u3, HZ3⟩ : ∃ z, Hid ((d1) - (c1) = z) := ⟨_, Lib.hid rfl⟩
      have su3 : sz u3 ≤ 20000001 := by rw [← HZ3.out]; have := sz_sub (d1) (c1); omega
      obtain ⟨u4, HZ4⟩ : ∃ z, Hid ((d2) - (c2) = z) := ⟨_, Lib.hid rfl⟩
      have su4 : sz u4 ≤ 20000001 := by rw [← HZ4.out]; have := sz_sub (d2) (c2); omega
      have lx0 := HF.out.c 0 rfl
      have lx1 := HF.out.c 1 rfl
      have lx2 := HF.out.c 2 rfl
      have lx3 := HF.out.c 3 rfl
      refine kS fun K hK => ?_
      refine wp_region_plan 8 [6, 7] [] (fun i => if i = 6 then 14 else 15) (fun i => if i = 6 then .cells #[.int .u64 0, .string ⟨#[]⟩, .bool false, .int .u64 0, .string ⟨#[]⟩, .int .u64 0, .string ⟨#[]⟩, .bool false, .int .u64 0, .string ⟨#[]⟩] 38 else .cells #[.int .u64 0, .string ⟨#[]⟩, .bool false, .int .u64 0, .string ⟨#[]⟩, .int .u64 0, .string ⟨#[]⟩, .bool false, .int .u64 0, .string ⟨#[]⟩] 38) [(true, 0), (true, 1), (true, 3), (true, 4), (true, 2), (true, 5)] (by kernel_rfl) (by kernel_rfl) (by intro i hi; simp only [List.mem_cons, List.not_mem_nil, or_false] at hi; rcases hi with rfl | rfl <;> exact ⟨_, rfl, rfl, rfl, by simp, fun ρ w => by kernel_rfl⟩) (fun i hi => by cases hi) (fun _ _ _ _ _ h => h) (fun T hT => ?_)
      iterate 4 refine tk ?_
      refine ck Tryz.call78 (fun w' hw => psub_any (b1) (b2) (a1) (a2) (u1) (u2) _ HZ1.out HZ2.out om om om om) ?_
      refine ck Tryz.call78 (fun w' hw => psub_any (d1) (d2) (c1) (c2) (u3) (u4) _ HZ3.out HZ4.out om om om om) ?_
      refine wpPlan_nil (hT.out _ _ ?_)
      intro G vw5 hg hf
      simp only [puts, Act.put, lA, lB, lC, lD, lE, ↓reduceIte, Nat.reduceEqDiff]
      have HG := Lib.hid (HF.out.fr hg hf (zs := [(#[.int .u64 0, .string ⟨#[]⟩, .bool false, .int .u64 0, .string ⟨#[]⟩, .int .u64 0, .string ⟨#[]⟩, .bool false, .int .u64 0, .string ⟨#[]⟩], 38), (#[.int .u64 0, .string ⟨#[]⟩, .bool false, .int .u64 0, .string ⟨#[]⟩, .int .u64 0, .string ⟨#[]⟩, .bool false, .int .u64 0, .string ⟨#[]⟩], 38)]) rfl (by decide) (by decide))
      simp only [zq1_, zq2_, zq3_, zq4_, lF, lG] at HG
      clear hT T HF hg hf lx0 lx1 lx2 lx3
      generalize G 6 = gx6 at *
      generalize G 7 = gx7 at *
      have lx6 := HG.out.c 5 rfl; have fx6 := HG.out.f 5 rfl
      have lx7 := HG.out.c 6 rfl; have fx7 := HG.out.f 6 rfl
      have r0 := Gr.refl vw5
      obtain ⟨d6_7, d7_6⟩ := HG.out.ne 5 6 rfl rfl (by decide)
      go_wp2
      refine kO hK ?_; clear hK K
      clear r0 lx6 fx6 lx7 fx7 d6_7 d7_6
      refine fH (((((((((((((HG.out).put2 5 0 rfl).put2 5 2 rfl).put2 5 4 rfl).put2 5 6 rfl).put2 5 8 rfl).put2 6 0 rfl).put2 6 2 rfl).put2 6 4 rfl).put2 6 6 rfl).put2 6 8 rfl).er 3).er 1) fun Wx7 HF => ?_
      clear HG
      obtain ⟨u5, HZ5⟩ : ∃ z, Hid ((c1) - (a1) = z) := ⟨_, Lib.hid rfl⟩
      have su5 : sz u5 ≤ 20000001 := by rw [← HZ5.out]; have := sz_sub (c1) (a1); omega
      obtain ⟨u6, HZ6⟩ : ∃ z, Hid ((c2) - (a2) = z) := ⟨_, Lib.hid rfl⟩
      have su6 : sz u6 ≤ 20000001 := by rw [← HZ6.out]; have := sz_sub (c2) (a2); omega
      obtain ⟨u7, HZ7⟩ : ∃ z, Hid ((u5) * (u4) - (u6) * (u3) = z) := ⟨_, Lib.hid rfl⟩
      have su7 : sz u7 ≤ 80000005 := by rw [← HZ7.out]; have := sz_cross (u5) (u6) (u3) (u4); omega
      have HZ8 : Hid ((u1) * (u4) - (u2) * (u3) = ((b1 - a1) * (d2 - c2) - (b2 - a2) * (d1 - c1))) := Lib.hid (by rw [← HZ1.out, ← HZ2.out, ← HZ3.out, ← HZ4.out])
      obtain ⟨u9, HZ9⟩ : ∃ z, Hid ((u7) / (((b1 - a1) * (d2 - c2) - (b2 - a2) * (d1 - c1))) = z) := ⟨_, Lib.hid rfl⟩
      have su9 : sz u9 ≤ 180000005 := by rw [← HZ9.out]; have := sz_div (u7) (((b1 - a1) * (d2 - c2) - (b2 - a2) * (d1 - c1))); omega
      have lx0 := HF.out.c 0 rfl
      have lx2 := HF.out.c 1 rfl
      have lx6 := HF.out.c 3 rfl
      have lx7 := HF.out.c 4 rfl
      refine kS fun K hK => ?_
      refine wp_region_plan 13 [12] [11] (fun _ => 16) (fun _ => .cells #[.int .u64 0, .string ⟨#[]⟩, .bool false, .int .u64 0, .string ⟨#[]⟩] 36) [(true, 0), (true, 1), (true, 3), (true, 5), (true, 6), (true, 2), (true, 4), (true, 7), (true, 8), (true, 9), (true, 10), (true, 11)] (by kernel_rfl) (by kernel_rfl) (by intro i hi; simp only [List.mem_cons, List.not_mem_nil, or_false] at hi; rcases hi with rfl <;> exact ⟨_, rfl, rfl, rfl, by simp, fun ρ w => by kernel_rfl⟩) (by intro i hi; simp only [List.mem_cons, List.not_mem_nil, or_false] at hi; rcases hi with rfl <;> exact ⟨_, rfl, pure_extract⟩) (fun _ _ _ _ _ h => h) (fun T hT => ?_)
      iterate 5 refine tk ?_
      refine ck Tryz.call78 (fun w' hw => psub_any (c1) (c2) (a1) (a2) (u5) (u6) _ HZ5.out HZ6.out om om om om) ?_
      refine ck Tryz.call80 (fun w' hw => pcross_any (u5) (u6) (u3) (u4) (u7) _ HZ7.out om om om om) ?_
      refine ck Tryz.call80 (fun w' hw => pcross_any (u1) (u2) (u3) (u4) (((b1 - a1) * (d2 - c2) - (b2 - a2) * (d1 - c1))) _ HZ8.out om om om om) ?_
      refine ck Tryz.call79 (fun w' hw => fdiv_any (u7) (((b1 - a1) * (d2 - c2) - (b2 - a2) * (d1 - c1))) (u9) _ HZ9.out hk0.out om om) ?_
      iterate 3 refine tk ?_
      refine wpPlan_nil (hT.out _ _ ?_)
      intro G vw6 hg hf
      simp only [puts, Act.put, lA, lB, lC, lD, lE, ↓reduceIte, Nat.reduceEqDiff]
      have HG := Lib.hid (HF.out.fr hg hf (zs := [(#[.int .u64 0, .string ⟨#[]⟩, .bool false, .int .u64 0, .string ⟨#[]⟩], 36)]) rfl (by decide) (by decide))
      simp only [zq1_, zq2_, zq3_, zq4_, lF, lG] at HG
      clear hT T HF hg hf lx0 lx2 lx6 lx7
      generalize G 12 = gx8 at *
      have lx8 := HG.out.c 5 rfl; have fx8 := HG.out.f 5 rfl
      have r0 := Gr.refl vw6
      go_wp2
      refine kO hK ?_; clear hK K
      clear r0 lx8 fx8
      refine fH ((((((HG.out).put2 5 0 rfl).put2 5 2 rfl).put 5 4 _ rfl).er 4).er 1) fun Wx8 HF => ?_
      clear HG
      obtain ⟨u10, HZ10⟩ : ∃ z, Hid ((u1) * (u9) = z) := ⟨_, Lib.hid rfl⟩
      have su10 : sz u10 ≤ 200000006 := by rw [← HZ10.out]; have := sz_mul (u1) (u9); omega
      obtain ⟨u11, HZ11⟩ : ∃ z, Hid ((u2) * (u9) = z) := ⟨_, Lib.hid rfl⟩
      have su11 : sz u11 ≤ 200000006 := by rw [← HZ11.out]; have := sz_mul (u2) (u9); omega
      have HZ12 : Hid ((a1) + (u10) = m1) := Lib.hid (by rw [← HZ10.out, ← HZ9.out, ← HZ7.out, ← HZ6.out, ← HZ5.out, ← HZ4.out, ← HZ3.out, ← HZ1.out]; exact hm1.out)
      have HZ13 : Hid ((a2) + (u11) = m2) := Lib.hid (by rw [← HZ11.out, ← HZ9.out, ← HZ7.out, ← HZ6.out, ← HZ5.out, ← HZ4.out, ← HZ3.out, ← HZ2.out]; exact hm2.out)
      have lx0 := HF.out.c 0 rfl
      have lx6 := HF.out.c 2 rfl
      have lx8 := HF.out.c 3 rfl
      refine kS fun K hK => ?_
      refine pd 6 [(true, 0), (true, 1), (true, 2), (true, 3), (true, 4), (true, 5)] fun T hT => ?_
      iterate 3 refine tk ?_
      refine ck Tryz.call82 (fun w' hw => pscale_any (u1) (u2) (u9) (u10) (u11) _ HZ10.out HZ11.out om om om) ?_
      refine ck Tryz.call81 (fun w' hw => padd_any (a1) (a2) (u10) (u11) (m1) (m2) _ HZ12.out HZ13.out om om om om) ?_
      refine tk ?_
      refine nlD hT HF fun vw7 HG => ?_
      clear hT T HF lx0 lx6 lx8
      have lx4 := HG.out.c 1 rfl; have fx4 := HG.out.f 1 rfl
      have r0 := Gr.refl vw7
      go_wp2
      refine kO hK ?_; clear hK K
      clear r0 lx4 fx4
      refine fH (((((((((HG.out).put2 1 0 rfl).put2 1 2 rfl).put2 1 4 rfl).put2 1 6 rfl).put2 1 8 rfl).er 3).er 2).er 0) fun Wx9 HF => ?_
      clear HG
      refine wp_ret ?_
      try simp only [Exit.then, Exit.inBlock]
      have lx4 := HF.out.c 0 rfl
      have r0 := Gr.refl Wx9
      exact bodyPost_ret (v := .tuple #[.int .i64 1, (.agg #[.int .u64 (lo m1.num.natAbs), .string (bg m1.num.natAbs), .bool (decide (m1.num < 0)), .int .u64 (lo (m1.den - 1)), .string (bg (m1.den - 1)), .int .u64 (lo m2.num.natAbs), .string (bg m2.num.natAbs), .bool (decide (m2.num < 0)), .int .u64 (lo (m2.den - 1)), .string (bg (m2.den - 1))])]) (by simp [results, Tryz.results16, go_sem, lx4 _ r0]) rfl ⟨rfl, HF.out.1⟩
  · -- region 3
    refine kS fun K hK => ?_
    refine sq 15 [(true, 0), (true, 1), (true, 2), (true, 3), (true, 4), (true, 5), (true, 6), (true, 7), (true, 8), (true, 9), (true, 10), (true, 11), (true, 12), (true, 13), (true, 14)] fun T hT => ?_
    iterate 15 refine tk ?_
    refine nlS hT HF fun vw3 HG => ?_
    clear hT T HF
    go_wp2
    refine kO hK ?_; clear hK K
    have HF := HG; clear HG
    refine wp_cond_false (by rfl) ?_
    have way2 := way.out; clear way; rcases way2 with ⟨g1, rfl, rfl, rfl⟩ | ⟨g1, g2, rfl, rfl, rfl⟩ | ⟨g1, g2, rfl, hk0, hs_k, hm1, hm2⟩
    · -- region 5
      refine kS fun K hK => ?_
      refine sq 11 [(true, 0), (true, 1), (true, 2), (true, 3), (true, 4), (true, 5), (true, 6), (true, 7), (true, 8), (true, 9), (true, 10)] fun T hT => ?_
      iterate 5 refine tk ?_
      iterate 4 refine sk ?_
      iterate 2 refine tk ?_
      refine nlS hT HF fun vw4 HG => ?_
      clear hT T HF
      go_wp2
      refine kO hK ?_; clear hK K
      have HF := HG; clear HG
      refine wp_cond_true (by rfl) ?_
      refine kS fun K hK => ?_
      refine sq 2 [(true, 0), (true, 1)] fun T hT => ?_
      iterate 2 refine tk ?_
      refine nlS hT HF fun vw5 HG => ?_
      clear hT T HF
      have lx4 := HG.out.c 4 rfl; have fx4 := HG.out.f 4 rfl
      have r0 := Gr.refl vw5
      go_wp2
      refine kO hK ?_; clear hK K
      clear r0 lx4 fx4
      refine fH ((((((HG.out).put2 4 0 rfl).put2 4 2 rfl).put2 4 4 rfl).put2 4 6 rfl).put2 4 8 rfl) fun Wx6 HF => ?_
      clear HG
      refine wp_ret ?_
      try simp only [Exit.then, Exit.inBlock]
      have lx4 := HF.out.c 4 rfl
      have r0 := Gr.refl Wx6
      exact bodyPost_ret (v := .tuple #[.int .i64 0, (.agg #[.int .u64 0, .string ⟨#[]⟩, .bool false, .int .u64 0, .string ⟨#[]⟩, .int .u64 0, .string ⟨#[]⟩, .bool false, .int .u64 0, .string ⟨#[]⟩])]) (by simp [results, Tryz.results16, go_sem, lx4 _ r0]) rfl ⟨rfl, HF.out.1⟩
    · -- region 5
      refine kS fun K hK => ?_
      refine sq 11 [(true, 0), (true, 1), (true, 2), (true, 3), (true, 4), (true, 5), (true, 6), (true, 7), (true, 8), (true, 9), (true, 10)] fun T hT => ?_
      iterate 11 refine tk ?_
      refine nlS hT HF fun vw4 HG => ?_
      clear hT T HF
      go_wp2
      refine kO hK ?_; clear hK K
      have HF := HG; clear HG
      refine wp_cond_true (by rfl) ?_
      refine kS fun K hK => ?_
      refine sq 2 [(true, 0), (true, 1)] fun T hT => ?_
      iterate 2 refine tk ?_
      refine nlS hT HF fun vw5 HG => ?_
      clear hT T HF
      have lx4 := HG.out.c 4 rfl; have fx4 := HG.out.f 4 rfl
      have r0 := Gr.refl vw5
      go_wp2
      refine kO hK ?_; clear hK K
      clear r0 lx4 fx4
      refine fH ((((((HG.out).put2 4 0 rfl).put2 4 2 rfl).put2 4 4 rfl).put2 4 6 rfl).put2 4 8 rfl) fun Wx6 HF => ?_
      clear HG
      refine wp_ret ?_
      try simp only [Exit.then, Exit.inBlock]
      have lx4 := HF.out.c 4 rfl
      have r0 := Gr.refl Wx6
      exact bodyPost_ret (v := .tuple #[.int .i64 0, (.agg #[.int .u64 0, .string ⟨#[]⟩, .bool false, .int .u64 0, .string ⟨#[]⟩, .int .u64 0, .string ⟨#[]⟩, .bool false, .int .u64 0, .string ⟨#[]⟩])]) (by simp [results, Tryz.results16, go_sem, lx4 _ r0]) rfl ⟨rfl, HF.out.1⟩
    · -- region 5
      refine kS fun K hK => ?_
      refine sq 11 [(true, 0), (true, 1), (true, 2), (true, 3), (true, 4), (true, 5), (true, 6), (true, 7), (true, 8), (true, 9), (true, 10)] fun T hT => ?_
      iterate 11 refine tk ?_
      refine nlS hT HF fun vw4 HG => ?_
      clear hT T HF
      go_wp2
      refine kO hK ?_; clear hK K
      have HF := HG; clear HG
      refine wp_cond_false (by rfl) ?_
      refine wp_skip ?_
      show Code.wp _ _ _ _ _
      obtain ⟨u1, HZ1⟩ : ∃ z, Hid ((b1) - (a1) = z) := ⟨_, Lib.hid rfl⟩
      have su1 : sz u1 ≤ 20000001 := by rw [← HZ1.out]; have := sz_sub (b1) (a1); omega
      obtain ⟨u2, HZ2⟩ : ∃ z, Hid ((b2) - (a2) = z) := ⟨_, Lib.hid rfl⟩
      have su2 : sz u2 ≤ 20000001 := by rw [← HZ2.out]; have := sz_sub (b2) (a2); omega
      obtain ⟨u3, HZ3⟩ : ∃ z, Hid ((d1) - (c1) = z) := ⟨_, Lib.hid rfl⟩
      have su3 : sz u3 ≤ 20000001 := by rw [← HZ3.out]; have := sz_sub (d1) (c1); omega
      obtain ⟨u4, HZ4⟩ : ∃ z, Hid ((d2) - (c2) = z) := ⟨_, Lib.hid rfl⟩
      have su4 : sz u4 ≤ 20000001 := by rw [← HZ4.out]; have := sz_sub (d2) (c2); omega
      have lx0 := HF.out.c 0 rfl
      have lx1 := HF.out.c 1 rfl
      have lx2 := HF.out.c 2 rfl
      have lx3 := HF.out.c 3 rfl
      refine kS fun K hK => ?_
      refine wp_region_plan 8 [6, 7] [] (fun i => if i = 6 then 14 else 15) (fun i => if i = 6 then .cells #[.int .u64 0, .string ⟨#[]⟩, .bool false, .int .u64 0, .string ⟨#[]⟩, .int .u64 0, .string ⟨#[]⟩, .bool false, .int .u64 0, .string ⟨#[]⟩] 38 else .cells #[.int .u64 0, .string ⟨#[]⟩, .bool false, .int .u64 0, .string ⟨#[]⟩, .int .u64 0, .string ⟨#[]⟩, .bool false, .int .u64 0, .string ⟨#[]⟩] 38) [(true, 0), (true, 1), (true, 3), (true, 4), (true, 2), (true, 5)] (by kernel_rfl) (by kernel_rfl) (by intro i hi; simp only [List.mem_cons, List.not_mem_nil, or_false] at hi; rcases hi with rfl | rfl <;> exact ⟨_, rfl, rfl, rfl, by simp, fun ρ w => by kernel_rfl⟩) (fun i hi => by cases hi) (fun _ _ _ _ _ h => h) (fun T hT => ?_)
      iterate 4 refine tk ?_
      refine ck Tryz.call78 (fun w' hw => psub_any (b1) (b2) (a1) (a2) (u1) (u2) _ HZ1.out HZ2.out om om om om) ?_
      refine ck Tryz.call78 (fun w' hw => psub_any (d1) (d2) (c1) (c2) (u3) (u4) _ HZ3.out HZ4.out om om om om) ?_
      refine wpPlan_nil (hT.out _ _ ?_)
      intro G vw5 hg hf
      simp only [puts, Act.put, lA, lB, lC, lD, lE, ↓reduceIte, Nat.reduceEqDiff]
      have HG := Lib.hid (HF.out.fr hg hf (zs := [(#[.int .u64 0, .string ⟨#[]⟩, .bool false, .int .u64 0, .string ⟨#[]⟩, .int .u64 0, .string ⟨#[]⟩, .bool false, .int .u64 0, .string ⟨#[]⟩], 38), (#[.int .u64 0, .string ⟨#[]⟩, .bool false, .int .u64 0, .string ⟨#[]⟩, .int .u64 0, .string ⟨#[]⟩, .bool false, .int .u64 0, .string ⟨#[]⟩], 38)]) rfl (by decide) (by decide))
      simp only [zq1_, zq2_, zq3_, zq4_, lF, lG] at HG
      clear hT T HF hg hf lx0 lx1 lx2 lx3
      generalize G 6 = gx6 at *
      generalize G 7 = gx7 at *
      have lx6 := HG.out.c 5 rfl; have fx6 := HG.out.f 5 rfl
      have lx7 := HG.out.c 6 rfl; have fx7 := HG.out.f 6 rfl
      have r0 := Gr.refl vw5
      obtain ⟨d6_7, d7_6⟩ := HG.out.ne 5 6 rfl rfl (by decide)
      go_wp2
      refine kO hK ?_; clear hK K
      clear r0 lx6 fx6 lx7 fx7 d6_7 d7_6
      refine fH (((((((((((((HG.out).put2 5 0 rfl).put2 5 2 rfl).put2 5 4 rfl).put2 5 6 rfl).put2 5 8 rfl).put2 6 0 rfl).put2 6 2 rfl).put2 6 4 rfl).put2 6 6 rfl).put2 6 8 rfl).er 3).er 1) fun Wx7 HF => ?_
      clear HG
      obtain ⟨u5, HZ5⟩ : ∃ z, Hid ((c1) - (a1) = z) := ⟨_, Lib.hid rfl⟩
      have su5 : sz u5 ≤ 20000001 := by rw [← HZ5.out]; have := sz_sub (c1) (a1); omega
      obtain ⟨u6, HZ6⟩ : ∃ z, Hid ((c2) - (a2) = z) := ⟨_, Lib.hid rfl⟩
      have su6 : sz u6 ≤ 20000001 := by rw [← HZ6.out]; have := sz_sub (c2) (a2); omega
      obtain ⟨u7, HZ7⟩ : ∃ z, Hid ((u5) * (u4) - (u6) * (u3) = z) := ⟨_, Lib.hid rfl⟩
      have su7 : sz u7 ≤ 80000005 := by rw [← HZ7.out]; have := sz_cross (u5) (u6) (u3) (u4); omega
      have HZ8 : Hid ((u1) * (u4) - (u2) * (u3) = ((b1 - a1) * (d2 - c2) - (b2 - a2) * (d1 - c1))) := Lib.hid (by rw [← HZ1.out, ← HZ2.out, ← HZ3.out, ← HZ4.out])
      obtain ⟨u9, HZ9⟩ : ∃ z, Hid ((u7) / (((b1 - a1) * (d2 - c2) - (b2 - a2) * (d1 - c1))) = z) := ⟨_, Lib.hid rfl⟩
      have su9 : sz u9 ≤ 180000005 := by rw [← HZ9.out]; have := sz_div (u7) (((b1 - a1) * (d2 - c2) - (b2 - a2) * (d1 - c1))); omega
      have lx0 := HF.out.c 0 rfl
      have lx2 := HF.out.c 1 rfl
      have lx6 := HF.out.c 3 rfl
      have lx7 := HF.out.c 4 rfl
      refine kS fun K hK => ?_
      refine wp_region_plan 13 [12] [11] (fun _ => 16) (fun _ => .cells #[.int .u64 0, .string ⟨#[]⟩, .bool false, .int .u64 0, .string ⟨#[]⟩] 36) [(true, 0), (true, 1), (true, 3), (true, 5), (true, 6), (true, 2), (true, 4), (true, 7), (true, 8), (true, 9), (true, 10), (true, 11)] (by kernel_rfl) (by kernel_rfl) (by intro i hi; simp only [List.mem_cons, List.not_mem_nil, or_false] at hi; rcases hi with rfl <;> exact ⟨_, rfl, rfl, rfl, by simp, fun ρ w => by kernel_rfl⟩) (by intro i hi; simp only [List.mem_cons, List.not_mem_nil, or_false] at hi; rcases hi with rfl <;> exact ⟨_, rfl, pure_extract⟩) (fun _ _ _ _ _ h => h) (fun T hT => ?_)
      iterate 5 refine tk ?_
      refine ck Tryz.call78 (fun w' hw => psub_any (c1) (c2) (a1) (a2) (u5) (u6) _ HZ5.out HZ6.out om om om om) ?_
      refine ck Tryz.call80 (fun w' hw => pcross_any (u5) (u6) (u3) (u4) (u7) _ HZ7.out om om om om) ?_
      refine ck Tryz.call80 (fun w' hw => pcross_any (u1) (u2) (u3) (u4) (((b1 - a1) * (d2 - c2) - (b2 - a2) * (d1 - c1))) _ HZ8.out om om om om) ?_
      refine ck Tryz.call79 (fun w' hw => fdiv_any (u7) (((b1 - a1) * (d2 - c2) - (b2 - a2) * (d1 - c1))) (u9) _ HZ9.out hk0.out om om) ?_
      iterate 3 refine tk ?_
      refine wpPlan_nil (hT.out _ _ ?_)
      intro G vw6 hg hf
      simp only [puts, Act.put, lA, lB, lC, lD, lE, ↓reduceIte, Nat.reduceEqDiff]
      have HG := Lib.hid (HF.out.fr hg hf (zs := [(#[.int .u64 0, .string ⟨#[]⟩, .bool false, .int .u64 0, .string ⟨#[]⟩], 36)]) rfl (by decide) (by decide))
      simp only [zq1_, zq2_, zq3_, zq4_, lF, lG] at HG
      clear hT T HF hg hf lx0 lx2 lx6 lx7
      generalize G 12 = gx8 at *
      have lx8 := HG.out.c 5 rfl; have fx8 := HG.out.f 5 rfl
      have r0 := Gr.refl vw6
      go_wp2
      refine kO hK ?_; clear hK K
      clear r0 lx8 fx8
      refine fH ((((((HG.out).put2 5 0 rfl).put2 5 2 rfl).put 5 4 _ rfl).er 4).er 1) fun Wx8 HF => ?_
      clear HG
      obtain ⟨u10, HZ10⟩ : ∃ z, Hid ((u1) * (u9) = z) := ⟨_, Lib.hid rfl⟩
      have su10 : sz u10 ≤ 200000006 := by rw [← HZ10.out]; have := sz_mul (u1) (u9); omega
      obtain ⟨u11, HZ11⟩ : ∃ z, Hid ((u2) * (u9) = z) := ⟨_, Lib.hid rfl⟩
      have su11 : sz u11 ≤ 200000006 := by rw [← HZ11.out]; have := sz_mul (u2) (u9); omega
      have HZ12 : Hid ((a1) + (u10) = m1) := Lib.hid (by rw [← HZ10.out, ← HZ9.out, ← HZ7.out, ← HZ6.out, ← HZ5.out, ← HZ4.out, ← HZ3.out, ← HZ1.out]; exact hm1.out)
      have HZ13 : Hid ((a2) + (u11) = m2) := Lib.hid (by rw [← HZ11.out, ← HZ9.out, ← HZ7.out, ← HZ6.out, ← HZ5.out, ← HZ4.out, ← HZ3.out, ← HZ2.out]; exact hm2.out)
      have lx0 := HF.out.c 0 rfl
      have lx6 := HF.out.c 2 rfl
      have lx8 := HF.out.c 3 rfl
      refine kS fun K hK => ?_
      refine pd 6 [(true, 0), (true, 1), (true, 2), (true, 3), (true, 4), (true, 5)] fun T hT => ?_
      iterate 3 refine tk ?_
      refine ck Tryz.call82 (fun w' hw => pscale_any (u1) (u2) (u9) (u10) (u11) _ HZ10.out HZ11.out om om om) ?_
      refine ck Tryz.call81 (fun w' hw => padd_any (a1) (a2) (u10) (u11) (m1) (m2) _ HZ12.out HZ13.out om om om om) ?_
      refine tk ?_
      refine nlD hT HF fun vw7 HG => ?_
      clear hT T HF lx0 lx6 lx8
      have lx4 := HG.out.c 1 rfl; have fx4 := HG.out.f 1 rfl
      have r0 := Gr.refl vw7
      go_wp2
      refine kO hK ?_; clear hK K
      clear r0 lx4 fx4
      refine fH (((((((((HG.out).put2 1 0 rfl).put2 1 2 rfl).put2 1 4 rfl).put2 1 6 rfl).put2 1 8 rfl).er 3).er 2).er 0) fun Wx9 HF => ?_
      clear HG
      refine wp_ret ?_
      try simp only [Exit.then, Exit.inBlock]
      have lx4 := HF.out.c 0 rfl
      have r0 := Gr.refl Wx9
      exact bodyPost_ret (v := .tuple #[.int .i64 1, (.agg #[.int .u64 (lo m1.num.natAbs), .string (bg m1.num.natAbs), .bool (decide (m1.num < 0)), .int .u64 (lo (m1.den - 1)), .string (bg (m1.den - 1)), .int .u64 (lo m2.num.natAbs), .string (bg m2.num.natAbs), .bool (decide (m2.num < 0)), .int .u64 (lo (m2.den - 1)), .string (bg (m2.den - 1))])]) (by simp [results, Tryz.results16, go_sem, lx4 _ r0]) rfl ⟨rfl, HF.out.1⟩
end Go.Proofs.YtobojnodohjiaaaGreatDoor
