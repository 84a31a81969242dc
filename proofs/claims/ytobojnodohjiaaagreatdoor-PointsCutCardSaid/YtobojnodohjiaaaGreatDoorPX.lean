/- A pack of texts: Piece, Hit, Lives. No condition but those stated. -/
import Derived.Test.YtobojnodohjiaaaGreatDoorPts3
import Derived.Test.YtobojnodohjiaaaGreatDoorEqQ
import Derived.Test.YtobojnodohjiaaaGreatDoorHp
set_option linter.unusedVariables false
set_option linter.unusedSimpArgs false
/- points.piece. -/
namespace Go.Proofs.YtobojnodohjiaaaGreatDoor
open Go.RowKit
-- short cells
attribute [local go_sem ↓] Go.wp_at_zero Go.wp_at_succ
theorem eq_pt (d : Nat) (a1 a2 b1 b2 : Rat) (w : World) : (Op.equalIn (d + 6) 38 (Value.agg #[.int .u64 (lo a1.num.natAbs), .string (bg a1.num.natAbs), .bool (decide (a1.num < 0)), .int .u64 (lo (a1.den - 1)), .string (bg (a1.den - 1)), .int .u64 (lo a2.num.natAbs), .string (bg a2.num.natAbs), .bool (decide (a2.num < 0)), .int .u64 (lo (a2.den - 1)), .string (bg (a2.den - 1))]) (Value.agg #[.int .u64 (lo b1.num.natAbs), .string (bg b1.num.natAbs), .bool (decide (b1.num < 0)), .int .u64 (lo (b1.den - 1)), .string (bg (b1.den - 1)), .int .u64 (lo b2.num.natAbs), .string (bg b2.num.natAbs), .bool (decide (b2.num < 0)), .int .u64 (lo (b2.den - 1)), .string (bg (b2.den - 1))])).run Tryz.prog w = .ok (decide (a1 = b1) && decide (a2 = b2)) w := by
  simp [go_sem, eq_frac]
  by_cases h1 : a1 = b1 <;> by_cases h2 : a2 = b2 <;> simp [h1, h2]
attribute [local go_sem ↓] eq_nat eq_nat_zero eq_int eq_frac eq_pt
set_option maxHeartbeats 4000000 in
theorem ppiece_none (a1 a2 b1 b2 c1 c2 d1 d2 la1 la2 lc1 lc2 fr1 fr2 ga1 ga2 gc1 gc2 to1 to2 : Rat) (r_la r_lc r_fr r_ga r_gc r_to : Bool) (w : World) (h_la : Hid (plt b1 b2 a1 a2 = r_la)) (h1_la : Hid ((if r_la then b1 else a1) = la1)) (h2_la : Hid ((if r_la then b2 else a2) = la2)) (h_lc : Hid (plt d1 d2 c1 c2 = r_lc)) (h1_lc : Hid ((if r_lc then d1 else c1) = lc1)) (h2_lc : Hid ((if r_lc then d2 else c2) = lc2)) (h_fr : Hid (plt la1 la2 lc1 lc2 = r_fr)) (h1_fr : Hid ((if r_fr then lc1 else la1) = fr1)) (h2_fr : Hid ((if r_fr then lc2 else la2) = fr2)) (h_ga : Hid (plt a1 a2 b1 b2 = r_ga)) (h1_ga : Hid ((if r_ga then b1 else a1) = ga1)) (h2_ga : Hid ((if r_ga then b2 else a2) = ga2)) (h_gc : Hid (plt c1 c2 d1 d2 = r_gc)) (h1_gc : Hid ((if r_gc then d1 else c1) = gc1)) (h2_gc : Hid ((if r_gc then d2 else c2) = gc2)) (h_to : Hid (plt gc1 gc2 ga1 ga2 = r_to)) (h1_to : Hid ((if r_to then gc1 else ga1) = to1)) (h2_to : Hid ((if r_to then gc2 else ga2) = to2)) (hl : Hid (plt to1 to2 fr1 fr2 = true)) (hs_a1 : sz a1 ≤ 100000000) (hs_a2 : sz a2 ≤ 100000000) (hs_b1 : sz b1 ≤ 100000000) (hs_b2 : sz b2 ≤ 100000000) (hs_c1 : sz c1 ≤ 100000000) (hs_c2 : sz c2 ≤ 100000000) (hs_d1 : sz d1 ≤ 100000000) (hs_d2 : sz d2 ≤ 100000000) (hs_la1 : sz la1 ≤ 100000000) (hs_la2 : sz la2 ≤ 100000000) (hs_lc1 : sz lc1 ≤ 100000000) (hs_lc2 : sz lc2 ≤ 100000000) (hs_fr1 : sz fr1 ≤ 100000000) (hs_fr2 : sz fr2 ≤ 100000000) (hs_ga1 : sz ga1 ≤ 100000000) (hs_ga2 : sz ga2 ≤ 100000000) (hs_gc1 : sz gc1 ≤ 100000000) (hs_gc2 : sz gc2 ≤ 100000000) (hs_to1 : sz to1 ≤ 100000000) (hs_to2 : sz to2 ≤ 100000000) :
    Calls Tryz.prog 77 #[(Value.agg #[.int .u64 (lo a1.num.natAbs), .string (bg a1.num.natAbs), .bool (decide (a1.num < 0)), .int .u64 (lo (a1.den - 1)), .string (bg (a1.den - 1)), .int .u64 (lo a2.num.natAbs), .string (bg a2.num.natAbs), .bool (decide (a2.num < 0)), .int .u64 (lo (a2.den - 1)), .string (bg (a2.den - 1))]), (Value.agg #[.int .u64 (lo b1.num.natAbs), .string (bg b1.num.natAbs), .bool (decide (b1.num < 0)), .int .u64 (lo (b1.den - 1)), .string (bg (b1.den - 1)), .int .u64 (lo b2.num.natAbs), .string (bg b2.num.natAbs), .bool (decide (b2.num < 0)), .int .u64 (lo (b2.den - 1)), .string (bg (b2.den - 1))]), (Value.agg #[.int .u64 (lo c1.num.natAbs), .string (bg c1.num.natAbs), .bool (decide (c1.num < 0)), .int .u64 (lo (c1.den - 1)), .string (bg (c1.den - 1)), .int .u64 (lo c2.num.natAbs), .string (bg c2.num.natAbs), .bool (decide (c2.num < 0)), .int .u64 (lo (c2.den - 1)), .string (bg (c2.den - 1))]), (Value.agg #[.int .u64 (lo d1.num.natAbs), .string (bg d1.num.natAbs), .bool (decide (d1.num < 0)), .int .u64 (lo (d1.den - 1)), .string (bg (d1.den - 1)), .int .u64 (lo d2.num.natAbs), .string (bg d2.num.natAbs), .bool (decide (d2.num < 0)), .int .u64 (lo (d2.den - 1)), .string (bg (d2.den - 1))])] w fun e w' => e = .returned (.tuple #[.int .i64 0, (.agg #[.int .u64 0, .string ⟨#[]⟩, .bool false, .int .u64 0, .string ⟨#[]⟩, .int .u64 0, .string ⟨#[]⟩, .bool false, .int .u64 0, .string ⟨#[]⟩])]) ∧ Below w.heap.size w w' := by
  go_enter Tryz.func77, Tryz.ntmps77
  have HF := Lib.hid (hp0 w)
  refine kS fun K hK => ?_
  refine wp_region_lit ?_
  go_wp2
  refine kO hK ?_; clear hK K
  refine fH ((((((HF.out).aL (w.heap.size)).aL (w.heap.size + 1)).aL (w.heap.size + 1 + 1)).aL (w.heap.size + 1 + 1 + 1)).aL (w.heap.size + 1 + 1 + 1 + 1)) fun Wx0 HG => ?_
  clear HF; have HF := HG; clear HG
  generalize w.heap.size + 1 + 1 + 1 + 1 = gx4 at *
  generalize w.heap.size + 1 + 1 + 1 = gx3 at *
  generalize w.heap.size + 1 + 1 = gx2 at *
  generalize w.heap.size + 1 = gx1 at *
  have lx0 := HF.out.c 0 rfl
  have lx1 := HF.out.c 1 rfl
  have lx2 := HF.out.c 2 rfl
  have lx3 := HF.out.c 3 rfl
  refine kS fun K hK => ?_
  have HG0 : Hid (Gr Wx0 Wx0) := Lib.hid (Gr.refl _)
  refine wp_region_early 22 [20, 21] [] (fun i => if i = 20 then 10 else 11) (fun i => if i = 20 then .cells #[.int .u64 0, .string ⟨#[]⟩, .bool false, .int .u64 0, .string ⟨#[]⟩, .int .u64 0, .string ⟨#[]⟩, .bool false, .int .u64 0, .string ⟨#[]⟩] 38 else .cells #[.int .u64 0, .string ⟨#[]⟩, .bool false, .int .u64 0, .string ⟨#[]⟩, .int .u64 0, .string ⟨#[]⟩, .bool false, .int .u64 0, .string ⟨#[]⟩] 38) (fun i => if i = 2 then (1, #[.int .u64 (lo b1.num.natAbs), .string (bg b1.num.natAbs), .bool (decide (b1.num < 0)), .int .u64 (lo (b1.den - 1)), .string (bg (b1.den - 1)), .int .u64 (lo b2.num.natAbs), .string (bg b2.num.natAbs), .bool (decide (b2.num < 0)), .int .u64 (lo (b2.den - 1)), .string (bg (b2.den - 1))], 38) else if i = 6 then (1, #[.int .u64 (lo d1.num.natAbs), .string (bg d1.num.natAbs), .bool (decide (d1.num < 0)), .int .u64 (lo (d1.den - 1)), .string (bg (d1.den - 1)), .int .u64 (lo d2.num.natAbs), .string (bg d2.num.natAbs), .bool (decide (d2.num < 0)), .int .u64 (lo (d2.den - 1)), .string (bg (d2.den - 1))], 38) else if i = 8 then (1, #[.int .u64 (lo lc1.num.natAbs), .string (bg lc1.num.natAbs), .bool (decide (lc1.num < 0)), .int .u64 (lo (lc1.den - 1)), .string (bg (lc1.den - 1)), .int .u64 (lo lc2.num.natAbs), .string (bg lc2.num.natAbs), .bool (decide (lc2.num < 0)), .int .u64 (lo (lc2.den - 1)), .string (bg (lc2.den - 1))], 38) else if i = 12 then (1, #[.int .u64 (lo b1.num.natAbs), .string (bg b1.num.natAbs), .bool (decide (b1.num < 0)), .int .u64 (lo (b1.den - 1)), .string (bg (b1.den - 1)), .int .u64 (lo b2.num.natAbs), .string (bg b2.num.natAbs), .bool (decide (b2.num < 0)), .int .u64 (lo (b2.den - 1)), .string (bg (b2.den - 1))], 38) else if i = 16 then (1, #[.int .u64 (lo d1.num.natAbs), .string (bg d1.num.natAbs), .bool (decide (d1.num < 0)), .int .u64 (lo (d1.den - 1)), .string (bg (d1.den - 1)), .int .u64 (lo d2.num.natAbs), .string (bg d2.num.natAbs), .bool (decide (d2.num < 0)), .int .u64 (lo (d2.den - 1)), .string (bg (d2.den - 1))], 38) else (1, #[.int .u64 (lo gc1.num.natAbs), .string (bg gc1.num.natAbs), .bool (decide (gc1.num < 0)), .int .u64 (lo (gc1.den - 1)), .string (bg (gc1.den - 1)), .int .u64 (lo gc2.num.natAbs), .string (bg gc2.num.natAbs), .bool (decide (gc2.num < 0)), .int .u64 (lo (gc2.den - 1)), .string (bg (gc2.den - 1))], 38)) [(0, 0), (0, 1), (1, 2), (0, 4), (0, 5), (1, 6), (0, 10), (0, 11), (1, 12), (0, 14), (0, 15), (1, 16), (2, 2), (0, 3), (2, 6), (0, 7), (1, 8), (2, 8), (0, 9), (2, 12), (0, 13), (2, 16), (0, 17), (1, 18), (2, 18), (0, 19)] (by kernel_rfl) (by kernel_rfl) (by intro i hi; simp only [List.mem_cons, List.not_mem_nil, or_false] at hi; rcases hi with rfl | rfl <;> exact ⟨_, rfl, rfl, rfl, by simp, fun ρ w => by kernel_rfl⟩) (fun i hi => by cases hi) (fun _ _ _ _ _ h => h) (fun T hT => ?_)
  iterate 2 (refine wpEarly_takeL (v := ?_) rfl (by rfl) (fun w' hw => ?_) ?_; rotate_left; go_simp; with_reducible rfl; simp only [Act.put, lA, lB, lC])
  refine wpEarly_mk rfl (by rfl) (fun w' => ?_) ?_
  · go_simp
  iterate 2 (refine wpEarly_takeL (v := ?_) rfl (by rfl) (fun w' hw => ?_) ?_; rotate_left; go_simp; with_reducible rfl; simp only [Act.put, lA, lB, lC])
  refine wpEarly_mk rfl (by rfl) (fun w' => ?_) ?_
  · go_simp
  iterate 2 (refine wpEarly_takeL (v := ?_) rfl (by rfl) (fun w' hw => ?_) ?_; rotate_left; go_simp; with_reducible rfl; simp only [Act.put, lA, lB, lC])
  refine wpEarly_mk rfl (by rfl) (fun w' => ?_) ?_
  · go_simp
  iterate 2 (refine wpEarly_takeL (v := ?_) rfl (by rfl) (fun w' hw => ?_) ?_; rotate_left; go_simp; with_reducible rfl; simp only [Act.put, lA, lB, lC])
  refine wpEarly_mk rfl (by rfl) (fun w' => ?_) ?_
  · go_simp
  refine wpEarly_use rfl (by rfl) (fun gx6 vv6 hg0 yx6 bx6 => ?_)
  clear yx6
  replace HG0 := Lib.hid (HG0.out.trans hg0)
  have HGS := Lib.hid hg0; clear hg0
  clear HGS
  have BX6 := Lib.hid bx6; clear bx6
  clear lx0; have lx0 := fun w' (h : Gr _ w') => HF.out.c 0 rfl w' (HG0.out.trans h)
  clear lx1; have lx1 := fun w' (h : Gr _ w') => HF.out.c 1 rfl w' (HG0.out.trans h)
  clear lx2; have lx2 := fun w' (h : Gr _ w') => HF.out.c 2 rfl w' (HG0.out.trans h)
  clear lx3; have lx3 := fun w' (h : Gr _ w') => HF.out.c 3 rfl w' (HG0.out.trans h)
  simp only [Act.put, lA, lB, lC]
  refine wpEarly_callL rfl (by rfl) Tryz.call186 (fun w' hw => pleast_any (a1) (a2) (b1) (b2) la1 la2 (gx6) _ (BX6.out.gr hw) (r_la) (h_la.out) (h1_la.out) (h2_la.out) om om om om) (by rfl) ?_
  simp only [Act.put, lA, lB, lC]
  refine wpEarly_use rfl (by rfl) (fun gx7 vv7 hg0 yx7 bx7 => ?_)
  clear yx7
  replace HG0 := Lib.hid (HG0.out.trans hg0)
  have HGS := Lib.hid hg0; clear hg0
  replace BX6 := Lib.hid (BX6.out.gr HGS.out)
  clear HGS
  have BX7 := Lib.hid bx7; clear bx7
  clear lx0; have lx0 := fun w' (h : Gr _ w') => HF.out.c 0 rfl w' (HG0.out.trans h)
  clear lx1; have lx1 := fun w' (h : Gr _ w') => HF.out.c 1 rfl w' (HG0.out.trans h)
  clear lx2; have lx2 := fun w' (h : Gr _ w') => HF.out.c 2 rfl w' (HG0.out.trans h)
  clear lx3; have lx3 := fun w' (h : Gr _ w') => HF.out.c 3 rfl w' (HG0.out.trans h)
  simp only [Act.put, lA, lB, lC]
  refine wpEarly_callL rfl (by rfl) Tryz.call186 (fun w' hw => pleast_any (c1) (c2) (d1) (d2) lc1 lc2 (gx7) _ (BX7.out.gr hw) (r_lc) (h_lc.out) (h1_lc.out) (h2_lc.out) om om om om) (by rfl) ?_
  simp only [Act.put, lA, lB, lC]
  refine wpEarly_mk rfl (by rfl) (fun w' => ?_) ?_
  · go_simp
  refine wpEarly_use rfl (by rfl) (fun gx10 vv10 hg0 yx10 bx10 => ?_)
  clear yx10
  replace HG0 := Lib.hid (HG0.out.trans hg0)
  have HGS := Lib.hid hg0; clear hg0
  replace BX6 := Lib.hid (BX6.out.gr HGS.out)
  replace BX7 := Lib.hid (BX7.out.gr HGS.out)
  clear HGS
  have BX10 := Lib.hid bx10; clear bx10
  clear lx0; have lx0 := fun w' (h : Gr _ w') => HF.out.c 0 rfl w' (HG0.out.trans h)
  clear lx1; have lx1 := fun w' (h : Gr _ w') => HF.out.c 1 rfl w' (HG0.out.trans h)
  clear lx2; have lx2 := fun w' (h : Gr _ w') => HF.out.c 2 rfl w' (HG0.out.trans h)
  clear lx3; have lx3 := fun w' (h : Gr _ w') => HF.out.c 3 rfl w' (HG0.out.trans h)
  simp only [Act.put, lA, lB, lC]
  refine wpEarly_callL rfl (by rfl) Tryz.call185 (fun w' hw => pgreatest_any (la1) (la2) (lc1) (lc2) fr1 fr2 (gx10) _ (BX10.out.gr hw) (r_fr) (h_fr.out) (h1_fr.out) (h2_fr.out) om om om om) (by rfl) ?_
  simp only [Act.put, lA, lB, lC]
  refine wpEarly_use rfl (by rfl) (fun gx8 vv8 hg0 yx8 bx8 => ?_)
  clear yx8
  replace HG0 := Lib.hid (HG0.out.trans hg0)
  have HGS := Lib.hid hg0; clear hg0
  replace BX6 := Lib.hid (BX6.out.gr HGS.out)
  replace BX7 := Lib.hid (BX7.out.gr HGS.out)
  replace BX10 := Lib.hid (BX10.out.gr HGS.out)
  clear HGS
  have BX8 := Lib.hid bx8; clear bx8
  clear lx0; have lx0 := fun w' (h : Gr _ w') => HF.out.c 0 rfl w' (HG0.out.trans h)
  clear lx1; have lx1 := fun w' (h : Gr _ w') => HF.out.c 1 rfl w' (HG0.out.trans h)
  clear lx2; have lx2 := fun w' (h : Gr _ w') => HF.out.c 2 rfl w' (HG0.out.trans h)
  clear lx3; have lx3 := fun w' (h : Gr _ w') => HF.out.c 3 rfl w' (HG0.out.trans h)
  simp only [Act.put, lA, lB, lC]
  refine wpEarly_callL rfl (by rfl) Tryz.call185 (fun w' hw => pgreatest_any (a1) (a2) (b1) (b2) ga1 ga2 (gx8) _ (BX8.out.gr hw) (r_ga) (h_ga.out) (h1_ga.out) (h2_ga.out) om om om om) (by rfl) ?_
  simp only [Act.put, lA, lB, lC]
  refine wpEarly_use rfl (by rfl) (fun gx9 vv9 hg0 yx9 bx9 => ?_)
  clear yx9
  replace HG0 := Lib.hid (HG0.out.trans hg0)
  have HGS := Lib.hid hg0; clear hg0
  replace BX6 := Lib.hid (BX6.out.gr HGS.out)
  replace BX7 := Lib.hid (BX7.out.gr HGS.out)
  replace BX10 := Lib.hid (BX10.out.gr HGS.out)
  replace BX8 := Lib.hid (BX8.out.gr HGS.out)
  clear HGS
  have BX9 := Lib.hid bx9; clear bx9
  clear lx0; have lx0 := fun w' (h : Gr _ w') => HF.out.c 0 rfl w' (HG0.out.trans h)
  clear lx1; have lx1 := fun w' (h : Gr _ w') => HF.out.c 1 rfl w' (HG0.out.trans h)
  clear lx2; have lx2 := fun w' (h : Gr _ w') => HF.out.c 2 rfl w' (HG0.out.trans h)
  clear lx3; have lx3 := fun w' (h : Gr _ w') => HF.out.c 3 rfl w' (HG0.out.trans h)
  simp only [Act.put, lA, lB, lC]
  refine wpEarly_callL rfl (by rfl) Tryz.call185 (fun w' hw => pgreatest_any (c1) (c2) (d1) (d2) gc1 gc2 (gx9) _ (BX9.out.gr hw) (r_gc) (h_gc.out) (h1_gc.out) (h2_gc.out) om om om om) (by rfl) ?_
  simp only [Act.put, lA, lB, lC]
  refine wpEarly_mk rfl (by rfl) (fun w' => ?_) ?_
  · go_simp
  refine wpEarly_use rfl (by rfl) (fun gx11 vv11 hg0 yx11 bx11 => ?_)
  clear yx11
  replace HG0 := Lib.hid (HG0.out.trans hg0)
  have HGS := Lib.hid hg0; clear hg0
  replace BX6 := Lib.hid (BX6.out.gr HGS.out)
  replace BX7 := Lib.hid (BX7.out.gr HGS.out)
  replace BX10 := Lib.hid (BX10.out.gr HGS.out)
  replace BX8 := Lib.hid (BX8.out.gr HGS.out)
  replace BX9 := Lib.hid (BX9.out.gr HGS.out)
  clear HGS
  have BX11 := Lib.hid bx11; clear bx11
  clear lx0; have lx0 := fun w' (h : Gr _ w') => HF.out.c 0 rfl w' (HG0.out.trans h)
  clear lx1; have lx1 := fun w' (h : Gr _ w') => HF.out.c 1 rfl w' (HG0.out.trans h)
  clear lx2; have lx2 := fun w' (h : Gr _ w') => HF.out.c 2 rfl w' (HG0.out.trans h)
  clear lx3; have lx3 := fun w' (h : Gr _ w') => HF.out.c 3 rfl w' (HG0.out.trans h)
  simp only [Act.put, lA, lB, lC]
  refine wpEarly_callL rfl (by rfl) Tryz.call186 (fun w' hw => pleast_any (ga1) (ga2) (gc1) (gc2) to1 to2 (gx11) _ (BX11.out.gr hw) (r_to) (h_to.out) (h1_to.out) (h2_to.out) om om om om) (by rfl) ?_
  simp only [Act.put, lA, lB, lC]
  refine wpEarly_nil (hT.out _ _ ?_)
  intro G vw1 hg hf
  simp only [puts, Act.put, lA, lB, lC, lD, lE, ↓reduceIte, Nat.reduceEqDiff]
  have HG := Lib.hid (HF.out.fr (HG0.out.trans hg) hf (zs := [(#[.int .u64 0, .string ⟨#[]⟩, .bool false, .int .u64 0, .string ⟨#[]⟩, .int .u64 0, .string ⟨#[]⟩, .bool false, .int .u64 0, .string ⟨#[]⟩], 38), (#[.int .u64 0, .string ⟨#[]⟩, .bool false, .int .u64 0, .string ⟨#[]⟩, .int .u64 0, .string ⟨#[]⟩, .bool false, .int .u64 0, .string ⟨#[]⟩], 38)]) rfl (by decide) (by decide))
  simp only [zq1_, zq2_, zq3_, zq4_, lF, lG] at HG
  clear hT T HF hg hf HG0 BX6 BX7 BX10 BX8 BX9 BX11 lx0 lx1 lx2 lx3
  generalize G 20 = gx12 at *
  generalize G 21 = gx13 at *
  have lx12 := HG.out.c 5 rfl; have fx12 := HG.out.f 5 rfl
  have lx13 := HG.out.c 6 rfl; have fx13 := HG.out.f 6 rfl
  have r0 := Gr.refl vw1
  obtain ⟨d12_13, d13_12⟩ := HG.out.ne 5 6 rfl rfl (by decide)
  go_wp2
  refine kO hK ?_; clear hK K
  clear r0 lx12 fx12 lx13 fx13 d12_13 d13_12
  refine fH (((((((((((((((HG.out).put2 5 0 rfl).put2 5 2 rfl).put2 5 4 rfl).put2 5 6 rfl).put2 5 8 rfl).put2 6 0 rfl).put2 6 2 rfl).put2 6 4 rfl).put2 6 6 rfl).put2 6 8 rfl).er 3).er 2).er 1).er 0) fun Wx1 HF => ?_
  clear HG
  refine wp_seq ?_
  refine wp_block ?_
  have lx12 := HF.out.c 1 rfl
  have lx13 := HF.out.c 2 rfl
  refine kS fun K hK => ?_
  refine sq 4 [(true, 0), (true, 1), (true, 2), (true, 3)] fun T hT => ?_
  iterate 2 refine tk ?_
  refine ck Tryz.call187 (fun w' hw => pless_any (to1) (to2) (fr1) (fr2) true _ (hl.out) om om om om) ?_
  refine tk ?_
  refine nlS hT HF fun vw2 HG => ?_
  clear hT T HF lx12 lx13
  go_wp2
  refine kO hK ?_; clear hK K
  have HF := HG; clear HG
  refine wp_cond_true (by rfl) ?_
  refine kS fun K hK => ?_
  refine sq 2 [(true, 0), (true, 1)] fun T hT => ?_
  iterate 2 refine tk ?_
  refine nlS hT HF fun vw3 HG => ?_
  clear hT T HF
  have lx4 := HG.out.c 0 rfl; have fx4 := HG.out.f 0 rfl
  have r0 := Gr.refl vw3
  go_wp2
  refine kO hK ?_; clear hK K
  clear r0 lx4 fx4
  refine fH (((((((HG.out).put2 0 0 rfl).put2 0 2 rfl).put2 0 4 rfl).put2 0 6 rfl).put2 0 8 rfl).er 2) fun Wx3 HF => ?_
  clear HG
  refine wp_ret ?_
  try simp only [Exit.then, Exit.inBlock]
  have lx4 := HF.out.c 0 rfl
  have r0 := Gr.refl Wx3
  exact bodyPost_ret (v := .tuple #[.int .i64 0, (.agg #[.int .u64 0, .string ⟨#[]⟩, .bool false, .int .u64 0, .string ⟨#[]⟩, .int .u64 0, .string ⟨#[]⟩, .bool false, .int .u64 0, .string ⟨#[]⟩])]) (by simp [results, Tryz.results77, go_sem, lx4 _ r0]) rfl ⟨rfl, HF.out.1⟩
set_option maxHeartbeats 4000000 in
theorem ppiece_one (a1 a2 b1 b2 c1 c2 d1 d2 la1 la2 lc1 lc2 fr1 fr2 ga1 ga2 gc1 gc2 to1 to2 : Rat) (r_la r_lc r_fr r_ga r_gc r_to : Bool) (w : World) (h_la : Hid (plt b1 b2 a1 a2 = r_la)) (h1_la : Hid ((if r_la then b1 else a1) = la1)) (h2_la : Hid ((if r_la then b2 else a2) = la2)) (h_lc : Hid (plt d1 d2 c1 c2 = r_lc)) (h1_lc : Hid ((if r_lc then d1 else c1) = lc1)) (h2_lc : Hid ((if r_lc then d2 else c2) = lc2)) (h_fr : Hid (plt la1 la2 lc1 lc2 = r_fr)) (h1_fr : Hid ((if r_fr then lc1 else la1) = fr1)) (h2_fr : Hid ((if r_fr then lc2 else la2) = fr2)) (h_ga : Hid (plt a1 a2 b1 b2 = r_ga)) (h1_ga : Hid ((if r_ga then b1 else a1) = ga1)) (h2_ga : Hid ((if r_ga then b2 else a2) = ga2)) (h_gc : Hid (plt c1 c2 d1 d2 = r_gc)) (h1_gc : Hid ((if r_gc then d1 else c1) = gc1)) (h2_gc : Hid ((if r_gc then d2 else c2) = gc2)) (h_to : Hid (plt gc1 gc2 ga1 ga2 = r_to)) (h1_to : Hid ((if r_to then gc1 else ga1) = to1)) (h2_to : Hid ((if r_to then gc2 else ga2) = to2)) (hl : Hid (plt to1 to2 fr1 fr2 = false)) (he : (decide (fr1 = to1) && decide (fr2 = to2)) = true) (hs_a1 : sz a1 ≤ 100000000) (hs_a2 : sz a2 ≤ 100000000) (hs_b1 : sz b1 ≤ 100000000) (hs_b2 : sz b2 ≤ 100000000) (hs_c1 : sz c1 ≤ 100000000) (hs_c2 : sz c2 ≤ 100000000) (hs_d1 : sz d1 ≤ 100000000) (hs_d2 : sz d2 ≤ 100000000) (hs_la1 : sz la1 ≤ 100000000) (hs_la2 : sz la2 ≤ 100000000) (hs_lc1 : sz lc1 ≤ 100000000) (hs_lc2 : sz lc2 ≤ 100000000) (hs_fr1 : sz fr1 ≤ 100000000) (hs_fr2 : sz fr2 ≤ 100000000) (hs_ga1 : sz ga1 ≤ 100000000) (hs_ga2 : sz ga2 ≤ 100000000) (hs_gc1 : sz gc1 ≤ 100000000) (hs_gc2 : sz gc2 ≤ 100000000) (hs_to1 : sz to1 ≤ 100000000) (hs_to2 : sz to2 ≤ 100000000) :
    Calls Tryz.prog 77 #[(Value.agg #[.int .u64 (lo a1.num.natAbs), .string (bg a1.num.natAbs), .bool (decide (a1.num < 0)), .int .u64 (lo (a1.den - 1)), .string (bg (a1.den - 1)), .int .u64 (lo a2.num.natAbs), .string (bg a2.num.natAbs), .bool (decide (a2.num < 0)), .int .u64 (lo (a2.den - 1)), .string (bg (a2.den - 1))]), (Value.agg #[.int .u64 (lo b1.num.natAbs), .string (bg b1.num.natAbs), .bool (decide (b1.num < 0)), .int .u64 (lo (b1.den - 1)), .string (bg (b1.den - 1)), .int .u64 (lo b2.num.natAbs), .string (bg b2.num.natAbs), .bool (decide (b2.num < 0)), .int .u64 (lo (b2.den - 1)), .string (bg (b2.den - 1))]), (Value.agg #[.int .u64 (lo c1.num.natAbs), .string (bg c1.num.natAbs), .bool (decide (c1.num < 0)), .int .u64 (lo (c1.den - 1)), .string (bg (c1.den - 1)), .int .u64 (lo c2.num.natAbs), .string (bg c2.num.natAbs), .bool (decide (c2.num < 0)), .int .u64 (lo (c2.den - 1)), .string (bg (c2.den - 1))]), (Value.agg #[.int .u64 (lo d1.num.natAbs), .string (bg d1.num.natAbs), .bool (decide (d1.num < 0)), .int .u64 (lo (d1.den - 1)), .string (bg (d1.den - 1)), .int .u64 (lo d2.num.natAbs), .string (bg d2.num.natAbs), .bool (decide (d2.num < 0)), .int .u64 (lo (d2.den - 1)), .string (bg (d2.den - 1))])] w fun e w' => e = .returned (.tuple #[.int .i64 1, (.agg #[.int .u64 (lo fr1.num.natAbs), .string (bg fr1.num.natAbs), .bool (decide (fr1.num < 0)), .int .u64 (lo (fr1.den - 1)), .string (bg (fr1.den - 1)), .int .u64 (lo fr2.num.natAbs), .string (bg fr2.num.natAbs), .bool (decide (fr2.num < 0)), .int .u64 (lo (fr2.den - 1)), .string (bg (fr2.den - 1))])]) ∧ Below w.heap.size w w' := by
  go_enter Tryz.func77, Tryz.ntmps77
  have HF := Lib.hid (hp0 w)
  refine kS fun K hK => ?_
  refine wp_region_lit ?_
  go_wp2
  refine kO hK ?_; clear hK K
  refine fH ((((((HF.out).aL (w.heap.size)).aL (w.heap.size + 1)).aL (w.heap.size + 1 + 1)).aL (w.heap.size + 1 + 1 + 1)).aL (w.heap.size + 1 + 1 + 1 + 1)) fun Wx0 HG => ?_
  clear HF; have HF := HG; clear HG
  generalize w.heap.size + 1 + 1 + 1 + 1 = gx4 at *
  generalize w.heap.size + 1 + 1 + 1 = gx3 at *
  generalize w.heap.size + 1 + 1 = gx2 at *
  generalize w.heap.size + 1 = gx1 at *
  have lx0 := HF.out.c 0 rfl
  have lx1 := HF.out.c 1 rfl
  have lx2 := HF.out.c 2 rfl
  have lx3 := HF.out.c 3 rfl
  refine kS fun K hK => ?_
  have HG0 : Hid (Gr Wx0 Wx0) := Lib.hid (Gr.refl _)
  refine wp_region_early 22 [20, 21] [] (fun i => if i = 20 then 10 else 11) (fun i => if i = 20 then .cells #[.int .u64 0, .string ⟨#[]⟩, .bool false, .int .u64 0, .string ⟨#[]⟩, .int .u64 0, .string ⟨#[]⟩, .bool false, .int .u64 0, .string ⟨#[]⟩] 38 else .cells #[.int .u64 0, .string ⟨#[]⟩, .bool false, .int .u64 0, .string ⟨#[]⟩, .int .u64 0, .string ⟨#[]⟩, .bool false, .int .u64 0, .string ⟨#[]⟩] 38) (fun i => if i = 2 then (1, #[.int .u64 (lo b1.num.natAbs), .string (bg b1.num.natAbs), .bool (decide (b1.num < 0)), .int .u64 (lo (b1.den - 1)), .string (bg (b1.den - 1)), .int .u64 (lo b2.num.natAbs), .string (bg b2.num.natAbs), .bool (decide (b2.num < 0)), .int .u64 (lo (b2.den - 1)), .string (bg (b2.den - 1))], 38) else if i = 6 then (1, #[.int .u64 (lo d1.num.natAbs), .string (bg d1.num.natAbs), .bool (decide (d1.num < 0)), .int .u64 (lo (d1.den - 1)), .string (bg (d1.den - 1)), .int .u64 (lo d2.num.natAbs), .string (bg d2.num.natAbs), .bool (decide (d2.num < 0)), .int .u64 (lo (d2.den - 1)), .string (bg (d2.den - 1))], 38) else if i = 8 then (1, #[.int .u64 (lo lc1.num.natAbs), .string (bg lc1.num.natAbs), .bool (decide (lc1.num < 0)), .int .u64 (lo (lc1.den - 1)), .string (bg (lc1.den - 1)), .int .u64 (lo lc2.num.natAbs), .string (bg lc2.num.natAbs), .bool (decide (lc2.num < 0)), .int .u64 (lo (lc2.den - 1)), .string (bg (lc2.den - 1))], 38) else if i = 12 then (1, #[.int .u64 (lo b1.num.natAbs), .string (bg b1.num.natAbs), .bool (decide (b1.num < 0)), .int .u64 (lo (b1.den - 1)), .string (bg (b1.den - 1)), .int .u64 (lo b2.num.natAbs), .string (bg b2.num.natAbs), .bool (decide (b2.num < 0)), .int .u64 (lo (b2.den - 1)), .string (bg (b2.den - 1))], 38) else if i = 16 then (1, #[.int .u64 (lo d1.num.natAbs), .string (bg d1.num.natAbs), .bool (decide (d1.num < 0)), .int .u64 (lo (d1.den - 1)), .string (bg (d1.den - 1)), .int .u64 (lo d2.num.natAbs), .string (bg d2.num.natAbs), .bool (decide (d2.num < 0)), .int .u64 (lo (d2.den - 1)), .string (bg (d2.den - 1))], 38) else (1, #[.int .u64 (lo gc1.num.natAbs), .string (bg gc1.num.natAbs), .bool (decide (gc1.num < 0)), .int .u64 (lo (gc1.den - 1)), .string (bg (gc1.den - 1)), .int .u64 (lo gc2.num.natAbs), .string (bg gc2.num.natAbs), .bool (decide (gc2.num < 0)), .int .u64 (lo (gc2.den - 1)), .string (bg (gc2.den - 1))], 38)) [(0, 0), (0, 1), (1, 2), (0, 4), (0, 5), (1, 6), (0, 10), (0, 11), (1, 12), (0, 14), (0, 15), (1, 16), (2, 2), (0, 3), (2, 6), (0, 7), (1, 8), (2, 8), (0, 9), (2, 12), (0, 13), (2, 16), (0, 17), (1, 18), (2, 18), (0, 19)] (by kernel_rfl) (by kernel_rfl) (by intro i hi; simp only [List.mem_cons, List.not_mem_nil, or_false] at hi; rcases hi with rfl | rfl <;> exact ⟨_, rfl, rfl, rfl, by simp, fun ρ w => by kernel_rfl⟩) (fun i hi => by cases hi) (fun _ _ _ _ _ h => h) (fun T hT => ?_)
  iterate 2 (refine wpEarly_takeL (v := ?_) rfl (by rfl) (fun w' hw => ?_) ?_; rotate_left; go_simp; with_reducible rfl; simp only [Act.put, lA, lB, lC])
  refine wpEarly_mk rfl (by rfl) (fun w' => ?_) ?_
  · go_simp
  iterate 2 (refine wpEarly_takeL (v := ?_) rfl (by rfl) (fun w' hw => ?_) ?_; rotate_left; go_simp; with_reducible rfl; simp only [Act.put, lA, lB, lC])
  refine wpEarly_mk rfl (by rfl) (fun w' => ?_) ?_
  · go_simp
  iterate 2 (refine wpEarly_takeL (v := ?_) rfl (by rfl) (fun w' hw => ?_) ?_; rotate_left; go_simp; with_reducible rfl; simp only [Act.put, lA, lB, lC])
  refine wpEarly_mk rfl (by rfl) (fun w' => ?_) ?_
  · go_simp
  iterate 2 (refine wpEarly_takeL (v := ?_) rfl (by rfl) (fun w' hw => ?_) ?_; rotate_left; go_simp; with_reducible rfl; simp only [Act.put, lA, lB, lC])
  refine wpEarly_mk rfl (by rfl) (fun w' => ?_) ?_
  · go_simp
  refine wpEarly_use rfl (by rfl) (fun gx6 vv6 hg0 yx6 bx6 => ?_)
  clear yx6
  replace HG0 := Lib.hid (HG0.out.trans hg0)
  have HGS := Lib.hid hg0; clear hg0
  clear HGS
  have BX6 := Lib.hid bx6; clear bx6
  clear lx0; have lx0 := fun w' (h : Gr _ w') => HF.out.c 0 rfl w' (HG0.out.trans h)
  clear lx1; have lx1 := fun w' (h : Gr _ w') => HF.out.c 1 rfl w' (HG0.out.trans h)
  clear lx2; have lx2 := fun w' (h : Gr _ w') => HF.out.c 2 rfl w' (HG0.out.trans h)
  clear lx3; have lx3 := fun w' (h : Gr _ w') => HF.out.c 3 rfl w' (HG0.out.trans h)
  simp only [Act.put, lA, lB, lC]
  refine wpEarly_callL rfl (by rfl) Tryz.call186 (fun w' hw => pleast_any (a1) (a2) (b1) (b2) la1 la2 (gx6) _ (BX6.out.gr hw) (r_la) (h_la.out) (h1_la.out) (h2_la.out) om om om om) (by rfl) ?_
  simp only [Act.put, lA, lB, lC]
  refine wpEarly_use rfl (by rfl) (fun gx7 vv7 hg0 yx7 bx7 => ?_)
  clear yx7
  replace HG0 := Lib.hid (HG0.out.trans hg0)
  have HGS := Lib.hid hg0; clear hg0
  replace BX6 := Lib.hid (BX6.out.gr HGS.out)
  clear HGS
  have BX7 := Lib.hid bx7; clear bx7
  clear lx0; have lx0 := fun w' (h : Gr _ w') => HF.out.c 0 rfl w' (HG0.out.trans h)
  clear lx1; have lx1 := fun w' (h : Gr _ w') => HF.out.c 1 rfl w' (HG0.out.trans h)
  clear lx2; have lx2 := fun w' (h : Gr _ w') => HF.out.c 2 rfl w' (HG0.out.trans h)
  clear lx3; have lx3 := fun w' (h : Gr _ w') => HF.out.c 3 rfl w' (HG0.out.trans h)
  simp only [Act.put, lA, lB, lC]
  refine wpEarly_callL rfl (by rfl) Tryz.call186 (fun w' hw => pleast_any (c1) (c2) (d1) (d2) lc1 lc2 (gx7) _ (BX7.out.gr hw) (r_lc) (h_lc.out) (h1_lc.out) (h2_lc.out) om om om om) (by rfl) ?_
  simp only [Act.put, lA, lB, lC]
  refine wpEarly_mk rfl (by rfl) (fun w' => ?_) ?_
  · go_simp
  refine wpEarly_use rfl (by rfl) (fun gx10 vv10 hg0 yx10 bx10 => ?_)
  clear yx10
  replace HG0 := Lib.hid (HG0.out.trans hg0)
  have HGS := Lib.hid hg0; clear hg0
  replace BX6 := Lib.hid (BX6.out.gr HGS.out)
  replace BX7 := Lib.hid (BX7.out.gr HGS.out)
  clear HGS
  have BX10 := Lib.hid bx10; clear bx10
  clear lx0; have lx0 := fun w' (h : Gr _ w') => HF.out.c 0 rfl w' (HG0.out.trans h)
  clear lx1; have lx1 := fun w' (h : Gr _ w') => HF.out.c 1 rfl w' (HG0.out.trans h)
  clear lx2; have lx2 := fun w' (h : Gr _ w') => HF.out.c 2 rfl w' (HG0.out.trans h)
  clear lx3; have lx3 := fun w' (h : Gr _ w') => HF.out.c 3 rfl w' (HG0.out.trans h)
  simp only [Act.put, lA, lB, lC]
  refine wpEarly_callL rfl (by rfl) Tryz.call185 (fun w' hw => pgreatest_any (la1) (la2) (lc1) (lc2) fr1 fr2 (gx10) _ (BX10.out.gr hw) (r_fr) (h_fr.out) (h1_fr.out) (h2_fr.out) om om om om) (by rfl) ?_
  simp only [Act.put, lA, lB, lC]
  refine wpEarly_use rfl (by rfl) (fun gx8 vv8 hg0 yx8 bx8 => ?_)
  clear yx8
  replace HG0 := Lib.hid (HG0.out.trans hg0)
  have HGS := Lib.hid hg0; clear hg0
  replace BX6 := Lib.hid (BX6.out.gr HGS.out)
  replace BX7 := Lib.hid (BX7.out.gr HGS.out)
  replace BX10 := Lib.hid (BX10.out.gr HGS.out)
  clear HGS
  have BX8 := Lib.hid bx8; clear bx8
  clear lx0; have lx0 := fun w' (h : Gr _ w') => HF.out.c 0 rfl w' (HG0.out.trans h)
  clear lx1; have lx1 := fun w' (h : Gr _ w') => HF.out.c 1 rfl w' (HG0.out.trans h)
  clear lx2; have lx2 := fun w' (h : Gr _ w') => HF.out.c 2 rfl w' (HG0.out.trans h)
  clear lx3; have lx3 := fun w' (h : Gr _ w') => HF.out.c 3 rfl w' (HG0.out.trans h)
  simp only [Act.put, lA, lB, lC]
  refine wpEarly_callL rfl (by rfl) Tryz.call185 (fun w' hw => pgreatest_any (a1) (a2) (b1) (b2) ga1 ga2 (gx8) _ (BX8.out.gr hw) (r_ga) (h_ga.out) (h1_ga.out) (h2_ga.out) om om om om) (by rfl) ?_
  simp only [Act.put, lA, lB, lC]
  refine wpEarly_use rfl (by rfl) (fun gx9 vv9 hg0 yx9 bx9 => ?_)
  clear yx9
  replace HG0 := Lib.hid (HG0.out.trans hg0)
  have HGS := Lib.hid hg0; clear hg0
  replace BX6 := Lib.hid (BX6.out.gr HGS.out)
  replace BX7 := Lib.hid (BX7.out.gr HGS.out)
  replace BX10 := Lib.hid (BX10.out.gr HGS.out)
  replace BX8 := Lib.hid (BX8.out.gr HGS.out)
  clear HGS
  have BX9 := Lib.hid bx9; clear bx9
  clear lx0; have lx0 := fun w' (h : Gr _ w') => HF.out.c 0 rfl w' (HG0.out.trans h)
  clear lx1; have lx1 := fun w' (h : Gr _ w') => HF.out.c 1 rfl w' (HG0.out.trans h)
  clear lx2; have lx2 := fun w' (h : Gr _ w') => HF.out.c 2 rfl w' (HG0.out.trans h)
  clear lx3; have lx3 := fun w' (h : Gr _ w') => HF.out.c 3 rfl w' (HG0.out.trans h)
  simp only [Act.put, lA, lB, lC]
  refine wpEarly_callL rfl (by rfl) Tryz.call185 (fun w' hw => pgreatest_any (c1) (c2) (d1) (d2) gc1 gc2 (gx9) _ (BX9.out.gr hw) (r_gc) (h_gc.out) (h1_gc.out) (h2_gc.out) om om om om) (by rfl) ?_
  simp only [Act.put, lA, lB, lC]
  refine wpEarly_mk rfl (by rfl) (fun w' => ?_) ?_
  · go_simp
  refine wpEarly_use rfl (by rfl) (fun gx11 vv11 hg0 yx11 bx11 => ?_)
  clear yx11
  replace HG0 := Lib.hid (HG0.out.trans hg0)
  have HGS := Lib.hid hg0; clear hg0
  replace BX6 := Lib.hid (BX6.out.gr HGS.out)
  replace BX7 := Lib.hid (BX7.out.gr HGS.out)
  replace BX10 := Lib.hid (BX10.out.gr HGS.out)
  replace BX8 := Lib.hid (BX8.out.gr HGS.out)
  replace BX9 := Lib.hid (BX9.out.gr HGS.out)
  clear HGS
  have BX11 := Lib.hid bx11; clear bx11
  clear lx0; have lx0 := fun w' (h : Gr _ w') => HF.out.c 0 rfl w' (HG0.out.trans h)
  clear lx1; have lx1 := fun w' (h : Gr _ w') => HF.out.c 1 rfl w' (HG0.out.trans h)
  clear lx2; have lx2 := fun w' (h : Gr _ w') => HF.out.c 2 rfl w' (HG0.out.trans h)
  clear lx3; have lx3 := fun w' (h : Gr _ w') => HF.out.c 3 rfl w' (HG0.out.trans h)
  simp only [Act.put, lA, lB, lC]
  refine wpEarly_callL rfl (by rfl) Tryz.call186 (fun w' hw => pleast_any (ga1) (ga2) (gc1) (gc2) to1 to2 (gx11) _ (BX11.out.gr hw) (r_to) (h_to.out) (h1_to.out) (h2_to.out) om om om om) (by rfl) ?_
  simp only [Act.put, lA, lB, lC]
  refine wpEarly_nil (hT.out _ _ ?_)
  intro G vw1 hg hf
  simp only [puts, Act.put, lA, lB, lC, lD, lE, ↓reduceIte, Nat.reduceEqDiff]
  have HG := Lib.hid (HF.out.fr (HG0.out.trans hg) hf (zs := [(#[.int .u64 0, .string ⟨#[]⟩, .bool false, .int .u64 0, .string ⟨#[]⟩, .int .u64 0, .string ⟨#[]⟩, .bool false, .int .u64 0, .string ⟨#[]⟩], 38), (#[.int .u64 0, .string ⟨#[]⟩, .bool false, .int .u64 0, .string ⟨#[]⟩, .int .u64 0, .string ⟨#[]⟩, .bool false, .int .u64 0, .string ⟨#[]⟩], 38)]) rfl (by decide) (by decide))
  simp only [zq1_, zq2_, zq3_, zq4_, lF, lG] at HG
  clear hT T HF hg hf HG0 BX6 BX7 BX10 BX8 BX9 BX11 lx0 lx1 lx2 lx3
  generalize G 20 = gx12 at *
  generalize G 21 = gx13 at *
  have lx12 := HG.out.c 5 rfl; have fx12 := HG.out.f 5 rfl
  have lx13 := HG.out.c 6 rfl; have fx13 := HG.out.f 6 rfl
  have r0 := Gr.refl vw1
  obtain ⟨d12_13, d13_12⟩ := HG.out.ne 5 6 rfl rfl (by decide)
  go_wp2
  refine kO hK ?_; clear hK K
  clear r0 lx12 fx12 lx13 fx13 d12_13 d13_12
  refine fH (((((((((((((((HG.out).put2 5 0 rfl).put2 5 2 rfl).put2 5 4 rfl).put2 5 6 rfl).put2 5 8 rfl).put2 6 0 rfl).put2 6 2 rfl).put2 6 4 rfl).put2 6 6 rfl).put2 6 8 rfl).er 3).er 2).er 1).er 0) fun Wx1 HF => ?_
  clear HG
  refine wp_seq ?_
  refine wp_block ?_
  have lx12 := HF.out.c 1 rfl
  have lx13 := HF.out.c 2 rfl
  refine kS fun K hK => ?_
  refine sq 4 [(true, 0), (true, 1), (true, 2), (true, 3)] fun T hT => ?_
  iterate 2 refine tk ?_
  refine ck Tryz.call187 (fun w' hw => pless_any (to1) (to2) (fr1) (fr2) false _ (hl.out) om om om om) ?_
  refine tk ?_
  refine nlS hT HF fun vw2 HG => ?_
  clear hT T HF lx12 lx13
  go_wp2
  refine kO hK ?_; clear hK K
  have HF := HG; clear HG
  refine wp_cond_false (by rfl) ?_
  have lx12 := HF.out.c 1 rfl
  have lx13 := HF.out.c 2 rfl
  refine kS fun K hK => ?_
  refine sq 4 [(true, 0), (true, 1), (true, 2), (true, 3)] fun T hT => ?_
  iterate 4 refine tk ?_
  refine nlS hT HF fun vw3 HG => ?_
  clear hT T HF lx12 lx13
  go_wp2
  refine kO hK ?_; clear hK K
  refine fH ((HG.out).er 2) fun Wx4 HF => ?_
  clear HG
  refine wp_cond_true (by rfl) ?_
  have lx12 := HF.out.c 1 rfl
  refine kS fun K hK => ?_
  refine pd 2 [(true, 0), (true, 1)] fun T hT => ?_
  iterate 2 refine tk ?_
  refine nlD hT HF fun vw4 HG => ?_
  clear hT T HF lx12
  have lx4 := HG.out.c 0 rfl; have fx4 := HG.out.f 0 rfl
  have r0 := Gr.refl vw4
  go_wp2
  refine kO hK ?_; clear hK K
  clear r0 lx4 fx4
  refine fH ((((((HG.out).put2 0 0 rfl).put2 0 2 rfl).put2 0 4 rfl).put2 0 6 rfl).put2 0 8 rfl) fun Wx5 HF => ?_
  clear HG
  refine wp_ret ?_
  try simp only [Exit.then, Exit.inBlock]
  have lx4 := HF.out.c 0 rfl
  have r0 := Gr.refl Wx5
  exact bodyPost_ret (v := .tuple #[.int .i64 1, (.agg #[.int .u64 (lo fr1.num.natAbs), .string (bg fr1.num.natAbs), .bool (decide (fr1.num < 0)), .int .u64 (lo (fr1.den - 1)), .string (bg (fr1.den - 1)), .int .u64 (lo fr2.num.natAbs), .string (bg fr2.num.natAbs), .bool (decide (fr2.num < 0)), .int .u64 (lo (fr2.den - 1)), .string (bg (fr2.den - 1))])]) (by simp [results, Tryz.results77, go_sem, lx4 _ r0]) rfl ⟨rfl, HF.out.1⟩
set_option maxHeartbeats 4000000 in
theorem ppiece_two (a1 a2 b1 b2 c1 c2 d1 d2 la1 la2 lc1 lc2 fr1 fr2 ga1 ga2 gc1 gc2 to1 to2 : Rat) (r_la r_lc r_fr r_ga r_gc r_to : Bool) (w : World) (h_la : Hid (plt b1 b2 a1 a2 = r_la)) (h1_la : Hid ((if r_la then b1 else a1) = la1)) (h2_la : Hid ((if r_la then b2 else a2) = la2)) (h_lc : Hid (plt d1 d2 c1 c2 = r_lc)) (h1_lc : Hid ((if r_lc then d1 else c1) = lc1)) (h2_lc : Hid ((if r_lc then d2 else c2) = lc2)) (h_fr : Hid (plt la1 la2 lc1 lc2 = r_fr)) (h1_fr : Hid ((if r_fr then lc1 else la1) = fr1)) (h2_fr : Hid ((if r_fr then lc2 else la2) = fr2)) (h_ga : Hid (plt a1 a2 b1 b2 = r_ga)) (h1_ga : Hid ((if r_ga then b1 else a1) = ga1)) (h2_ga : Hid ((if r_ga then b2 else a2) = ga2)) (h_gc : Hid (plt c1 c2 d1 d2 = r_gc)) (h1_gc : Hid ((if r_gc then d1 else c1) = gc1)) (h2_gc : Hid ((if r_gc then d2 else c2) = gc2)) (h_to : Hid (plt gc1 gc2 ga1 ga2 = r_to)) (h1_to : Hid ((if r_to then gc1 else ga1) = to1)) (h2_to : Hid ((if r_to then gc2 else ga2) = to2)) (hl : Hid (plt to1 to2 fr1 fr2 = false)) (he : (decide (fr1 = to1) && decide (fr2 = to2)) = false) (hs_a1 : sz a1 ≤ 100000000) (hs_a2 : sz a2 ≤ 100000000) (hs_b1 : sz b1 ≤ 100000000) (hs_b2 : sz b2 ≤ 100000000) (hs_c1 : sz c1 ≤ 100000000) (hs_c2 : sz c2 ≤ 100000000) (hs_d1 : sz d1 ≤ 100000000) (hs_d2 : sz d2 ≤ 100000000) (hs_la1 : sz la1 ≤ 100000000) (hs_la2 : sz la2 ≤ 100000000) (hs_lc1 : sz lc1 ≤ 100000000) (hs_lc2 : sz lc2 ≤ 100000000) (hs_fr1 : sz fr1 ≤ 100000000) (hs_fr2 : sz fr2 ≤ 100000000) (hs_ga1 : sz ga1 ≤ 100000000) (hs_ga2 : sz ga2 ≤ 100000000) (hs_gc1 : sz gc1 ≤ 100000000) (hs_gc2 : sz gc2 ≤ 100000000) (hs_to1 : sz to1 ≤ 100000000) (hs_to2 : sz to2 ≤ 100000000) :
    Calls Tryz.prog 77 #[(Value.agg #[.int .u64 (lo a1.num.natAbs), .string (bg a1.num.natAbs), .bool (decide (a1.num < 0)), .int .u64 (lo (a1.den - 1)), .string (bg (a1.den - 1)), .int .u64 (lo a2.num.natAbs), .string (bg a2.num.natAbs), .bool (decide (a2.num < 0)), .int .u64 (lo (a2.den - 1)), .string (bg (a2.den - 1))]), (Value.agg #[.int .u64 (lo b1.num.natAbs), .string (bg b1.num.natAbs), .bool (decide (b1.num < 0)), .int .u64 (lo (b1.den - 1)), .string (bg (b1.den - 1)), .int .u64 (lo b2.num.natAbs), .string (bg b2.num.natAbs), .bool (decide (b2.num < 0)), .int .u64 (lo (b2.den - 1)), .string (bg (b2.den - 1))]), (Value.agg #[.int .u64 (lo c1.num.natAbs), .string (bg c1.num.natAbs), .bool (decide (c1.num < 0)), .int .u64 (lo (c1.den - 1)), .string (bg (c1.den - 1)), .int .u64 (lo c2.num.natAbs), .string (bg c2.num.natAbs), .bool (decide (c2.num < 0)), .int .u64 (lo (c2.den - 1)), .string (bg (c2.den - 1))]), (Value.agg #[.int .u64 (lo d1.num.natAbs), .string (bg d1.num.natAbs), .bool (decide (d1.num < 0)), .int .u64 (lo (d1.den - 1)), .string (bg (d1.den - 1)), .int .u64 (lo d2.num.natAbs), .string (bg d2.num.natAbs), .bool (decide (d2.num < 0)), .int .u64 (lo (d2.den - 1)), .string (bg (d2.den - 1))])] w fun e w' => e = .returned (.tuple #[.int .i64 2, (.agg #[.int .u64 (lo fr1.num.natAbs), .string (bg fr1.num.natAbs), .bool (decide (fr1.num < 0)), .int .u64 (lo (fr1.den - 1)), .string (bg (fr1.den - 1)), .int .u64 (lo fr2.num.natAbs), .string (bg fr2.num.natAbs), .bool (decide (fr2.num < 0)), .int .u64 (lo (fr2.den - 1)), .string (bg (fr2.den - 1))])]) ∧ Below w.heap.size w w' := by
  go_enter Tryz.func77, Tryz.ntmps77
  have HF := Lib.hid (hp0 w)
  refine kS fun K hK => ?_
  refine wp_region_lit ?_
  go_wp2
  refine kO hK ?_; clear hK K
  refine fH ((((((HF.out).aL (w.heap.size)).aL (w.heap.size + 1)).aL (w.heap.size + 1 + 1)).aL (w.heap.size + 1 + 1 + 1)).aL (w.heap.size + 1 + 1 + 1 + 1)) fun Wx0 HG => ?_
  clear HF; have HF := HG; clear HG
  generalize w.heap.size + 1 + 1 + 1 + 1 = gx4 at *
  generalize w.heap.size + 1 + 1 + 1 = gx3 at *
  generalize w.heap.size + 1 + 1 = gx2 at *
  generalize w.heap.size + 1 = gx1 at *
  have lx0 := HF.out.c 0 rfl
  have lx1 := HF.out.c 1 rfl
  have lx2 := HF.out.c 2 rfl
  have lx3 := HF.out.c 3 rfl
  refine kS fun K hK => ?_
  have HG0 : Hid (Gr Wx0 Wx0) := Lib.hid (Gr.refl _)
  refine wp_region_early 22 [20, 21] [] (fun i => if i = 20 then 10 else 11) (fun i => if i = 20 then .cells #[.int .u64 0, .string ⟨#[]⟩, .bool false, .int .u64 0, .string ⟨#[]⟩, .int .u64 0, .string ⟨#[]⟩, .bool false, .int .u64 0, .string ⟨#[]⟩] 38 else .cells #[.int .u64 0, .string ⟨#[]⟩, .bool false, .int .u64 0, .string ⟨#[]⟩, .int .u64 0, .string ⟨#[]⟩, .bool false, .int .u64 0, .string ⟨#[]⟩] 38) (fun i => if i = 2 then (1, #[.int .u64 (lo b1.num.natAbs), .string (bg b1.num.natAbs), .bool (decide (b1.num < 0)), .int .u64 (lo (b1.den - 1)), .string (bg (b1.den - 1)), .int .u64 (lo b2.num.natAbs), .string (bg b2.num.natAbs), .bool (decide (b2.num < 0)), .int .u64 (lo (b2.den - 1)), .string (bg (b2.den - 1))], 38) else if i = 6 then (1, #[.int .u64 (lo d1.num.natAbs), .string (bg d1.num.natAbs), .bool (decide (d1.num < 0)), .int .u64 (lo (d1.den - 1)), .string (bg (d1.den - 1)), .int .u64 (lo d2.num.natAbs), .string (bg d2.num.natAbs), .bool (decide (d2.num < 0)), .int .u64 (lo (d2.den - 1)), .string (bg (d2.den - 1))], 38) else if i = 8 then (1, #[.int .u64 (lo lc1.num.natAbs), .string (bg lc1.num.natAbs), .bool (decide (lc1.num < 0)), .int .u64 (lo (lc1.den - 1)), .string (bg (lc1.den - 1)), .int .u64 (lo lc2.num.natAbs), .string (bg lc2.num.natAbs), .bool (decide (lc2.num < 0)), .int .u64 (lo (lc2.den - 1)), .string (bg (lc2.den - 1))], 38) else if i = 12 then (1, #[.int .u64 (lo b1.num.natAbs), .string (bg b1.num.natAbs), .bool (decide (b1.num < 0)), .int .u64 (lo (b1.den - 1)), .string (bg (b1.den - 1)), .int .u64 (lo b2.num.natAbs), .string (bg b2.num.natAbs), .bool (decide (b2.num < 0)), .int .u64 (lo (b2.den - 1)), .string (bg (b2.den - 1))], 38) else if i = 16 then (1, #[.int .u64 (lo d1.num.natAbs), .string (bg d1.num.natAbs), .bool (decide (d1.num < 0)), .int .u64 (lo (d1.den - 1)), .string (bg (d1.den - 1)), .int .u64 (lo d2.num.natAbs), .string (bg d2.num.natAbs), .bool (decide (d2.num < 0)), .int .u64 (lo (d2.den - 1)), .string (bg (d2.den - 1))], 38) else (1, #[.int .u64 (lo gc1.num.natAbs), .string (bg gc1.num.natAbs), .bool (decide (gc1.num < 0)), .int .u64 (lo (gc1.den - 1)), .string (bg (gc1.den - 1)), .int .u64 (lo gc2.num.natAbs), .string (bg gc2.num.natAbs), .bool (decide (gc2.num < 0)), .int .u64 (lo (gc2.den - 1)), .string (bg (gc2.den - 1))], 38)) [(0, 0), (0, 1), (1, 2), (0, 4), (0, 5), (1, 6), (0, 10), (0, 11), (1, 12), (0, 14), (0, 15), (1, 16), (2, 2), (0, 3), (2, 6), (0, 7), (1, 8), (2, 8), (0, 9), (2, 12), (0, 13), (2, 16), (0, 17), (1, 18), (2, 18), (0, 19)] (by kernel_rfl) (by kernel_rfl) (by intro i hi; simp only [List.mem_cons, List.not_mem_nil, or_false] at hi; rcases hi with rfl | rfl <;> exact ⟨_, rfl, rfl, rfl, by simp, fun ρ w => by kernel_rfl⟩) (fun i hi => by cases hi) (fun _ _ _ _ _ h => h) (fun T hT => ?_)
  iterate 2 (refine wpEarly_takeL (v := ?_) rfl (by rfl) (fun w' hw => ?_) ?_; rotate_left; go_simp; with_reducible rfl; simp only [Act.put, lA, lB, lC])
  refine wpEarly_mk rfl (by rfl) (fun w' => ?_) ?_
  · go_simp
  iterate 2 (refine wpEarly_takeL (v := ?_) rfl (by rfl) (fun w' hw => ?_) ?_; rotate_left; go_simp; with_reducible rfl; simp only [Act.put, lA, lB, lC])
  refine wpEarly_mk rfl (by rfl) (fun w' => ?_) ?_
  · go_simp
  iterate 2 (refine wpEarly_takeL (v := ?_) rfl (by rfl) (fun w' hw => ?_) ?_; rotate_left; go_simp; with_reducible rfl; simp only [Act.put, lA, lB, lC])
  refine wpEarly_mk rfl (by rfl) (fun w' => ?_) ?_
  · go_simp
  iterate 2 (refine wpEarly_takeL (v := ?_) rfl (by rfl) (fun w' hw => ?_) ?_; rotate_left; go_simp; with_reducible rfl; simp only [Act.put, lA, lB, lC])
  refine wpEarly_mk rfl (by rfl) (fun w' => ?_) ?_
  · go_simp
  refine wpEarly_use rfl (by rfl) (fun gx6 vv6 hg0 yx6 bx6 => ?_)
  clear yx6
  replace HG0 := Lib.hid (HG0.out.trans hg0)
  have HGS := Lib.hid hg0; clear hg0
  clear HGS
  have BX6 := Lib.hid bx6; clear bx6
  clear lx0; have lx0 := fun w' (h : Gr _ w') => HF.out.c 0 rfl w' (HG0.out.trans h)
  clear lx1; have lx1 := fun w' (h : Gr _ w') => HF.out.c 1 rfl w' (HG0.out.trans h)
  clear lx2; have lx2 := fun w' (h : Gr _ w') => HF.out.c 2 rfl w' (HG0.out.trans h)
  clear lx3; have lx3 := fun w' (h : Gr _ w') => HF.out.c 3 rfl w' (HG0.out.trans h)
  simp only [Act.put, lA, lB, lC]
  refine wpEarly_callL rfl (by rfl) Tryz.call186 (fun w' hw => pleast_any (a1) (a2) (b1) (b2) la1 la2 (gx6) _ (BX6.out.gr hw) (r_la) (h_la.out) (h1_la.out) (h2_la.out) om om om om) (by rfl) ?_
  simp only [Act.put, lA, lB, lC]
  refine wpEarly_use rfl (by rfl) (fun gx7 vv7 hg0 yx7 bx7 => ?_)
  clear yx7
  replace HG0 := Lib.hid (HG0.out.trans hg0)
  have HGS := Lib.hid hg0; clear hg0
  replace BX6 := Lib.hid (BX6.out.gr HGS.out)
  clear HGS
  have BX7 := Lib.hid bx7; clear bx7
  clear lx0; have lx0 := fun w' (h : Gr _ w') => HF.out.c 0 rfl w' (HG0.out.trans h)
  clear lx1; have lx1 := fun w' (h : Gr _ w') => HF.out.c 1 rfl w' (HG0.out.trans h)
  clear lx2; have lx2 := fun w' (h : Gr _ w') => HF.out.c 2 rfl w' (HG0.out.trans h)
  clear lx3; have lx3 := fun w' (h : Gr _ w') => HF.out.c 3 rfl w' (HG0.out.trans h)
  simp only [Act.put, lA, lB, lC]
  refine wpEarly_callL rfl (by rfl) Tryz.call186 (fun w' hw => pleast_any (c1) (c2) (d1) (d2) lc1 lc2 (gx7) _ (BX7.out.gr hw) (r_lc) (h_lc.out) (h1_lc.out) (h2_lc.out) om om om om) (by rfl) ?_
  simp only [Act.put, lA, lB, lC]
  refine wpEarly_mk rfl (by rfl) (fun w' => ?_) ?_
  · go_simp
  refine wpEarly_use rfl (by rfl) (fun gx10 vv10 hg0 yx10 bx10 => ?_)
  clear yx10
  replace HG0 := Lib.hid (HG0.out.trans hg0)
  have HGS := Lib.hid hg0; clear hg0
  replace BX6 := Lib.hid (BX6.out.gr HGS.out)
  replace BX7 := Lib.hid (BX7.out.gr HGS.out)
  clear HGS
  have BX10 := Lib.hid bx10; clear bx10
  clear lx0; have lx0 := fun w' (h : Gr _ w') => HF.out.c 0 rfl w' (HG0.out.trans h)
  clear lx1; have lx1 := fun w' (h : Gr _ w') => HF.out.c 1 rfl w' (HG0.out.trans h)
  clear lx2; have lx2 := fun w' (h : Gr _ w') => HF.out.c 2 rfl w' (HG0.out.trans h)
  clear lx3; have lx3 := fun w' (h : Gr _ w') => HF.out.c 3 rfl w' (HG0.out.trans h)
  simp only [Act.put, lA, lB, lC]
  refine wpEarly_callL rfl (by rfl) Tryz.call185 (fun w' hw => pgreatest_any (la1) (la2) (lc1) (lc2) fr1 fr2 (gx10) _ (BX10.out.gr hw) (r_fr) (h_fr.out) (h1_fr.out) (h2_fr.out) om om om om) (by rfl) ?_
  simp only [Act.put, lA, lB, lC]
  refine wpEarly_use rfl (by rfl) (fun gx8 vv8 hg0 yx8 bx8 => ?_)
  clear yx8
  replace HG0 := Lib.hid (HG0.out.trans hg0)
  have HGS := Lib.hid hg0; clear hg0
  replace BX6 := Lib.hid (BX6.out.gr HGS.out)
  replace BX7 := Lib.hid (BX7.out.gr HGS.out)
  replace BX10 := Lib.hid (BX10.out.gr HGS.out)
  clear HGS
  have BX8 := Lib.hid bx8; clear bx8
  clear lx0; have lx0 := fun w' (h : Gr _ w') => HF.out.c 0 rfl w' (HG0.out.trans h)
  clear lx1; have lx1 := fun w' (h : Gr _ w') => HF.out.c 1 rfl w' (HG0.out.trans h)
  clear lx2; have lx2 := fun w' (h : Gr _ w') => HF.out.c 2 rfl w' (HG0.out.trans h)
  clear lx3; have lx3 := fun w' (h : Gr _ w') => HF.out.c 3 rfl w' (HG0.out.trans h)
  simp only [Act.put, lA, lB, lC]
  refine wpEarly_callL rfl (by rfl) Tryz.call185 (fun w' hw => pgreatest_any (a1) (a2) (b1) (b2) ga1 ga2 (gx8) _ (BX8.out.gr hw) (r_ga) (h_ga.out) (h1_ga.out) (h2_ga.out) om om om om) (by rfl) ?_
  simp only [Act.put, lA, lB, lC]
  refine wpEarly_use rfl (by rfl) (fun gx9 vv9 hg0 yx9 bx9 => ?_)
  clear yx9
  replace HG0 := Lib.hid (HG0.out.trans hg0)
  have HGS := Lib.hid hg0; clear hg0
  replace BX6 := Lib.hid (BX6.out.gr HGS.out)
  replace BX7 := Lib.hid (BX7.out.gr HGS.out)
  replace BX10 := Lib.hid (BX10.out.gr HGS.out)
  replace BX8 := Lib.hid (BX8.out.gr HGS.out)
  clear HGS
  have BX9 := Lib.hid bx9; clear bx9
  clear lx0; have lx0 := fun w' (h : Gr _ w') => HF.out.c 0 rfl w' (HG0.out.trans h)
  clear lx1; have lx1 := fun w' (h : Gr _ w') => HF.out.c 1 rfl w' (HG0.out.trans h)
  clear lx2; have lx2 := fun w' (h : Gr _ w') => HF.out.c 2 rfl w' (HG0.out.trans h)
  clear lx3; have lx3 := fun w' (h : Gr _ w') => HF.out.c 3 rfl w' (HG0.out.trans h)
  simp only [Act.put, lA, lB, lC]
  refine wpEarly_callL rfl (by rfl) Tryz.call185 (fun w' hw => pgreatest_any (c1) (c2) (d1) (d2) gc1 gc2 (gx9) _ (BX9.out.gr hw) (r_gc) (h_gc.out) (h1_gc.out) (h2_gc.out) om om om om) (by rfl) ?_
  simp only [Act.put, lA, lB, lC]
  refine wpEarly_mk rfl (by rfl) (fun w' => ?_) ?_
  · go_simp
  refine wpEarly_use rfl (by rfl) (fun gx11 vv11 hg0 yx11 bx11 => ?_)
  clear yx11
  replace HG0 := Lib.hid (HG0.out.trans hg0)
  have HGS := Lib.hid hg0; clear hg0
  replace BX6 := Lib.hid (BX6.out.gr HGS.out)
  replace BX7 := Lib.hid (BX7.out.gr HGS.out)
  replace BX10 := Lib.hid (BX10.out.gr HGS.out)
  replace BX8 := Lib.hid (BX8.out.gr HGS.out)
  replace BX9 := Lib.hid (BX9.out.gr HGS.out)
  clear HGS
  have BX11 := Lib.hid bx11; clear bx11
  clear lx0; have lx0 := fun w' (h : Gr _ w') => HF.out.c 0 rfl w' (HG0.out.trans h)
  clear lx1; have lx1 := fun w' (h : Gr _ w') => HF.out.c 1 rfl w' (HG0.out.trans h)
  clear lx2; have lx2 := fun w' (h : Gr _ w') => HF.out.c 2 rfl w' (HG0.out.trans h)
  clear lx3; have lx3 := fun w' (h : Gr _ w') => HF.out.c 3 rfl w' (HG0.out.trans h)
  simp only [Act.put, lA, lB, lC]
  refine wpEarly_callL rfl (by rfl) Tryz.call186 (fun w' hw => pleast_any (ga1) (ga2) (gc1) (gc2) to1 to2 (gx11) _ (BX11.out.gr hw) (r_to) (h_to.out) (h1_to.out) (h2_to.out) om om om om) (by rfl) ?_
  simp only [Act.put, lA, lB, lC]
  refine wpEarly_nil (hT.out _ _ ?_)
  intro G vw1 hg hf
  simp only [puts, Act.put, lA, lB, lC, lD, lE, ↓reduceIte, Nat.reduceEqDiff]
  have HG := Lib.hid (HF.out.fr (HG0.out.trans hg) hf (zs := [(#[.int .u64 0, .string ⟨#[]⟩, .bool false, .int .u64 0, .string ⟨#[]⟩, .int .u64 0, .string ⟨#[]⟩, .bool false, .int .u64 0, .string ⟨#[]⟩], 38), (#[.int .u64 0, .string ⟨#[]⟩, .bool false, .int .u64 0, .string ⟨#[]⟩, .int .u64 0, .string ⟨#[]⟩, .bool false, .int .u64 0, .string ⟨#[]⟩], 38)]) rfl (by decide) (by decide))
  simp only [zq1_, zq2_, zq3_, zq4_, lF, lG] at HG
  clear hT T HF hg hf HG0 BX6 BX7 BX10 BX8 BX9 BX11 lx0 lx1 lx2 lx3
  generalize G 20 = gx12 at *
  generalize G 21 = gx13 at *
  have lx12 := HG.out.c 5 rfl; have fx12 := HG.out.f 5 rfl
  have lx13 := HG.out.c 6 rfl; have fx13 := HG.out.f 6 rfl
  have r0 := Gr.refl vw1
  obtain ⟨d12_13, d13_12⟩ := HG.out.ne 5 6 rfl rfl (by decide)
  go_wp2
  refine kO hK ?_; clear hK K
  clear r0 lx12 fx12 lx13 fx13 d12_13 d13_12
  refine fH (((((((((((((((HG.out).put2 5 0 rfl).put2 5 2 rfl).put2 5 4 rfl).put2 5 6 rfl).put2 5 8 rfl).put2 6 0 rfl).put2 6 2 rfl).put2 6 4 rfl).put2 6 6 rfl).put2 6 8 rfl).er 3).er 2).er 1).er 0) fun Wx1 HF => ?_
  clear HG
  refine wp_seq ?_
  refine wp_block ?_
  have lx12 := HF.out.c 1 rfl
  have lx13 := HF.out.c 2 rfl
  refine kS fun K hK => ?_
  refine sq 4 [(true, 0), (true, 1), (true, 2), (true, 3)] fun T hT => ?_
  iterate 2 refine tk ?_
  refine ck Tryz.call187 (fun w' hw => pless_any (to1) (to2) (fr1) (fr2) false _ (hl.out) om om om om) ?_
  refine tk ?_
  refine nlS hT HF fun vw2 HG => ?_
  clear hT T HF lx12 lx13
  go_wp2
  refine kO hK ?_; clear hK K
  have HF := HG; clear HG
  refine wp_cond_false (by rfl) ?_
  have lx12 := HF.out.c 1 rfl
  have lx13 := HF.out.c 2 rfl
  refine kS fun K hK => ?_
  refine sq 4 [(true, 0), (true, 1), (true, 2), (true, 3)] fun T hT => ?_
  iterate 4 refine tk ?_
  refine nlS hT HF fun vw3 HG => ?_
  clear hT T HF lx12 lx13
  go_wp2
  refine kO hK ?_; clear hK K
  refine fH ((HG.out).er 2) fun Wx4 HF => ?_
  clear HG
  refine wp_cond_false (by rfl) ?_
  refine wp_skip ?_
  show Code.wp _ _ _ _ _
  have lx12 := HF.out.c 1 rfl
  refine kS fun K hK => ?_
  refine pd 2 [(true, 0), (true, 1)] fun T hT => ?_
  iterate 2 refine tk ?_
  refine nlD hT HF fun vw4 HG => ?_
  clear hT T HF lx12
  have lx4 := HG.out.c 0 rfl; have fx4 := HG.out.f 0 rfl
  have r0 := Gr.refl vw4
  go_wp2
  refine kO hK ?_; clear hK K
  clear r0 lx4 fx4
  refine fH (((((((HG.out).put2 0 0 rfl).put2 0 2 rfl).put2 0 4 rfl).put2 0 6 rfl).put2 0 8 rfl).er 1) fun Wx6 HF => ?_
  clear HG
  refine wp_ret ?_
  try simp only [Exit.then, Exit.inBlock]
  have lx4 := HF.out.c 0 rfl
  have r0 := Gr.refl Wx6
  exact bodyPost_ret (v := .tuple #[.int .i64 2, (.agg #[.int .u64 (lo fr1.num.natAbs), .string (bg fr1.num.natAbs), .bool (decide (fr1.num < 0)), .int .u64 (lo (fr1.den - 1)), .string (bg (fr1.den - 1)), .int .u64 (lo fr2.num.natAbs), .string (bg fr2.num.natAbs), .bool (decide (fr2.num < 0)), .int .u64 (lo (fr2.den - 1)), .string (bg (fr2.den - 1))])]) (by simp [results, Tryz.results77, go_sem, lx4 _ r0]) rfl ⟨rfl, HF.out.1⟩
def pmn (a b : Rat × Rat) : Rat × Rat := if plt b.1 b.2 a.1 a.2 then b else a
def pmx (a b : Rat × Rat) : Rat × Rat := if plt a.1 a.2 b.1 b.2 then b else a
def pieceV (a b c d : Rat × Rat) : Int × (Rat × Rat) :=
  if plt (pmn (pmx a b) (pmx c d)).1 (pmn (pmx a b) (pmx c d)).2 (pmx (pmn a b) (pmn c d)).1 (pmx (pmn a b) (pmn c d)).2 then (0, (0, 0))
  else if pmx (pmn a b) (pmn c d) = pmn (pmx a b) (pmx c d) then (1, pmx (pmn a b) (pmn c d)) else (2, pmx (pmn a b) (pmn c d))
def szp (M : Nat) (a : Rat × Rat) : Prop := sz a.1 ≤ M ∧ sz a.2 ≤ M
theorem szp_pmn {M : Nat} {a b : Rat × Rat} (ha : szp M a) (hb : szp M b) : szp M (pmn a b) := by unfold pmn; split <;> assumption
theorem szp_pmx {M : Nat} {a b : Rat × Rat} (ha : szp M a) (hb : szp M b) : szp M (pmx a b) := by unfold pmx; split <;> assumption
theorem fst_if {r : Bool} {x y : Rat × Rat} : (if r then x.1 else y.1) = (if r then x else y).1 := by cases r <;> rfl
theorem snd_if {r : Bool} {x y : Rat × Rat} : (if r then x.2 else y.2) = (if r then x else y).2 := by cases r <;> rfl
theorem ppiece_any (a b c d : Rat × Rat) (n : Int) (m : Rat × Rat) (w : World) (h : pieceV a b c d = (n, m)) (ha : szp 100000000 a) (hb : szp 100000000 b) (hc : szp 100000000 c) (hd : szp 100000000 d) :
    Calls Tryz.prog 77 #[(Value.agg #[.int .u64 (lo (Int.natAbs ((a.1).num))), .string (bg (Int.natAbs ((a.1).num))), .bool (decide (((a.1).num) < 0)), .int .u64 (lo ((a.1).den - 1)), .string (bg ((a.1).den - 1)), .int .u64 (lo (Int.natAbs ((a.2).num))), .string (bg (Int.natAbs ((a.2).num))), .bool (decide (((a.2).num) < 0)), .int .u64 (lo ((a.2).den - 1)), .string (bg ((a.2).den - 1))]), (Value.agg #[.int .u64 (lo (Int.natAbs ((b.1).num))), .string (bg (Int.natAbs ((b.1).num))), .bool (decide (((b.1).num) < 0)), .int .u64 (lo ((b.1).den - 1)), .string (bg ((b.1).den - 1)), .int .u64 (lo (Int.natAbs ((b.2).num))), .string (bg (Int.natAbs ((b.2).num))), .bool (decide (((b.2).num) < 0)), .int .u64 (lo ((b.2).den - 1)), .string (bg ((b.2).den - 1))]), (Value.agg #[.int .u64 (lo (Int.natAbs ((c.1).num))), .string (bg (Int.natAbs ((c.1).num))), .bool (decide (((c.1).num) < 0)), .int .u64 (lo ((c.1).den - 1)), .string (bg ((c.1).den - 1)), .int .u64 (lo (Int.natAbs ((c.2).num))), .string (bg (Int.natAbs ((c.2).num))), .bool (decide (((c.2).num) < 0)), .int .u64 (lo ((c.2).den - 1)), .string (bg ((c.2).den - 1))]), (Value.agg #[.int .u64 (lo (Int.natAbs ((d.1).num))), .string (bg (Int.natAbs ((d.1).num))), .bool (decide (((d.1).num) < 0)), .int .u64 (lo ((d.1).den - 1)), .string (bg ((d.1).den - 1)), .int .u64 (lo (Int.natAbs ((d.2).num))), .string (bg (Int.natAbs ((d.2).num))), .bool (decide (((d.2).num) < 0)), .int .u64 (lo ((d.2).den - 1)), .string (bg ((d.2).den - 1))])] w fun e w' => e = .returned (.tuple #[.int .i64 n, (.agg #[.int .u64 (lo (Int.natAbs ((m.1).num))), .string (bg (Int.natAbs ((m.1).num))), .bool (decide (((m.1).num) < 0)), .int .u64 (lo ((m.1).den - 1)), .string (bg ((m.1).den - 1)), .int .u64 (lo (Int.natAbs ((m.2).num))), .string (bg (Int.natAbs ((m.2).num))), .bool (decide (((m.2).num) < 0)), .int .u64 (lo ((m.2).den - 1)), .string (bg ((m.2).den - 1))])]) ∧ Below w.heap.size w w' := by
  have h1 := szp_pmn ha hb
  have h2 := szp_pmn hc hd
  have h3 := szp_pmx h1 h2
  have h4 := szp_pmx ha hb
  have h5 := szp_pmx hc hd
  have h6 := szp_pmn h4 h5
  unfold pieceV at h
  cases hl : plt (pmn (pmx a b) (pmx c d)).1 (pmn (pmx a b) (pmx c d)).2 (pmx (pmn a b) (pmn c d)).1 (pmx (pmn a b) (pmn c d)).2
  · rw [hl] at h
    by_cases he : pmx (pmn a b) (pmn c d) = pmn (pmx a b) (pmx c d)
    · have hee := he
      rw [if_pos he] at h
      injection h with e1 e2
      subst e1 e2
      exact ppiece_one a.1 a.2 b.1 b.2 c.1 c.2 d.1 d.2 (pmn a b).1 (pmn a b).2 (pmn c d).1 (pmn c d).2 (pmx (pmn a b) (pmn c d)).1 (pmx (pmn a b) (pmn c d)).2 (pmx a b).1 (pmx a b).2 (pmx c d).1 (pmx c d).2 (pmn (pmx a b) (pmx c d)).1 (pmn (pmx a b) (pmx c d)).2 _ _ _ _ _ _ w
        (Lib.hid rfl) (Lib.hid fst_if) (Lib.hid snd_if) (Lib.hid rfl) (Lib.hid fst_if) (Lib.hid snd_if) (Lib.hid rfl) (Lib.hid fst_if) (Lib.hid snd_if) (Lib.hid rfl) (Lib.hid fst_if) (Lib.hid snd_if) (Lib.hid rfl) (Lib.hid fst_if) (Lib.hid snd_if) (Lib.hid rfl) (Lib.hid fst_if) (Lib.hid snd_if)
        (Lib.hid hl) (by rw [he]; simp) ha.1 ha.2 hb.1 hb.2 hc.1 hc.2 hd.1 hd.2 h1.1 h1.2 h2.1 h2.2 h3.1 h3.2 h4.1 h4.2 h5.1 h5.2 h6.1 h6.2
    · rw [if_neg he] at h
      injection h with e1 e2
      subst e1 e2
      exact ppiece_two a.1 a.2 b.1 b.2 c.1 c.2 d.1 d.2 (pmn a b).1 (pmn a b).2 (pmn c d).1 (pmn c d).2 (pmx (pmn a b) (pmn c d)).1 (pmx (pmn a b) (pmn c d)).2 (pmx a b).1 (pmx a b).2 (pmx c d).1 (pmx c d).2 (pmn (pmx a b) (pmx c d)).1 (pmn (pmx a b) (pmx c d)).2 _ _ _ _ _ _ w
        (Lib.hid rfl) (Lib.hid fst_if) (Lib.hid snd_if) (Lib.hid rfl) (Lib.hid fst_if) (Lib.hid snd_if) (Lib.hid rfl) (Lib.hid fst_if) (Lib.hid snd_if) (Lib.hid rfl) (Lib.hid fst_if) (Lib.hid snd_if) (Lib.hid rfl) (Lib.hid fst_if) (Lib.hid snd_if) (Lib.hid rfl) (Lib.hid fst_if) (Lib.hid snd_if)
        (Lib.hid hl) (by rw [← Bool.decide_and]; exact decide_eq_false (fun e => he (Prod.ext e.1 e.2))) ha.1 ha.2 hb.1 hb.2 hc.1 hc.2 hd.1 hd.2 h1.1 h1.2 h2.1 h2.2 h3.1 h3.2 h4.1 h4.2 h5.1 h5.2 h6.1 h6.2
  · rw [hl, if_pos rfl] at h
    injection h with e1 e2
    subst e1 e2
    exact ppiece_none a.1 a.2 b.1 b.2 c.1 c.2 d.1 d.2 (pmn a b).1 (pmn a b).2 (pmn c d).1 (pmn c d).2 (pmx (pmn a b) (pmn c d)).1 (pmx (pmn a b) (pmn c d)).2 (pmx a b).1 (pmx a b).2 (pmx c d).1 (pmx c d).2 (pmn (pmx a b) (pmx c d)).1 (pmn (pmx a b) (pmx c d)).2 _ _ _ _ _ _ w
      (Lib.hid rfl) (Lib.hid fst_if) (Lib.hid snd_if) (Lib.hid rfl) (Lib.hid fst_if) (Lib.hid snd_if) (Lib.hid rfl) (Lib.hid fst_if) (Lib.hid snd_if) (Lib.hid rfl) (Lib.hid fst_if) (Lib.hid snd_if) (Lib.hid rfl) (Lib.hid fst_if) (Lib.hid snd_if) (Lib.hid rfl) (Lib.hid fst_if) (Lib.hid snd_if)
      (Lib.hid hl) ha.1 ha.2 hb.1 hb.2 hc.1 hc.2 hd.1 hd.2 h1.1 h1.2 h2.1 h2.2 h3.1 h3.2 h4.1 h4.2 h5.1 h5.2 h6.1 h6.2
end Go.Proofs.YtobojnodohjiaaaGreatDoor
/- points.Cut: collinear; one point. -/
namespace Go.Proofs.YtobojnodohjiaaaGreatDoor
open Go.RowKit
-- short cells
attribute [local go_sem ↓] Go.wp_at_zero Go.wp_at_succ
attribute [local go_sem ↓] eq_nat eq_nat_zero eq_int eq_frac eq_pt
set_option maxHeartbeats 4000000 in
theorem pcut_piece (a1 a2 b1 b2 c1 c2 d1 d2 : Rat) (t1 t2 t3 t4 : Int) (n : Int) (m1 m2 : Rat) (w : World) (ht1 : Hid (turn a1 a2 b1 b2 c1 c2 = t1)) (ht2 : Hid (turn a1 a2 b1 b2 d1 d2 = t2)) (ht3 : Hid (turn c1 c2 d1 d2 a1 a2 = t3)) (ht4 : Hid (turn c1 c2 d1 d2 b1 b2 = t4)) (z1 : (t1 == 0) = true) (z2 : (t2 == 0) = true) (z3 : (t3 == 0) = true) (z4 : (t4 == 0) = true) (h : Hid (pieceV (a1, a2) (b1, b2) (c1, c2) (d1, d2) = (n, (m1, m2)))) (hs_a1 : sz a1 ≤ 10000000) (hs_a2 : sz a2 ≤ 10000000) (hs_b1 : sz b1 ≤ 10000000) (hs_b2 : sz b2 ≤ 10000000) (hs_c1 : sz c1 ≤ 10000000) (hs_c2 : sz c2 ≤ 10000000) (hs_d1 : sz d1 ≤ 10000000) (hs_d2 : sz d2 ≤ 10000000) :
    Calls Tryz.prog 16 #[(Value.agg #[.int .u64 (lo a1.num.natAbs), .string (bg a1.num.natAbs), .bool (decide (a1.num < 0)), .int .u64 (lo (a1.den - 1)), .string (bg (a1.den - 1)), .int .u64 (lo a2.num.natAbs), .string (bg a2.num.natAbs), .bool (decide (a2.num < 0)), .int .u64 (lo (a2.den - 1)), .string (bg (a2.den - 1))]), (Value.agg #[.int .u64 (lo b1.num.natAbs), .string (bg b1.num.natAbs), .bool (decide (b1.num < 0)), .int .u64 (lo (b1.den - 1)), .string (bg (b1.den - 1)), .int .u64 (lo b2.num.natAbs), .string (bg b2.num.natAbs), .bool (decide (b2.num < 0)), .int .u64 (lo (b2.den - 1)), .string (bg (b2.den - 1))]), (Value.agg #[.int .u64 (lo c1.num.natAbs), .string (bg c1.num.natAbs), .bool (decide (c1.num < 0)), .int .u64 (lo (c1.den - 1)), .string (bg (c1.den - 1)), .int .u64 (lo c2.num.natAbs), .string (bg c2.num.natAbs), .bool (decide (c2.num < 0)), .int .u64 (lo (c2.den - 1)), .string (bg (c2.den - 1))]), (Value.agg #[.int .u64 (lo d1.num.natAbs), .string (bg d1.num.natAbs), .bool (decide (d1.num < 0)), .int .u64 (lo (d1.den - 1)), .string (bg (d1.den - 1)), .int .u64 (lo d2.num.natAbs), .string (bg d2.num.natAbs), .bool (decide (d2.num < 0)), .int .u64 (lo (d2.den - 1)), .string (bg (d2.den - 1))])] w fun e w' => e = .returned (.tuple #[.int .i64 (n), (.agg #[.int .u64 (lo m1.num.natAbs), .string (bg m1.num.natAbs), .bool (decide (m1.num < 0)), .int .u64 (lo (m1.den - 1)), .string (bg (m1.den - 1)), .int .u64 (lo m2.num.natAbs), .string (bg m2.num.natAbs), .bool (decide (m2.num < 0)), .int .u64 (lo (m2.den - 1)), .string (bg (m2.den - 1))])]) ∧ Below w.heap.size w w' := by
  go_enter Tryz.func16, Tryz.ntmps16
  have HF := Lib.hid (hp0 w)
  refine kS fun K hK => ?_
  refine wp_region_lit ?_
  go_wp2
  refine kO hK ?_; clear hK K
  refine fH ((((((HF.out).aL (w.heap.size)).aL (w.heap.size + 1)).aL (w.heap.size + 1 + 1)).aL (w.heap.size + 1 + 1 + 1)).aL (w.heap.size + 1 + 1 + 1 + 1)) fun Wx0 HG => ?_
  clear HF; have HF := HG; clear HG
  generalize w.heap.size + 1 + 1 + 1 + 1 = gx4 at *
  generalize w.heap.size + 1 + 1 + 1 = gx3 at *
  generalize w.heap.size + 1 + 1 = gx2 at *
  generalize w.heap.size + 1 = gx1 at *
  have lx0 := HF.out.c 0 rfl
  have lx1 := HF.out.c 1 rfl
  have lx2 := HF.out.c 2 rfl
  have lx3 := HF.out.c 3 rfl
  refine kS fun K hK => ?_
  refine pd 9 [(true, 0), (true, 1), (true, 2), (true, 4), (true, 5), (true, 6), (true, 3), (true, 7), (true, 8)] fun T hT => ?_
  iterate 6 refine tk ?_
  refine ck Tryz.call76 (fun w' hw => pturn_any (a1) (a2) (b1) (b2) (c1) (c2) (t1) _ (ht1.out) om om om om om om) ?_
  refine ck Tryz.call76 (fun w' hw => pturn_any (a1) (a2) (b1) (b2) (d1) (d2) (t2) _ (ht2.out) om om om om om om) ?_
  refine tk ?_
  refine nlD hT HF fun vw1 HG => ?_
  clear hT T HF lx0 lx1 lx2 lx3
  go_wp2
  refine kO hK ?_; clear hK K
  have HF := HG; clear HG
  have lx0 := HF.out.c 0 rfl
  have lx1 := HF.out.c 1 rfl
  have lx2 := HF.out.c 2 rfl
  have lx3 := HF.out.c 3 rfl
  refine kS fun K hK => ?_
  refine pd 9 [(true, 0), (true, 1), (true, 2), (true, 4), (true, 5), (true, 6), (true, 3), (true, 7), (true, 8)] fun T hT => ?_
  iterate 6 refine tk ?_
  refine ck Tryz.call76 (fun w' hw => pturn_any (c1) (c2) (d1) (d2) (a1) (a2) (t3) _ (ht3.out) om om om om om om) ?_
  refine ck Tryz.call76 (fun w' hw => pturn_any (c1) (c2) (d1) (d2) (b1) (b2) (t4) _ (ht4.out) om om om om om om) ?_
  refine tk ?_
  refine nlD hT HF fun vw2 HG => ?_
  clear hT T HF lx0 lx1 lx2 lx3
  go_wp2
  refine kO hK ?_; clear hK K
  have HF := HG; clear HG
  refine wp_seq ?_
  refine wp_block ?_
  refine kS fun K hK => ?_
  refine sq 15 [(true, 0), (true, 1), (true, 2), (true, 3), (true, 4), (true, 5), (true, 6), (true, 7), (true, 8), (true, 9), (true, 10), (true, 11), (true, 12), (true, 13), (true, 14)] fun T hT => ?_
  iterate 15 refine tk ?_
  refine nlS hT HF fun vw3 HG => ?_
  clear hT T HF
  go_wp2
  refine kO hK ?_; clear hK K
  have HF := HG; clear HG
  refine wp_cond_true (by rfl) ?_
  have lx0 := HF.out.c 0 rfl
  have lx1 := HF.out.c 1 rfl
  have lx2 := HF.out.c 2 rfl
  have lx3 := HF.out.c 3 rfl
  refine kS fun K hK => ?_
  refine sq 8 [(true, 0), (true, 1), (true, 2), (true, 3), (true, 4), (true, 5), (true, 6), (true, 7)] fun T hT => ?_
  iterate 4 refine tk ?_
  refine ck Tryz.call77 (fun w' hw => ppiece_any (a1, a2) (b1, b2) (c1, c2) (d1, d2) (n) (m1, m2) _ (h.out) ⟨by show sz (a1) ≤ 100000000; omega, by show sz (a2) ≤ 100000000; omega⟩ ⟨by show sz (b1) ≤ 100000000; omega, by show sz (b2) ≤ 100000000; omega⟩ ⟨by show sz (c1) ≤ 100000000; omega, by show sz (c2) ≤ 100000000; omega⟩ ⟨by show sz (d1) ≤ 100000000; omega, by show sz (d2) ≤ 100000000; omega⟩) ?_
  iterate 3 refine tk ?_
  refine nlS hT HF fun vw4 HG => ?_
  clear hT T HF lx0 lx1 lx2 lx3
  have lx4 := HG.out.c 4 rfl; have fx4 := HG.out.f 4 rfl
  have r0 := Gr.refl vw4
  go_wp2
  refine kO hK ?_; clear hK K
  clear r0 lx4 fx4
  refine fH ((((((HG.out).put2 4 0 rfl).put2 4 2 rfl).put2 4 4 rfl).put2 4 6 rfl).put2 4 8 rfl) fun Wx4 HF => ?_
  clear HG
  refine wp_ret ?_
  try simp only [Exit.then, Exit.inBlock]
  have lx4 := HF.out.c 4 rfl
  have r0 := Gr.refl Wx4
  exact bodyPost_ret (v := .tuple #[.int .i64 (n), (.agg #[.int .u64 (lo m1.num.natAbs), .string (bg m1.num.natAbs), .bool (decide (m1.num < 0)), .int .u64 (lo (m1.den - 1)), .string (bg (m1.den - 1)), .int .u64 (lo m2.num.natAbs), .string (bg m2.num.natAbs), .bool (decide (m2.num < 0)), .int .u64 (lo (m2.den - 1)), .string (bg (m2.den - 1))])]) (by simp [results, Tryz.results16, go_sem, lx4 _ r0]) rfl ⟨rfl, HF.out.1⟩
set_option maxHeartbeats 4000000 in
theorem pcut_one_0 (a1 a2 b1 b2 c1 c2 d1 d2 : Rat) (t1 t2 t3 t4 : Int) (p : Int) (q : Int) (k m1 m2 : Rat) (w : World) (ht1 : Hid (turn a1 a2 b1 b2 c1 c2 = t1)) (ht2 : Hid (turn a1 a2 b1 b2 d1 d2 = t2)) (ht3 : Hid (turn c1 c2 d1 d2 a1 a2 = t3)) (ht4 : Hid (turn c1 c2 d1 d2 b1 b2 = t4)) (z1 : (t1 == 0) = false) (hp : IntKind.i64.wrap (t1 * t2) = p) (hq : IntKind.i64.wrap (t3 * t4) = q) (g1 : decide (0 < p) = false) (g2 : decide (0 < q) = false) (hk : Hid ((b1 - a1) * (d2 - c2) - (b2 - a2) * (d1 - c1) = k)) (hk0 : Hid (k ≠ 0)) (hs_k : sz k ≤ 100000000) (hm1 : Hid (a1 + (b1 - a1) * (((c1 - a1) * (d2 - c2) - (c2 - a2) * (d1 - c1)) / k) = m1)) (hm2 : Hid (a2 + (b2 - a2) * (((c1 - a1) * (d2 - c2) - (c2 - a2) * (d1 - c1)) / k) = m2)) (hs_a1 : sz a1 ≤ 10000000) (hs_a2 : sz a2 ≤ 10000000) (hs_b1 : sz b1 ≤ 10000000) (hs_b2 : sz b2 ≤ 10000000) (hs_c1 : sz c1 ≤ 10000000) (hs_c2 : sz c2 ≤ 10000000) (hs_d1 : sz d1 ≤ 10000000) (hs_d2 : sz d2 ≤ 10000000) :
    Calls Tryz.prog 16 #[(Value.agg #[.int .u64 (lo a1.num.natAbs), .string (bg a1.num.natAbs), .bool (decide (a1.num < 0)), .int .u64 (lo (a1.den - 1)), .string (bg (a1.den - 1)), .int .u64 (lo a2.num.natAbs), .string (bg a2.num.natAbs), .bool (decide (a2.num < 0)), .int .u64 (lo (a2.den - 1)), .string (bg (a2.den - 1))]), (Value.agg #[.int .u64 (lo b1.num.natAbs), .string (bg b1.num.natAbs), .bool (decide (b1.num < 0)), .int .u64 (lo (b1.den - 1)), .string (bg (b1.den - 1)), .int .u64 (lo b2.num.natAbs), .string (bg b2.num.natAbs), .bool (decide (b2.num < 0)), .int .u64 (lo (b2.den - 1)), .string (bg (b2.den - 1))]), (Value.agg #[.int .u64 (lo c1.num.natAbs), .string (bg c1.num.natAbs), .bool (decide (c1.num < 0)), .int .u64 (lo (c1.den - 1)), .string (bg (c1.den - 1)), .int .u64 (lo c2.num.natAbs), .string (bg c2.num.natAbs), .bool (decide (c2.num < 0)), .int .u64 (lo (c2.den - 1)), .string (bg (c2.den - 1))]), (Value.agg #[.int .u64 (lo d1.num.natAbs), .string (bg d1.num.natAbs), .bool (decide (d1.num < 0)), .int .u64 (lo (d1.den - 1)), .string (bg (d1.den - 1)), .int .u64 (lo d2.num.natAbs), .string (bg d2.num.natAbs), .bool (decide (d2.num < 0)), .int .u64 (lo (d2.den - 1)), .string (bg (d2.den - 1))])] w fun e w' => e = .returned (.tuple #[.int .i64 1, (.agg #[.int .u64 (lo m1.num.natAbs), .string (bg m1.num.natAbs), .bool (decide (m1.num < 0)), .int .u64 (lo (m1.den - 1)), .string (bg (m1.den - 1)), .int .u64 (lo m2.num.natAbs), .string (bg m2.num.natAbs), .bool (decide (m2.num < 0)), .int .u64 (lo (m2.den - 1)), .string (bg (m2.den - 1))])]) ∧ Below w.heap.size w w' := by
  go_enter Tryz.func16, Tryz.ntmps16
  have HF := Lib.hid (hp0 w)
  refine kS fun K hK => ?_
  refine wp_region_lit ?_
  go_wp2
  refine kO hK ?_; clear hK K
  refine fH ((((((HF.out).aL (w.heap.size)).aL (w.heap.size + 1)).aL (w.heap.size + 1 + 1)).aL (w.heap.size + 1 + 1 + 1)).aL (w.heap.size + 1 + 1 + 1 + 1)) fun Wx0 HG => ?_
  clear HF; have HF := HG; clear HG
  generalize w.heap.size + 1 + 1 + 1 + 1 = gx4 at *
  generalize w.heap.size + 1 + 1 + 1 = gx3 at *
  generalize w.heap.size + 1 + 1 = gx2 at *
  generalize w.heap.size + 1 = gx1 at *
  have lx0 := HF.out.c 0 rfl
  have lx1 := HF.out.c 1 rfl
  have lx2 := HF.out.c 2 rfl
  have lx3 := HF.out.c 3 rfl
  refine kS fun K hK => ?_
  refine pd 9 [(true, 0), (true, 1), (true, 2), (true, 4), (true, 5), (true, 6), (true, 3), (true, 7), (true, 8)] fun T hT => ?_
  iterate 6 refine tk ?_
  refine ck Tryz.call76 (fun w' hw => pturn_any (a1) (a2) (b1) (b2) (c1) (c2) (t1) _ (ht1.out) om om om om om om) ?_
  refine ck Tryz.call76 (fun w' hw => pturn_any (a1) (a2) (b1) (b2) (d1) (d2) (t2) _ (ht2.out) om om om om om om) ?_
  refine tk ?_
  refine nlD hT HF fun vw1 HG => ?_
  clear hT T HF lx0 lx1 lx2 lx3
  go_wp2
  refine kO hK ?_; clear hK K
  have HF := HG; clear HG
  have lx0 := HF.out.c 0 rfl
  have lx1 := HF.out.c 1 rfl
  have lx2 := HF.out.c 2 rfl
  have lx3 := HF.out.c 3 rfl
  refine kS fun K hK => ?_
  refine pd 9 [(true, 0), (true, 1), (true, 2), (true, 4), (true, 5), (true, 6), (true, 3), (true, 7), (true, 8)] fun T hT => ?_
  iterate 6 refine tk ?_
  refine ck Tryz.call76 (fun w' hw => pturn_any (c1) (c2) (d1) (d2) (a1) (a2) (t3) _ (ht3.out) om om om om om om) ?_
  refine ck Tryz.call76 (fun w' hw => pturn_any (c1) (c2) (d1) (d2) (b1) (b2) (t4) _ (ht4.out) om om om om om om) ?_
  refine tk ?_
  refine nlD hT HF fun vw2 HG => ?_
  clear hT T HF lx0 lx1 lx2 lx3
  go_wp2
  refine kO hK ?_; clear hK K
  have HF := HG; clear HG
  refine wp_seq ?_
  refine wp_block ?_
  refine kS fun K hK => ?_
  refine sq 15 [(true, 0), (true, 1), (true, 2), (true, 3), (true, 4), (true, 5), (true, 6), (true, 7), (true, 8), (true, 9), (true, 10), (true, 11), (true, 12), (true, 13), (true, 14)] fun T hT => ?_
  iterate 3 refine tk ?_
  iterate 2 refine sk ?_
  iterate 2 refine tk ?_
  iterate 2 refine sk ?_
  iterate 2 refine tk ?_
  iterate 2 refine sk ?_
  iterate 2 refine tk ?_
  refine nlS hT HF fun vw3 HG => ?_
  clear hT T HF
  go_wp2
  refine kO hK ?_; clear hK K
  have HF := HG; clear HG
  refine wp_cond_false (by rfl) ?_
  refine kS fun K hK => ?_
  refine sq 11 [(true, 0), (true, 1), (true, 2), (true, 3), (true, 4), (true, 5), (true, 6), (true, 7), (true, 8), (true, 9), (true, 10)] fun T hT => ?_
  iterate 11 refine tk ?_
  refine nlS hT HF fun vw4 HG => ?_
  clear hT T HF
  go_wp2
  refine kO hK ?_; clear hK K
  have HF := HG; clear HG
  refine wp_cond_false (by rfl) ?_
  refine wp_skip ?_
  show Code.wp _ _ _ _ _
  obtain ⟨u1, HZ1⟩ : ∃ z, Hid ((b1) - (a1) = z) := ⟨_, Lib.hid rfl⟩
  have su1 : sz u1 ≤ 20000001 := by rw [← HZ1.out]; have := sz_sub (b1) (a1); omega
  obtain ⟨u2, HZ2⟩ : ∃ z, Hid ((b2) - (a2) = z) := ⟨_, Lib.hid rfl⟩
  have su2 : sz u2 ≤ 20000001 := by rw [← HZ2.out]; have := sz_sub (b2) (a2); omega
  obtain ⟨u3, HZ3⟩ : ∃ z, Hid ((d1) - (c1) = z) := ⟨_, Lib.hid rfl⟩
  have su3 : sz u3 ≤ 20000001 := by rw [← HZ3.out]; have := sz_sub (d1) (c1); omega
  obtain ⟨u4, HZ4⟩ : ∃ z, Hid ((d2) - (c2) = z) := ⟨_, Lib.hid rfl⟩
  have su4 : sz u4 ≤ 20000001 := by rw [← HZ4.out]; have := sz_sub (d2) (c2); omega
  have lx0 := HF.out.c 0 rfl
  have lx1 := HF.out.c 1 rfl
  have lx2 := HF.out.c 2 rfl
  have lx3 := HF.out.c 3 rfl
  refine kS fun K hK => ?_
  refine wp_region_plan 8 [6, 7] [] (fun i => if i = 6 then 14 else 15) (fun i => if i = 6 then .cells #[.int .u64 0, .string ⟨#[]⟩, .bool false, .int .u64 0, .string ⟨#[]⟩, .int .u64 0, .string ⟨#[]⟩, .bool false, .int .u64 0, .string ⟨#[]⟩] 38 else .cells #[.int .u64 0, .string ⟨#[]⟩, .bool false, .int .u64 0, .string ⟨#[]⟩, .int .u64 0, .string ⟨#[]⟩, .bool false, .int .u64 0, .string ⟨#[]⟩] 38) [(true, 0), (true, 1), (true, 3), (true, 4), (true, 2), (true, 5)] (by kernel_rfl) (by kernel_rfl) (by intro i hi; simp only [List.mem_cons, List.not_mem_nil, or_false] at hi; rcases hi with rfl | rfl <;> exact ⟨_, rfl, rfl, rfl, by simp, fun ρ w => by kernel_rfl⟩) (fun i hi => by cases hi) (fun _ _ _ _ _ h => h) (fun T hT => ?_)
  iterate 4 refine tk ?_
  refine ck Tryz.call78 (fun w' hw => psub_any (b1) (b2) (a1) (a2) (u1) (u2) _ HZ1.out HZ2.out om om om om) ?_
  refine ck Tryz.call78 (fun w' hw => psub_any (d1) (d2) (c1) (c2) (u3) (u4) _ HZ3.out HZ4.out om om om om) ?_
  refine wpPlan_nil (hT.out _ _ ?_)
  intro G vw5 hg hf
  simp only [puts, Act.put, lA, lB, lC, lD, lE, ↓reduceIte, Nat.reduceEqDiff]
  have HG := Lib.hid (HF.out.fr hg hf (zs := [(#[.int .u64 0, .string ⟨#[]⟩, .bool false, .int .u64 0, .string ⟨#[]⟩, .int .u64 0, .string ⟨#[]⟩, .bool false, .int .u64 0, .string ⟨#[]⟩], 38), (#[.int .u64 0, .string ⟨#[]⟩, .bool false, .int .u64 0, .string ⟨#[]⟩, .int .u64 0, .string ⟨#[]⟩, .bool false, .int .u64 0, .string ⟨#[]⟩], 38)]) rfl (by decide) (by decide))
  simp only [zq1_, zq2_, zq3_, zq4_, lF, lG] at HG
  clear hT T HF hg hf lx0 lx1 lx2 lx3
  generalize G 6 = gx6 at *
  generalize G 7 = gx7 at *
  have lx6 := HG.out.c 5 rfl; have fx6 := HG.out.f 5 rfl
  have lx7 := HG.out.c 6 rfl; have fx7 := HG.out.f 6 rfl
  have r0 := Gr.refl vw5
  obtain ⟨d6_7, d7_6⟩ := HG.out.ne 5 6 rfl rfl (by decide)
  go_wp2
  refine kO hK ?_; clear hK K
  clear r0 lx6 fx6 lx7 fx7 d6_7 d7_6
  refine fH (((((((((((((HG.out).put2 5 0 rfl).put2 5 2 rfl).put2 5 4 rfl).put2 5 6 rfl).put2 5 8 rfl).put2 6 0 rfl).put2 6 2 rfl).put2 6 4 rfl).put2 6 6 rfl).put2 6 8 rfl).er 3).er 1) fun Wx7 HF => ?_
  clear HG
  obtain ⟨u5, HZ5⟩ : ∃ z, Hid ((c1) - (a1) = z) := ⟨_, Lib.hid rfl⟩
  have su5 : sz u5 ≤ 20000001 := by rw [← HZ5.out]; have := sz_sub (c1) (a1); omega
  obtain ⟨u6, HZ6⟩ : ∃ z, Hid ((c2) - (a2) = z) := ⟨_, Lib.hid rfl⟩
  have su6 : sz u6 ≤ 20000001 := by rw [← HZ6.out]; have := sz_sub (c2) (a2); omega
  obtain ⟨u7, HZ7⟩ : ∃ z, Hid ((u5) * (u4) - (u6) * (u3) = z) := ⟨_, Lib.hid rfl⟩
  have su7 : sz u7 ≤ 80000005 := by rw [← HZ7.out]; have := sz_cross (u5) (u6) (u3) (u4); omega
  have HZ8 : Hid ((u1) * (u4) - (u2) * (u3) = k) := Lib.hid (by rw [← HZ1.out, ← HZ2.out, ← HZ3.out, ← HZ4.out]; exact hk.out)
  obtain ⟨u9, HZ9⟩ : ∃ z, Hid ((u7) / (k) = z) := ⟨_, Lib.hid rfl⟩
  have su9 : sz u9 ≤ 180000005 := by rw [← HZ9.out]; have := sz_div (u7) (k); omega
  have lx0 := HF.out.c 0 rfl
  have lx2 := HF.out.c 1 rfl
  have lx6 := HF.out.c 3 rfl
  have lx7 := HF.out.c 4 rfl
  refine kS fun K hK => ?_
  refine wp_region_plan 13 [12] [11] (fun _ => 16) (fun _ => .cells #[.int .u64 0, .string ⟨#[]⟩, .bool false, .int .u64 0, .string ⟨#[]⟩] 36) [(true, 0), (true, 1), (true, 3), (true, 5), (true, 6), (true, 2), (true, 4), (true, 7), (true, 8), (true, 9), (true, 10), (true, 11)] (by kernel_rfl) (by kernel_rfl) (by intro i hi; simp only [List.mem_cons, List.not_mem_nil, or_false] at hi; rcases hi with rfl <;> exact ⟨_, rfl, rfl, rfl, by simp, fun ρ w => by kernel_rfl⟩) (by intro i hi; simp only [List.mem_cons, List.not_mem_nil, or_false] at hi; rcases hi with rfl <;> exact ⟨_, rfl, pure_extract⟩) (fun _ _ _ _ _ h => h) (fun T hT => ?_)
  iterate 5 refine tk ?_
  refine ck Tryz.call78 (fun w' hw => psub_any (c1) (c2) (a1) (a2) (u5) (u6) _ HZ5.out HZ6.out om om om om) ?_
  refine ck Tryz.call80 (fun w' hw => pcross_any (u5) (u6) (u3) (u4) (u7) _ HZ7.out om om om om) ?_
  refine ck Tryz.call80 (fun w' hw => pcross_any (u1) (u2) (u3) (u4) (k) _ HZ8.out om om om om) ?_
  refine ck Tryz.call79 (fun w' hw => fdiv_any (u7) (k) (u9) _ HZ9.out hk0.out om om) ?_
  iterate 3 refine tk ?_
  refine wpPlan_nil (hT.out _ _ ?_)
  intro G vw6 hg hf
  simp only [puts, Act.put, lA, lB, lC, lD, lE, ↓reduceIte, Nat.reduceEqDiff]
  have HG := Lib.hid (HF.out.fr hg hf (zs := [(#[.int .u64 0, .string ⟨#[]⟩, .bool false, .int .u64 0, .string ⟨#[]⟩], 36)]) rfl (by decide) (by decide))
  simp only [zq1_, zq2_, zq3_, zq4_, lF, lG] at HG
  clear hT T HF hg hf lx0 lx2 lx6 lx7
  generalize G 12 = gx8 at *
  have lx8 := HG.out.c 5 rfl; have fx8 := HG.out.f 5 rfl
  have r0 := Gr.refl vw6
  go_wp2
  refine kO hK ?_; clear hK K
  clear r0 lx8 fx8
  refine fH ((((((HG.out).put2 5 0 rfl).put2 5 2 rfl).put 5 4 _ rfl).er 4).er 1) fun Wx8 HF => ?_
  clear HG
  obtain ⟨u10, HZ10⟩ : ∃ z, Hid ((u1) * (u9) = z) := ⟨_, Lib.hid rfl⟩
  have su10 : sz u10 ≤ 200000006 := by rw [← HZ10.out]; have := sz_mul (u1) (u9); omega
  obtain ⟨u11, HZ11⟩ : ∃ z, Hid ((u2) * (u9) = z) := ⟨_, Lib.hid rfl⟩
  have su11 : sz u11 ≤ 200000006 := by rw [← HZ11.out]; have := sz_mul (u2) (u9); omega
  have HZ12 : Hid ((a1) + (u10) = m1) := Lib.hid (by rw [← HZ10.out, ← HZ9.out, ← HZ7.out, ← HZ6.out, ← HZ5.out, ← HZ4.out, ← HZ3.out, ← HZ1.out]; exact hm1.out)
  have HZ13 : Hid ((a2) + (u11) = m2) := Lib.hid (by rw [← HZ11.out, ← HZ9.out, ← HZ7.out, ← HZ6.out, ← HZ5.out, ← HZ4.out, ← HZ3.out, ← HZ2.out]; exact hm2.out)
  have lx0 := HF.out.c 0 rfl
  have lx6 := HF.out.c 2 rfl
  have lx8 := HF.out.c 3 rfl
  refine kS fun K hK => ?_
  refine pd 6 [(true, 0), (true, 1), (true, 2), (true, 3), (true, 4), (true, 5)] fun T hT => ?_
  iterate 3 refine tk ?_
  refine ck Tryz.call82 (fun w' hw => pscale_any (u1) (u2) (u9) (u10) (u11) _ HZ10.out HZ11.out om om om) ?_
  refine ck Tryz.call81 (fun w' hw => padd_any (a1) (a2) (u10) (u11) (m1) (m2) _ HZ12.out HZ13.out om om om om) ?_
  refine tk ?_
  refine nlD hT HF fun vw7 HG => ?_
  clear hT T HF lx0 lx6 lx8
  have lx4 := HG.out.c 1 rfl; have fx4 := HG.out.f 1 rfl
  have r0 := Gr.refl vw7
  go_wp2
  refine kO hK ?_; clear hK K
  clear r0 lx4 fx4
  refine fH (((((((((HG.out).put2 1 0 rfl).put2 1 2 rfl).put2 1 4 rfl).put2 1 6 rfl).put2 1 8 rfl).er 3).er 2).er 0) fun Wx9 HF => ?_
  clear HG
  refine wp_ret ?_
  try simp only [Exit.then, Exit.inBlock]
  have lx4 := HF.out.c 0 rfl
  have r0 := Gr.refl Wx9
  exact bodyPost_ret (v := .tuple #[.int .i64 1, (.agg #[.int .u64 (lo m1.num.natAbs), .string (bg m1.num.natAbs), .bool (decide (m1.num < 0)), .int .u64 (lo (m1.den - 1)), .string (bg (m1.den - 1)), .int .u64 (lo m2.num.natAbs), .string (bg m2.num.natAbs), .bool (decide (m2.num < 0)), .int .u64 (lo (m2.den - 1)), .string (bg (m2.den - 1))])]) (by simp [results, Tryz.results16, go_sem, lx4 _ r0]) rfl ⟨rfl, HF.out.1⟩
end Go.Proofs.YtobojnodohjiaaaGreatDoor
/- the examples of the chapter. -/
namespace Go.Proofs.YtobojnodohjiaaaGreatDoor
open Go.RowKit
attribute [local go_sem ↓] Go.wp_at_zero Go.wp_at_succ
attribute [local go_sem ↓] eq_nat eq_nat_zero eq_int eq_frac eq_pt
def qn (n : Int) : Rat := (n : Rat)
theorem sz_qn (n : Int) (h1 : -9223372036854775808 ≤ n := by decide) (h2 : n ≤ 9223372036854775807 := by decide) : sz (qn n) ≤ 2 := sz_int64 h1 h2
set_option maxHeartbeats 4000000 in
theorem lives_any (w : World) :
    Calls Tryz.prog 21 #[] w fun e w' => e = .returned (.bool true) ∧ Below w.heap.size w w' := by
  go_enter Tryz.func21, Tryz.ntmps21
  -- region 0
  refine wp_seq_k fun K hK => ?_
  replace hK := Lib.hid hK
  refine wp_region_lit ?_
  go_wp2
  refine kO hK ?_; clear hK K
  refine forgetW (fun w2 => Below w.heap.size w w2) (Below.refl _ _) ?_
  rintro Wx HB
  replace HB := Lib.hid HB
  -- region 1
  have hqn_0 : sz (qn 0) ≤ 2 := sz_qn 0
  refine wp_seq_k fun K hK => ?_
  replace hK := Lib.hid hK
  refine wp_region_seqplan 1 [(true, 0)] (by rfl) (by simp) (fun T hT => ?_)
  refine wpPlan_callL rfl (by rfl) Tryz.call93 (fun w' hw => ppint_any 0 0 (qn 0) (qn 0) _ rfl rfl (by decide) (by decide) (by decide) (by decide)) (by rfl) ?_
  simp only [Act.put, List.setIfInBounds_toArray, List.set_cons_zero, List.set_cons_succ]
  refine wpPlan_nil (hT.out _ _ ?_); clear hT T
  intro vw1 hg
  simp only [puts, Act.put, List.setIfInBounds_toArray, List.set_cons_zero, List.set_cons_succ, List.drop_succ_cons, List.drop_zero, ↓reduceIte, Nat.reduceEqDiff]
  have HG := Lib.hid (hg)
  clear hg
  have r0 := Gr.refl vw1
  go_wp2
  refine kO hK ?_; clear hK K
  clear r0
  have hsz : w.heap.size ≤ vw1.heap.size := Nat.le_trans HB.out.size HG.out.size
  refine forgetW (fun w2 => Bx w2 (vw1.heap.size) 38 #[.int .u64 ((lo (Int.natAbs ((qn 0).num)) : Nat) : Int), .string (bg (Int.natAbs ((qn 0).num))), .bool (decide (((qn 0).num) < 0)), .int .u64 ((lo ((qn 0).den - 1) : Nat) : Int), .string (bg ((qn 0).den - 1)), .int .u64 ((lo (Int.natAbs ((qn 0).num)) : Nat) : Int), .string (bg (Int.natAbs ((qn 0).num))), .bool (decide (((qn 0).num) < 0)), .int .u64 ((lo ((qn 0).den - 1) : Nat) : Int), .string (bg ((qn 0).den - 1))] ∧ Below w.heap.size w w2) ⟨(Bx.at (by simp) : Bx _ (vw1.heap.size) _ _), (HB.out.trans (HG.out.mono HB.out.size)).alloc (by first | omega | (simp; omega)) _⟩ ?_
  clear HB HG
  rintro Wx1 ⟨bx0, HB⟩
  replace HB := Lib.hid HB
  have yx0 : w.heap.size ≤ vw1.heap.size := by omega
  generalize hx0 : vw1.heap.size = gx0 at *
  clear hx0
  clear hsz
  -- region 2
  have hqn_2 : sz (qn 2) ≤ 2 := sz_qn 2
  have lx0 := bx0.cells
  have BX0 := Lib.hid bx0
  clear bx0
  refine wp_seq_k fun K hK => ?_
  replace hK := Lib.hid hK
  refine wp_region_plan 10 [8] [] (fun _ => 3) (fun _ => .cells #[.int .u64 0, .string ⟨#[]⟩, .bool false, .int .u64 0, .string ⟨#[]⟩, .int .u64 0, .string ⟨#[]⟩, .bool false, .int .u64 0, .string ⟨#[]⟩] 38) [(true, 0), (true, 1), (true, 2), (true, 3), (true, 4), (true, 5), (true, 6), (true, 7), (true, 9)] (by kernel_rfl) (by kernel_rfl) (by intro i hi; simp only [List.mem_cons, List.not_mem_nil, or_false] at hi; rcases hi with rfl <;> exact ⟨_, rfl, rfl, rfl, by simp, fun ρ w => by kernel_rfl⟩) (fun i hi => by cases hi) (fun _ _ _ _ _ h => h) (fun T hT => ?_)
  iterate 1
    refine wpPlan_takeL (v := ?_) rfl (by rfl) (fun w' hw => ?_) ?_
    rotate_left
    · go_simp
      with_reducible rfl
    simp only [Act.put, List.setIfInBounds_toArray, List.set_cons_zero, List.set_cons_succ]
  refine wpPlan_callL rfl (by rfl) Tryz.call93 (fun w' hw => ppint_any 2 2 (qn 2) (qn 2) _ rfl rfl (by decide) (by decide) (by decide) (by decide)) (by rfl) ?_
  simp only [Act.put, List.setIfInBounds_toArray, List.set_cons_zero, List.set_cons_succ]
  refine wpPlan_callL rfl (by rfl) Tryz.call93 (fun w' hw => ppint_any 0 2 (qn 0) (qn 2) _ rfl rfl (by decide) (by decide) (by decide) (by decide)) (by rfl) ?_
  simp only [Act.put, List.setIfInBounds_toArray, List.set_cons_zero, List.set_cons_succ]
  refine wpPlan_callL rfl (by rfl) Tryz.call93 (fun w' hw => ppint_any 2 0 (qn 2) (qn 0) _ rfl rfl (by decide) (by decide) (by decide) (by decide)) (by rfl) ?_
  simp only [Act.put, List.setIfInBounds_toArray, List.set_cons_zero, List.set_cons_succ]
  refine wpPlan_callL rfl (by rfl) Tryz.call16 (fun w' hw => pcut_one_0 (qn 0) (qn 0) (qn 2) (qn 2) (qn 0) (qn 2) (qn 2) (qn 0) 1 (-1) (-1) 1 (-1) (-1) (qn (-8)) (qn 1) (qn 1) _ (Lib.hid (by decide +kernel)) (Lib.hid (by decide +kernel)) (Lib.hid (by decide +kernel)) (Lib.hid (by decide +kernel)) rfl (by decide) (by decide) (by decide) (by decide) (Lib.hid (by decide +kernel)) (Lib.hid (by decide +kernel)) (Nat.le_trans (sz_qn (-8)) (by decide)) (Lib.hid (by decide +kernel)) (Lib.hid (by decide +kernel)) (by first | omega | exact Nat.le_trans (wl_small (by decide)) (by decide)) (by first | omega | exact Nat.le_trans (wl_small (by decide)) (by decide)) (by first | omega | exact Nat.le_trans (wl_small (by decide)) (by decide)) (by first | omega | exact Nat.le_trans (wl_small (by decide)) (by decide)) (by first | omega | exact Nat.le_trans (wl_small (by decide)) (by decide)) (by first | omega | exact Nat.le_trans (wl_small (by decide)) (by decide)) (by first | omega | exact Nat.le_trans (wl_small (by decide)) (by decide)) (by first | omega | exact Nat.le_trans (wl_small (by decide)) (by decide))) (by rfl) ?_
  simp only [Act.put, List.setIfInBounds_toArray, List.set_cons_zero, List.set_cons_succ]
  iterate 4
    refine wpPlan_takeL (v := ?_) rfl (by rfl) (fun w' hw => ?_) ?_
    rotate_left
    · go_simp
      with_reducible rfl
    simp only [Act.put, List.setIfInBounds_toArray, List.set_cons_zero, List.set_cons_succ]
  refine wpPlan_nil (hT.out _ _ ?_); clear hT T
  intro G vw2 hg hf
  simp only [puts, Act.put, List.setIfInBounds_toArray, List.set_cons_zero, List.set_cons_succ, List.drop_succ_cons, List.drop_zero, ↓reduceIte, Nat.reduceEqDiff]
  clear lx0
  have HG := Lib.hid (hg)
  clear hg
  have bx1 := Bx.of_fresh hf (i := 8) (by decide) rfl
  have yx1 := (hf.1 8 (by decide)).1
  clear hf
  generalize G 8 = gx1 at *
  have qx0_1 : gx0 < gx1 := Nat.lt_of_lt_of_le BX0.out.lt yx1
  replace yx1 : w.heap.size ≤ gx1 := Nat.le_trans HB.out.size yx1
  have bx0 := BX0.out.gr HG.out; clear BX0
  have lx1 := bx1.cells; have fx1 := bx1.free
  have r0 := Gr.refl vw2
  have BX0 := Lib.hid bx0; clear bx0
  have BX1 := Lib.hid bx1; clear bx1
  go_wp2
  refine kO hK ?_; clear hK K
  clear lx1 fx1
  clear r0
  refine forgetW (fun w2 => Bx w2 gx0 38 #[.int .u64 ((lo (Int.natAbs ((qn 0).num)) : Nat) : Int), .string (bg (Int.natAbs ((qn 0).num))), .bool (decide (((qn 0).num) < 0)), .int .u64 ((lo ((qn 0).den - 1) : Nat) : Int), .string (bg ((qn 0).den - 1)), .int .u64 ((lo (Int.natAbs ((qn 0).num)) : Nat) : Int), .string (bg (Int.natAbs ((qn 0).num))), .bool (decide (((qn 0).num) < 0)), .int .u64 ((lo ((qn 0).den - 1) : Nat) : Int), .string (bg ((qn 0).den - 1))] ∧ Bx w2 gx1 38 #[.int .u64 ((lo (Int.natAbs ((qn 1).num)) : Nat) : Int), .string (bg (Int.natAbs ((qn 1).num))), .bool (decide (((qn 1).num) < 0)), .int .u64 ((lo ((qn 1).den - 1) : Nat) : Int), .string (bg ((qn 1).den - 1)), .int .u64 ((lo (Int.natAbs ((qn 1).num)) : Nat) : Int), .string (bg (Int.natAbs ((qn 1).num))), .bool (decide (((qn 1).num) < 0)), .int .u64 ((lo ((qn 1).den - 1) : Nat) : Int), .string (bg ((qn 1).den - 1))] ∧ Below w.heap.size w w2) ⟨((((((((((BX0.out).setOther (by show gx0 ≠ gx1; omega) _).setOther (by show gx0 ≠ gx1; omega) _).setOther (by show gx0 ≠ gx1; omega) _).setOther (by show gx0 ≠ gx1; omega) _).setOther (by show gx0 ≠ gx1; omega) _).setOther (by show gx0 ≠ gx1; omega) _).setOther (by show gx0 ≠ gx1; omega) _).setOther (by show gx0 ≠ gx1; omega) _).setOther (by show gx0 ≠ gx1; omega) _).setOther (by show gx0 ≠ gx1; omega) _, (((((((((((BX1.out).set 0 _).set 1 _).set 2 _).set 3 _).set 4 _).set 5 _).set 6 _).set 7 _).set 8 _).set 9 _).eq (by simp only [List.setIfInBounds_toArray, List.set_cons_zero, List.set_cons_succ]), ((((((((((HB.out.trans (HG.out.mono HB.out.size)).setCell (by show w.heap.size ≤ gx1; omega) _).setCell (by show w.heap.size ≤ gx1; omega) _).setCell (by show w.heap.size ≤ gx1; omega) _).setCell (by show w.heap.size ≤ gx1; omega) _).setCell (by show w.heap.size ≤ gx1; omega) _).setCell (by show w.heap.size ≤ gx1; omega) _).setCell (by show w.heap.size ≤ gx1; omega) _).setCell (by show w.heap.size ≤ gx1; omega) _).setCell (by show w.heap.size ≤ gx1; omega) _).setCell (by show w.heap.size ≤ gx1; omega) _⟩ ?_
  clear HB HG BX0 BX1
  rintro Wx2 ⟨bx0, bx1, HB⟩
  replace HB := Lib.hid HB
  -- region 3
  have hqn_1 : sz (qn 1) ≤ 2 := sz_qn 1
  have hqn_3 : sz (qn 3) ≤ 2 := sz_qn 3
  have lx0 := bx0.cells
  have BX0 := Lib.hid bx0
  have BX1 := Lib.hid bx1
  clear bx0 bx1
  refine wp_seq_k fun K hK => ?_
  replace hK := Lib.hid hK
  refine wp_region_plan 10 [8] [] (fun _ => 5) (fun _ => .cells #[.int .u64 0, .string ⟨#[]⟩, .bool false, .int .u64 0, .string ⟨#[]⟩, .int .u64 0, .string ⟨#[]⟩, .bool false, .int .u64 0, .string ⟨#[]⟩] 38) [(true, 0), (true, 1), (true, 2), (true, 3), (true, 4), (true, 5), (true, 6), (true, 7), (true, 9)] (by kernel_rfl) (by kernel_rfl) (by intro i hi; simp only [List.mem_cons, List.not_mem_nil, or_false] at hi; rcases hi with rfl <;> exact ⟨_, rfl, rfl, rfl, by simp, fun ρ w => by kernel_rfl⟩) (fun i hi => by cases hi) (fun _ _ _ _ _ h => h) (fun T hT => ?_)
  iterate 1
    refine wpPlan_takeL (v := ?_) rfl (by rfl) (fun w' hw => ?_) ?_
    rotate_left
    · go_simp
      with_reducible rfl
    simp only [Act.put, List.setIfInBounds_toArray, List.set_cons_zero, List.set_cons_succ]
  refine wpPlan_callL rfl (by rfl) Tryz.call93 (fun w' hw => ppint_any 2 0 (qn 2) (qn 0) _ rfl rfl (by decide) (by decide) (by decide) (by decide)) (by rfl) ?_
  simp only [Act.put, List.setIfInBounds_toArray, List.set_cons_zero, List.set_cons_succ]
  refine wpPlan_callL rfl (by rfl) Tryz.call93 (fun w' hw => ppint_any 1 0 (qn 1) (qn 0) _ rfl rfl (by decide) (by decide) (by decide) (by decide)) (by rfl) ?_
  simp only [Act.put, List.setIfInBounds_toArray, List.set_cons_zero, List.set_cons_succ]
  refine wpPlan_callL rfl (by rfl) Tryz.call93 (fun w' hw => ppint_any 3 0 (qn 3) (qn 0) _ rfl rfl (by decide) (by decide) (by decide) (by decide)) (by rfl) ?_
  simp only [Act.put, List.setIfInBounds_toArray, List.set_cons_zero, List.set_cons_succ]
  refine wpPlan_callL rfl (by rfl) Tryz.call16 (fun w' hw => pcut_piece (qn 0) (qn 0) (qn 2) (qn 0) (qn 1) (qn 0) (qn 3) (qn 0) 0 0 0 0 2 (qn 1) (qn 0) _ (Lib.hid (by decide +kernel)) (Lib.hid (by decide +kernel)) (Lib.hid (by decide +kernel)) (Lib.hid (by decide +kernel)) rfl rfl rfl rfl (Lib.hid (by decide +kernel)) (by first | omega | exact Nat.le_trans (wl_small (by decide)) (by decide)) (by first | omega | exact Nat.le_trans (wl_small (by decide)) (by decide)) (by first | omega | exact Nat.le_trans (wl_small (by decide)) (by decide)) (by first | omega | exact Nat.le_trans (wl_small (by decide)) (by decide)) (by first | omega | exact Nat.le_trans (wl_small (by decide)) (by decide)) (by first | omega | exact Nat.le_trans (wl_small (by decide)) (by decide)) (by first | omega | exact Nat.le_trans (wl_small (by decide)) (by decide)) (by first | omega | exact Nat.le_trans (wl_small (by decide)) (by decide))) (by rfl) ?_
  simp only [Act.put, List.setIfInBounds_toArray, List.set_cons_zero, List.set_cons_succ]
  iterate 4
    refine wpPlan_takeL (v := ?_) rfl (by rfl) (fun w' hw => ?_) ?_
    rotate_left
    · go_simp
      with_reducible rfl
    simp only [Act.put, List.setIfInBounds_toArray, List.set_cons_zero, List.set_cons_succ]
  refine wpPlan_nil (hT.out _ _ ?_); clear hT T
  intro G vw3 hg hf
  simp only [puts, Act.put, List.setIfInBounds_toArray, List.set_cons_zero, List.set_cons_succ, List.drop_succ_cons, List.drop_zero, ↓reduceIte, Nat.reduceEqDiff]
  clear lx0
  have HG := Lib.hid (hg)
  clear hg
  have bx2 := Bx.of_fresh hf (i := 8) (by decide) rfl
  have yx2 := (hf.1 8 (by decide)).1
  clear hf
  generalize G 8 = gx2 at *
  have qx0_2 : gx0 < gx2 := Nat.lt_of_lt_of_le BX0.out.lt yx2
  have qx1_2 : gx1 < gx2 := Nat.lt_of_lt_of_le BX1.out.lt yx2
  replace yx2 : w.heap.size ≤ gx2 := Nat.le_trans HB.out.size yx2
  have bx0 := BX0.out.gr HG.out; clear BX0
  have bx1 := BX1.out.gr HG.out; clear BX1
  have lx2 := bx2.cells; have fx2 := bx2.free
  have r0 := Gr.refl vw3
  have BX0 := Lib.hid bx0; clear bx0
  have BX1 := Lib.hid bx1; clear bx1
  have BX2 := Lib.hid bx2; clear bx2
  go_wp2
  refine kO hK ?_; clear hK K
  clear lx2 fx2
  clear r0
  refine forgetW (fun w2 => Bx w2 gx0 38 #[.int .u64 ((lo (Int.natAbs ((qn 0).num)) : Nat) : Int), .string (bg (Int.natAbs ((qn 0).num))), .bool (decide (((qn 0).num) < 0)), .int .u64 ((lo ((qn 0).den - 1) : Nat) : Int), .string (bg ((qn 0).den - 1)), .int .u64 ((lo (Int.natAbs ((qn 0).num)) : Nat) : Int), .string (bg (Int.natAbs ((qn 0).num))), .bool (decide (((qn 0).num) < 0)), .int .u64 ((lo ((qn 0).den - 1) : Nat) : Int), .string (bg ((qn 0).den - 1))] ∧ Bx w2 gx1 38 #[.int .u64 ((lo (Int.natAbs ((qn 1).num)) : Nat) : Int), .string (bg (Int.natAbs ((qn 1).num))), .bool (decide (((qn 1).num) < 0)), .int .u64 ((lo ((qn 1).den - 1) : Nat) : Int), .string (bg ((qn 1).den - 1)), .int .u64 ((lo (Int.natAbs ((qn 1).num)) : Nat) : Int), .string (bg (Int.natAbs ((qn 1).num))), .bool (decide (((qn 1).num) < 0)), .int .u64 ((lo ((qn 1).den - 1) : Nat) : Int), .string (bg ((qn 1).den - 1))] ∧ Bx w2 gx2 38 #[.int .u64 ((lo (Int.natAbs ((qn 1).num)) : Nat) : Int), .string (bg (Int.natAbs ((qn 1).num))), .bool (decide (((qn 1).num) < 0)), .int .u64 ((lo ((qn 1).den - 1) : Nat) : Int), .string (bg ((qn 1).den - 1)), .int .u64 ((lo (Int.natAbs ((qn 0).num)) : Nat) : Int), .string (bg (Int.natAbs ((qn 0).num))), .bool (decide (((qn 0).num) < 0)), .int .u64 ((lo ((qn 0).den - 1) : Nat) : Int), .string (bg ((qn 0).den - 1))] ∧ Below w.heap.size w w2) ⟨((((((((((BX0.out).setOther (by show gx0 ≠ gx2; omega) _).setOther (by show gx0 ≠ gx2; omega) _).setOther (by show gx0 ≠ gx2; omega) _).setOther (by show gx0 ≠ gx2; omega) _).setOther (by show gx0 ≠ gx2; omega) _).setOther (by show gx0 ≠ gx2; omega) _).setOther (by show gx0 ≠ gx2; omega) _).setOther (by show gx0 ≠ gx2; omega) _).setOther (by show gx0 ≠ gx2; omega) _).setOther (by show gx0 ≠ gx2; omega) _, ((((((((((BX1.out).setOther (by show gx1 ≠ gx2; omega) _).setOther (by show gx1 ≠ gx2; omega) _).setOther (by show gx1 ≠ gx2; omega) _).setOther (by show gx1 ≠ gx2; omega) _).setOther (by show gx1 ≠ gx2; omega) _).setOther (by show gx1 ≠ gx2; omega) _).setOther (by show gx1 ≠ gx2; omega) _).setOther (by show gx1 ≠ gx2; omega) _).setOther (by show gx1 ≠ gx2; omega) _).setOther (by show gx1 ≠ gx2; omega) _, (((((((((((BX2.out).set 0 _).set 1 _).set 2 _).set 3 _).set 4 _).set 5 _).set 6 _).set 7 _).set 8 _).set 9 _).eq (by simp only [List.setIfInBounds_toArray, List.set_cons_zero, List.set_cons_succ]), ((((((((((HB.out.trans (HG.out.mono HB.out.size)).setCell (by show w.heap.size ≤ gx2; omega) _).setCell (by show w.heap.size ≤ gx2; omega) _).setCell (by show w.heap.size ≤ gx2; omega) _).setCell (by show w.heap.size ≤ gx2; omega) _).setCell (by show w.heap.size ≤ gx2; omega) _).setCell (by show w.heap.size ≤ gx2; omega) _).setCell (by show w.heap.size ≤ gx2; omega) _).setCell (by show w.heap.size ≤ gx2; omega) _).setCell (by show w.heap.size ≤ gx2; omega) _).setCell (by show w.heap.size ≤ gx2; omega) _⟩ ?_
  clear HB HG BX0 BX1 BX2
  rintro Wx3 ⟨bx0, bx1, bx2, HB⟩
  replace HB := Lib.hid HB
  -- region 4
  have BX0 := Lib.hid bx0
  have BX1 := Lib.hid bx1
  have BX2 := Lib.hid bx2
  clear bx0 bx1 bx2
  refine wp_seq_k fun K hK => ?_
  replace hK := Lib.hid hK
  refine wp_region_seqplan 1 [(true, 0)] (by rfl) (by simp) (fun T hT => ?_)
  refine wpPlan_callL rfl (by rfl) Tryz.call93 (fun w' hw => ppint_any 2 0 (qn 2) (qn 0) _ rfl rfl (by decide) (by decide) (by decide) (by decide)) (by rfl) ?_
  simp only [Act.put, List.setIfInBounds_toArray, List.set_cons_zero, List.set_cons_succ]
  refine wpPlan_nil (hT.out _ _ ?_); clear hT T
  intro vw4 hg
  simp only [puts, Act.put, List.setIfInBounds_toArray, List.set_cons_zero, List.set_cons_succ, List.drop_succ_cons, List.drop_zero, ↓reduceIte, Nat.reduceEqDiff]
  have HG := Lib.hid (hg)
  clear hg
  have bx0 := BX0.out.gr HG.out; clear BX0
  have bx1 := BX1.out.gr HG.out; clear BX1
  have bx2 := BX2.out.gr HG.out; clear BX2
  have r0 := Gr.refl vw4
  have BX0 := Lib.hid bx0; clear bx0
  have BX1 := Lib.hid bx1; clear bx1
  have BX2 := Lib.hid bx2; clear bx2
  go_wp2
  refine kO hK ?_; clear hK K
  clear r0
  have hsz : w.heap.size ≤ vw4.heap.size := Nat.le_trans HB.out.size HG.out.size
  have mx0 : gx0 < vw4.heap.size := BX0.out.lt
  have mx1 : gx1 < vw4.heap.size := BX1.out.lt
  have mx2 : gx2 < vw4.heap.size := BX2.out.lt
  refine forgetW (fun w2 => Bx w2 gx0 38 #[.int .u64 ((lo (Int.natAbs ((qn 0).num)) : Nat) : Int), .string (bg (Int.natAbs ((qn 0).num))), .bool (decide (((qn 0).num) < 0)), .int .u64 ((lo ((qn 0).den - 1) : Nat) : Int), .string (bg ((qn 0).den - 1)), .int .u64 ((lo (Int.natAbs ((qn 0).num)) : Nat) : Int), .string (bg (Int.natAbs ((qn 0).num))), .bool (decide (((qn 0).num) < 0)), .int .u64 ((lo ((qn 0).den - 1) : Nat) : Int), .string (bg ((qn 0).den - 1))] ∧ Bx w2 gx1 38 #[.int .u64 ((lo (Int.natAbs ((qn 1).num)) : Nat) : Int), .string (bg (Int.natAbs ((qn 1).num))), .bool (decide (((qn 1).num) < 0)), .int .u64 ((lo ((qn 1).den - 1) : Nat) : Int), .string (bg ((qn 1).den - 1)), .int .u64 ((lo (Int.natAbs ((qn 1).num)) : Nat) : Int), .string (bg (Int.natAbs ((qn 1).num))), .bool (decide (((qn 1).num) < 0)), .int .u64 ((lo ((qn 1).den - 1) : Nat) : Int), .string (bg ((qn 1).den - 1))] ∧ Bx w2 gx2 38 #[.int .u64 ((lo (Int.natAbs ((qn 1).num)) : Nat) : Int), .string (bg (Int.natAbs ((qn 1).num))), .bool (decide (((qn 1).num) < 0)), .int .u64 ((lo ((qn 1).den - 1) : Nat) : Int), .string (bg ((qn 1).den - 1)), .int .u64 ((lo (Int.natAbs ((qn 0).num)) : Nat) : Int), .string (bg (Int.natAbs ((qn 0).num))), .bool (decide (((qn 0).num) < 0)), .int .u64 ((lo ((qn 0).den - 1) : Nat) : Int), .string (bg ((qn 0).den - 1))] ∧ Bx w2 (vw4.heap.size) 38 #[.int .u64 ((lo (Int.natAbs ((qn 2).num)) : Nat) : Int), .string (bg (Int.natAbs ((qn 2).num))), .bool (decide (((qn 2).num) < 0)), .int .u64 ((lo ((qn 2).den - 1) : Nat) : Int), .string (bg ((qn 2).den - 1)), .int .u64 ((lo (Int.natAbs ((qn 0).num)) : Nat) : Int), .string (bg (Int.natAbs ((qn 0).num))), .bool (decide (((qn 0).num) < 0)), .int .u64 ((lo ((qn 0).den - 1) : Nat) : Int), .string (bg ((qn 0).den - 1))] ∧ Below w.heap.size w w2) ⟨(BX0.out).alloc _, (BX1.out).alloc _, (BX2.out).alloc _, (Bx.at (by simp) : Bx _ (vw4.heap.size) _ _), (HB.out.trans (HG.out.mono HB.out.size)).alloc (by first | omega | (simp; omega)) _⟩ ?_
  clear HB HG BX0 BX1 BX2
  rintro Wx4 ⟨bx0, bx1, bx2, bx3, HB⟩
  replace HB := Lib.hid HB
  have yx3 : w.heap.size ≤ vw4.heap.size := by omega
  have qx0_3 : gx0 < vw4.heap.size := by omega
  have qx1_3 : gx1 < vw4.heap.size := by omega
  have qx2_3 : gx2 < vw4.heap.size := by omega
  generalize hx3 : vw4.heap.size = gx3 at *
  clear hx3
  clear hsz mx0 mx1 mx2
  -- region 5
  have BX0 := Lib.hid bx0
  have BX1 := Lib.hid bx1
  have BX2 := Lib.hid bx2
  have BX3 := Lib.hid bx3
  clear bx0 bx1 bx2 bx3
  refine wp_seq_k fun K hK => ?_
  replace hK := Lib.hid hK
  refine wp_region_seqplan 1 [(true, 0)] (by rfl) (by simp) (fun T hT => ?_)
  refine wpPlan_callL rfl (by rfl) Tryz.call93 (fun w' hw => ppint_any 0 2 (qn 0) (qn 2) _ rfl rfl (by decide) (by decide) (by decide) (by decide)) (by rfl) ?_
  simp only [Act.put, List.setIfInBounds_toArray, List.set_cons_zero, List.set_cons_succ]
  refine wpPlan_nil (hT.out _ _ ?_); clear hT T
  intro vw5 hg
  simp only [puts, Act.put, List.setIfInBounds_toArray, List.set_cons_zero, List.set_cons_succ, List.drop_succ_cons, List.drop_zero, ↓reduceIte, Nat.reduceEqDiff]
  have HG := Lib.hid (hg)
  clear hg
  have bx0 := BX0.out.gr HG.out; clear BX0
  have bx1 := BX1.out.gr HG.out; clear BX1
  have bx2 := BX2.out.gr HG.out; clear BX2
  have bx3 := BX3.out.gr HG.out; clear BX3
  have r0 := Gr.refl vw5
  have BX0 := Lib.hid bx0; clear bx0
  have BX1 := Lib.hid bx1; clear bx1
  have BX2 := Lib.hid bx2; clear bx2
  have BX3 := Lib.hid bx3; clear bx3
  go_wp2
  refine kO hK ?_; clear hK K
  clear r0
  have hsz : w.heap.size ≤ vw5.heap.size := Nat.le_trans HB.out.size HG.out.size
  have mx0 : gx0 < vw5.heap.size := BX0.out.lt
  have mx1 : gx1 < vw5.heap.size := BX1.out.lt
  have mx2 : gx2 < vw5.heap.size := BX2.out.lt
  have mx3 : gx3 < vw5.heap.size := BX3.out.lt
  refine forgetW (fun w2 => Bx w2 gx0 38 #[.int .u64 ((lo (Int.natAbs ((qn 0).num)) : Nat) : Int), .string (bg (Int.natAbs ((qn 0).num))), .bool (decide (((qn 0).num) < 0)), .int .u64 ((lo ((qn 0).den - 1) : Nat) : Int), .string (bg ((qn 0).den - 1)), .int .u64 ((lo (Int.natAbs ((qn 0).num)) : Nat) : Int), .string (bg (Int.natAbs ((qn 0).num))), .bool (decide (((qn 0).num) < 0)), .int .u64 ((lo ((qn 0).den - 1) : Nat) : Int), .string (bg ((qn 0).den - 1))] ∧ Bx w2 gx1 38 #[.int .u64 ((lo (Int.natAbs ((qn 1).num)) : Nat) : Int), .string (bg (Int.natAbs ((qn 1).num))), .bool (decide (((qn 1).num) < 0)), .int .u64 ((lo ((qn 1).den - 1) : Nat) : Int), .string (bg ((qn 1).den - 1)), .int .u64 ((lo (Int.natAbs ((qn 1).num)) : Nat) : Int), .string (bg (Int.natAbs ((qn 1).num))), .bool (decide (((qn 1).num) < 0)), .int .u64 ((lo ((qn 1).den - 1) : Nat) : Int), .string (bg ((qn 1).den - 1))] ∧ Bx w2 gx2 38 #[.int .u64 ((lo (Int.natAbs ((qn 1).num)) : Nat) : Int), .string (bg (Int.natAbs ((qn 1).num))), .bool (decide (((qn 1).num) < 0)), .int .u64 ((lo ((qn 1).den - 1) : Nat) : Int), .string (bg ((qn 1).den - 1)), .int .u64 ((lo (Int.natAbs ((qn 0).num)) : Nat) : Int), .string (bg (Int.natAbs ((qn 0).num))), .bool (decide (((qn 0).num) < 0)), .int .u64 ((lo ((qn 0).den - 1) : Nat) : Int), .string (bg ((qn 0).den - 1))] ∧ Bx w2 gx3 38 #[.int .u64 ((lo (Int.natAbs ((qn 2).num)) : Nat) : Int), .string (bg (Int.natAbs ((qn 2).num))), .bool (decide (((qn 2).num) < 0)), .int .u64 ((lo ((qn 2).den - 1) : Nat) : Int), .string (bg ((qn 2).den - 1)), .int .u64 ((lo (Int.natAbs ((qn 0).num)) : Nat) : Int), .string (bg (Int.natAbs ((qn 0).num))), .bool (decide (((qn 0).num) < 0)), .int .u64 ((lo ((qn 0).den - 1) : Nat) : Int), .string (bg ((qn 0).den - 1))] ∧ Bx w2 (vw5.heap.size) 38 #[.int .u64 ((lo (Int.natAbs ((qn 0).num)) : Nat) : Int), .string (bg (Int.natAbs ((qn 0).num))), .bool (decide (((qn 0).num) < 0)), .int .u64 ((lo ((qn 0).den - 1) : Nat) : Int), .string (bg ((qn 0).den - 1)), .int .u64 ((lo (Int.natAbs ((qn 2).num)) : Nat) : Int), .string (bg (Int.natAbs ((qn 2).num))), .bool (decide (((qn 2).num) < 0)), .int .u64 ((lo ((qn 2).den - 1) : Nat) : Int), .string (bg ((qn 2).den - 1))] ∧ Below w.heap.size w w2) ⟨(BX0.out).alloc _, (BX1.out).alloc _, (BX2.out).alloc _, (BX3.out).alloc _, (Bx.at (by simp) : Bx _ (vw5.heap.size) _ _), (HB.out.trans (HG.out.mono HB.out.size)).alloc (by first | omega | (simp; omega)) _⟩ ?_
  clear HB HG BX0 BX1 BX2 BX3
  rintro Wx5 ⟨bx0, bx1, bx2, bx3, bx4, HB⟩
  replace HB := Lib.hid HB
  have yx4 : w.heap.size ≤ vw5.heap.size := by omega
  have qx0_4 : gx0 < vw5.heap.size := by omega
  have qx1_4 : gx1 < vw5.heap.size := by omega
  have qx2_4 : gx2 < vw5.heap.size := by omega
  have qx3_4 : gx3 < vw5.heap.size := by omega
  generalize hx4 : vw5.heap.size = gx4 at *
  clear hx4
  clear hsz mx0 mx1 mx2 mx3
  -- region 6
  have lx0 := bx0.cells
  have lx3 := bx3.cells
  have lx4 := bx4.cells
  have BX0 := Lib.hid bx0
  have BX1 := Lib.hid bx1
  have BX2 := Lib.hid bx2
  have BX3 := Lib.hid bx3
  have BX4 := Lib.hid bx4
  clear bx0 bx1 bx2 bx3 bx4
  refine wp_seq_k fun K hK => ?_
  replace hK := Lib.hid hK
  refine wp_region_plan 22 [] [] (fun _ => 0) (fun _ => .cells #[] 0) [(true, 0), (true, 1), (true, 2), (true, 3), (true, 4), (true, 5), (true, 6), (true, 7), (true, 8), (true, 9), (true, 10), (true, 11), (true, 12), (true, 13), (true, 14), (true, 15), (true, 16), (true, 17), (true, 18), (true, 19), (true, 20), (true, 21)] (by kernel_rfl) (by kernel_rfl) (fun i hi => by cases hi) (fun i hi => by cases hi) (fun _ _ _ _ _ h => h) (fun T hT => ?_)
  iterate 3
    refine wpPlan_takeL (v := ?_) rfl (by rfl) (fun w' hw => ?_) ?_
    rotate_left
    · go_simp
      with_reducible rfl
    simp only [Act.put, List.setIfInBounds_toArray, List.set_cons_zero, List.set_cons_succ]
  refine wpPlan_callL rfl (by rfl) Tryz.call93 (fun w' hw => ppint_any 2 2 (qn 2) (qn 2) _ rfl rfl (by decide) (by decide) (by decide) (by decide)) (by rfl) ?_
  simp only [Act.put, List.setIfInBounds_toArray, List.set_cons_zero, List.set_cons_succ]
  refine wpPlan_callL rfl (by rfl) Tryz.call94 (fun w' hw => pcircle_any (qn 0) (qn 0) (qn 2) (qn 0) (qn 0) (qn 2) (qn 2) (qn 2) (0) (1) (0) _ (by decide +kernel) (by decide +kernel) (by decide) (by first | omega | exact Nat.le_trans (wl_small (by decide)) (by decide)) (by first | omega | exact Nat.le_trans (wl_small (by decide)) (by decide)) (by first | omega | exact Nat.le_trans (wl_small (by decide)) (by decide)) (by first | omega | exact Nat.le_trans (wl_small (by decide)) (by decide)) (by first | omega | exact Nat.le_trans (wl_small (by decide)) (by decide)) (by first | omega | exact Nat.le_trans (wl_small (by decide)) (by decide)) (by first | omega | exact Nat.le_trans (wl_small (by decide)) (by decide)) (by first | omega | exact Nat.le_trans (wl_small (by decide)) (by decide))) (by rfl) ?_
  simp only [Act.put, List.setIfInBounds_toArray, List.set_cons_zero, List.set_cons_succ]
  iterate 5
    refine wpPlan_takeL (v := ?_) rfl (by rfl) (fun w' hw => ?_) ?_
    rotate_left
    · go_simp
      with_reducible rfl
    simp only [Act.put, List.setIfInBounds_toArray, List.set_cons_zero, List.set_cons_succ]
  refine wpPlan_callL rfl (by rfl) Tryz.call93 (fun w' hw => ppint_any 1 1 (qn 1) (qn 1) _ rfl rfl (by decide) (by decide) (by decide) (by decide)) (by rfl) ?_
  simp only [Act.put, List.setIfInBounds_toArray, List.set_cons_zero, List.set_cons_succ]
  refine wpPlan_callL rfl (by rfl) Tryz.call94 (fun w' hw => pcircle_any (qn 0) (qn 0) (qn 2) (qn 0) (qn 0) (qn 2) (qn 1) (qn 1) (1) (1) (1) _ (by decide +kernel) (by decide +kernel) (by decide) (by first | omega | exact Nat.le_trans (wl_small (by decide)) (by decide)) (by first | omega | exact Nat.le_trans (wl_small (by decide)) (by decide)) (by first | omega | exact Nat.le_trans (wl_small (by decide)) (by decide)) (by first | omega | exact Nat.le_trans (wl_small (by decide)) (by decide)) (by first | omega | exact Nat.le_trans (wl_small (by decide)) (by decide)) (by first | omega | exact Nat.le_trans (wl_small (by decide)) (by decide)) (by first | omega | exact Nat.le_trans (wl_small (by decide)) (by decide)) (by first | omega | exact Nat.le_trans (wl_small (by decide)) (by decide))) (by rfl) ?_
  simp only [Act.put, List.setIfInBounds_toArray, List.set_cons_zero, List.set_cons_succ]
  iterate 6
    refine wpPlan_takeL (v := ?_) rfl (by rfl) (fun w' hw => ?_) ?_
    rotate_left
    · go_simp
      with_reducible rfl
    simp only [Act.put, List.setIfInBounds_toArray, List.set_cons_zero, List.set_cons_succ]
  refine wpPlan_callL rfl (by rfl) Tryz.call93 (fun w' hw => ppint_any 3 3 (qn 3) (qn 3) _ rfl rfl (by decide) (by decide) (by decide) (by decide)) (by rfl) ?_
  simp only [Act.put, List.setIfInBounds_toArray, List.set_cons_zero, List.set_cons_succ]
  refine wpPlan_callL rfl (by rfl) Tryz.call94 (fun w' hw => pcircle_any (qn 0) (qn 0) (qn 2) (qn 0) (qn 0) (qn 2) (qn 3) (qn 3) (-1) (1) (-1) _ (by decide +kernel) (by decide +kernel) (by decide) (by first | omega | exact Nat.le_trans (wl_small (by decide)) (by decide)) (by first | omega | exact Nat.le_trans (wl_small (by decide)) (by decide)) (by first | omega | exact Nat.le_trans (wl_small (by decide)) (by decide)) (by first | omega | exact Nat.le_trans (wl_small (by decide)) (by decide)) (by first | omega | exact Nat.le_trans (wl_small (by decide)) (by decide)) (by first | omega | exact Nat.le_trans (wl_small (by decide)) (by decide)) (by first | omega | exact Nat.le_trans (wl_small (by decide)) (by decide)) (by first | omega | exact Nat.le_trans (wl_small (by decide)) (by decide))) (by rfl) ?_
  simp only [Act.put, List.setIfInBounds_toArray, List.set_cons_zero, List.set_cons_succ]
  iterate 2
    refine wpPlan_takeL (v := ?_) rfl (by rfl) (fun w' hw => ?_) ?_
    rotate_left
    · go_simp
      with_reducible rfl
    simp only [Act.put, List.setIfInBounds_toArray, List.set_cons_zero, List.set_cons_succ]
  refine wpPlan_nil (hT.out _ _ ?_); clear hT T
  intro G vw6 hg hf
  simp only [puts, Act.put, List.setIfInBounds_toArray, List.set_cons_zero, List.set_cons_succ, List.drop_succ_cons, List.drop_zero, ↓reduceIte, Nat.reduceEqDiff]
  clear lx0 lx3 lx4
  have HG := Lib.hid (hg)
  clear hg
  have bx0 := BX0.out.gr HG.out; clear BX0
  have bx1 := BX1.out.gr HG.out; clear BX1
  have bx2 := BX2.out.gr HG.out; clear BX2
  have bx3 := BX3.out.gr HG.out; clear BX3
  have bx4 := BX4.out.gr HG.out; clear BX4
  have r0 := Gr.refl vw6
  have BX0 := Lib.hid bx0; clear bx0
  have BX1 := Lib.hid bx1; clear bx1
  have BX2 := Lib.hid bx2; clear bx2
  have BX3 := Lib.hid bx3; clear bx3
  have BX4 := Lib.hid bx4; clear bx4
  go_wp2
  refine kO hK ?_; clear hK K
  clear r0
  refine forgetW (fun w2 => Bx w2 gx0 38 #[.int .u64 ((lo (Int.natAbs ((qn 0).num)) : Nat) : Int), .string (bg (Int.natAbs ((qn 0).num))), .bool (decide (((qn 0).num) < 0)), .int .u64 ((lo ((qn 0).den - 1) : Nat) : Int), .string (bg ((qn 0).den - 1)), .int .u64 ((lo (Int.natAbs ((qn 0).num)) : Nat) : Int), .string (bg (Int.natAbs ((qn 0).num))), .bool (decide (((qn 0).num) < 0)), .int .u64 ((lo ((qn 0).den - 1) : Nat) : Int), .string (bg ((qn 0).den - 1))] ∧ Bx w2 gx1 38 #[.int .u64 ((lo (Int.natAbs ((qn 1).num)) : Nat) : Int), .string (bg (Int.natAbs ((qn 1).num))), .bool (decide (((qn 1).num) < 0)), .int .u64 ((lo ((qn 1).den - 1) : Nat) : Int), .string (bg ((qn 1).den - 1)), .int .u64 ((lo (Int.natAbs ((qn 1).num)) : Nat) : Int), .string (bg (Int.natAbs ((qn 1).num))), .bool (decide (((qn 1).num) < 0)), .int .u64 ((lo ((qn 1).den - 1) : Nat) : Int), .string (bg ((qn 1).den - 1))] ∧ Bx w2 gx2 38 #[.int .u64 ((lo (Int.natAbs ((qn 1).num)) : Nat) : Int), .string (bg (Int.natAbs ((qn 1).num))), .bool (decide (((qn 1).num) < 0)), .int .u64 ((lo ((qn 1).den - 1) : Nat) : Int), .string (bg ((qn 1).den - 1)), .int .u64 ((lo (Int.natAbs ((qn 0).num)) : Nat) : Int), .string (bg (Int.natAbs ((qn 0).num))), .bool (decide (((qn 0).num) < 0)), .int .u64 ((lo ((qn 0).den - 1) : Nat) : Int), .string (bg ((qn 0).den - 1))] ∧ Below w.heap.size w w2) ⟨BX0.out, BX1.out, BX2.out, HB.out.trans (HG.out.mono HB.out.size)⟩ ?_
  clear HB HG BX0 BX1 BX2 BX3 BX4
  rintro Wx6 ⟨bx0, bx1, bx2, HB⟩
  replace HB := Lib.hid HB
  -- region 7
  have lx0 := bx0.cells
  have lx1 := bx1.cells
  have lx2 := bx2.cells
  have BX0 := Lib.hid bx0
  have BX1 := Lib.hid bx1
  have BX2 := Lib.hid bx2
  clear bx0 bx1 bx2
  refine wp_seq_k fun K hK => ?_
  replace hK := Lib.hid hK
  refine wp_region_plan 26 [] [] (fun _ => 0) (fun _ => .cells #[] 0) [(true, 0), (true, 1), (true, 2), (true, 3), (true, 4), (true, 5), (true, 6), (true, 7), (true, 8), (true, 9), (true, 10), (true, 11), (true, 12), (true, 13), (true, 14), (true, 15), (true, 16), (true, 17), (true, 18), (true, 19), (true, 20), (true, 21), (true, 22), (true, 23), (true, 24), (true, 25)] (by kernel_rfl) (by kernel_rfl) (fun i hi => by cases hi) (fun i hi => by cases hi) (fun _ _ _ _ _ h => h) (fun T hT => ?_)
  iterate 1
    refine wpPlan_takeL (v := ?_) rfl (by rfl) (fun w' hw => ?_) ?_
    rotate_left
    · go_simp
      with_reducible rfl
    simp only [Act.put, List.setIfInBounds_toArray, List.set_cons_zero, List.set_cons_succ]
  refine wpPlan_callL rfl (by rfl) Tryz.call93 (fun w' hw => ppint_any 1 0 (qn 1) (qn 0) _ rfl rfl (by decide) (by decide) (by decide) (by decide)) (by rfl) ?_
  simp only [Act.put, List.setIfInBounds_toArray, List.set_cons_zero, List.set_cons_succ]
  refine wpPlan_callL rfl (by rfl) Tryz.call93 (fun w' hw => ppint_any 0 1 (qn 0) (qn 1) _ rfl rfl (by decide) (by decide) (by decide) (by decide)) (by rfl) ?_
  simp only [Act.put, List.setIfInBounds_toArray, List.set_cons_zero, List.set_cons_succ]
  refine wpPlan_callL rfl (by rfl) Tryz.call76 (fun w' hw => pturn_any (qn 0) (qn 0) (qn 1) (qn 0) (qn 0) (qn 1) (1) _ (by decide +kernel) (by first | omega | exact Nat.le_trans (wl_small (by decide)) (by decide)) (by first | omega | exact Nat.le_trans (wl_small (by decide)) (by decide)) (by first | omega | exact Nat.le_trans (wl_small (by decide)) (by decide)) (by first | omega | exact Nat.le_trans (wl_small (by decide)) (by decide)) (by first | omega | exact Nat.le_trans (wl_small (by decide)) (by decide)) (by first | omega | exact Nat.le_trans (wl_small (by decide)) (by decide))) (by rfl) ?_
  simp only [Act.put, List.setIfInBounds_toArray, List.set_cons_zero, List.set_cons_succ]
  iterate 10
    refine wpPlan_takeL (v := ?_) rfl (by rfl) (fun w' hw => ?_) ?_
    rotate_left
    · go_simp
      with_reducible rfl
    simp only [Act.put, List.setIfInBounds_toArray, List.set_cons_zero, List.set_cons_succ]
  refine wpPlan_callL rfl (by rfl) Tryz.call93 (fun w' hw => ppint_any 1 1 (qn 1) (qn 1) _ rfl rfl (by decide) (by decide) (by decide) (by decide)) (by rfl) ?_
  simp only [Act.put, List.setIfInBounds_toArray, List.set_cons_zero, List.set_cons_succ]
  iterate 8
    refine wpPlan_takeL (v := ?_) rfl (by rfl) (fun w' hw => ?_) ?_
    rotate_left
    · go_simp
      with_reducible rfl
    simp only [Act.put, List.setIfInBounds_toArray, List.set_cons_zero, List.set_cons_succ]
  refine wpPlan_callL rfl (by rfl) Tryz.call93 (fun w' hw => ppint_any 1 0 (qn 1) (qn 0) _ rfl rfl (by decide) (by decide) (by decide) (by decide)) (by rfl) ?_
  simp only [Act.put, List.setIfInBounds_toArray, List.set_cons_zero, List.set_cons_succ]
  iterate 2
    refine wpPlan_takeL (v := ?_) rfl (by rfl) (fun w' hw => ?_) ?_
    rotate_left
    · go_simp
      with_reducible rfl
    simp only [Act.put, List.setIfInBounds_toArray, List.set_cons_zero, List.set_cons_succ]
  refine wpPlan_nil (hT.out _ _ ?_); clear hT T
  intro G vw7 hg hf
  simp only [puts, Act.put, List.setIfInBounds_toArray, List.set_cons_zero, List.set_cons_succ, List.drop_succ_cons, List.drop_zero, ↓reduceIte, Nat.reduceEqDiff]
  clear lx0 lx1 lx2
  have HG := Lib.hid (hg)
  clear hg
  have bx0 := BX0.out.gr HG.out; clear BX0
  have bx1 := BX1.out.gr HG.out; clear BX1
  have bx2 := BX2.out.gr HG.out; clear BX2
  have r0 := Gr.refl vw7
  have BX0 := Lib.hid bx0; clear bx0
  have BX1 := Lib.hid bx1; clear bx1
  have BX2 := Lib.hid bx2; clear bx2
  go_wp2
  refine kO hK ?_; clear hK K
  clear r0
  refine forgetW (fun w2 => Below w.heap.size w w2) (HB.out.trans (HG.out.mono HB.out.size)) ?_
  clear HB HG BX0 BX1 BX2
  rintro Wx7 HB
  replace HB := Lib.hid HB
  refine wp_ret ?_
  try simp only [Exit.then, Exit.inBlock]
  have r0 := Gr.refl Wx7
  exact bodyPost_ret (v := .bool true) (by simp [results, Tryz.results21, go_sem]) rfl ⟨rfl, HB.out⟩
end Go.Proofs.YtobojnodohjiaaaGreatDoor
