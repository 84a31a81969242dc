/- points.piece. -/
import Derived.Test.YtenpbnmmadbkdaaPts3
namespace Go.Proofs.Ytenpbnmmadbkdaa
open Go.RowKit
-- short cells
set_option linter.unusedSimpArgs false
set_option linter.unusedVariables false
attribute [local go_sem ↓] Go.wp_at_zero Go.wp_at_succ
theorem qA {α : Type} {l : List α} {i : Nat} {a : α} : l.toArray.setIfInBounds i a = (l.set i a).toArray := List.setIfInBounds_toArray _ _ _
theorem qB {α : Type} {x : α} {l : List α} {a : α} : (x :: l).set 0 a = a :: l := rfl
theorem qC {α : Type} {x : α} {l : List α} {n : Nat} {a : α} : (x :: l).set (n + 1) a = x :: l.set n a := rfl
theorem qD {α : Type} {x : α} {l : List α} {n : Nat} : (x :: l).drop (n + 1) = l.drop n := rfl
theorem qE {α : Type} {l : List α} : l.drop 0 = l := rfl

theorem eq_int (d : Nat) (a b : Int) (w : World) : (Op.equalIn (d + 4) 34 (Value.agg #[.int .u64 (lo (Int.natAbs (a))), .string (bg (Int.natAbs (a))), .bool (decide ((a) < 0))]) (Value.agg #[.int .u64 (lo (Int.natAbs (b))), .string (bg (Int.natAbs (b))), .bool (decide ((b) < 0))])).run Try.prog w = .ok (decide (a = b)) w := by
  have e : decide (a = b) = (decide (a.natAbs = b.natAbs) && decide (decide (a < 0) = decide (b < 0))) := by
    rw [← Bool.decide_and]
    apply decide_eq_decide.2
    constructor
    · rintro rfl; exact ⟨rfl, rfl⟩
    · rintro ⟨h1, h2⟩
      have := decide_eq_decide.1 h2
      omega
  rw [e]
  simp [go_sem, eq_nat]
  by_cases h1 : a.natAbs = b.natAbs <;> by_cases h2 : a < 0 <;> by_cases h3 : b < 0 <;> simp [h1, h2, h3]
theorem eq_frac (d : Nat) (a b : Rat) (w : World) : (Op.equalIn (d + 5) 36 (Value.agg #[.int .u64 (lo a.num.natAbs), .string (bg a.num.natAbs), .bool (decide (a.num < 0)), .int .u64 (lo (a.den - 1)), .string (bg (a.den - 1))]) (Value.agg #[.int .u64 (lo b.num.natAbs), .string (bg b.num.natAbs), .bool (decide (b.num < 0)), .int .u64 (lo (b.den - 1)), .string (bg (b.den - 1))])).run Try.prog w = .ok (decide (a = b)) w := by
  have e : decide (a = b) = (decide (a.num = b.num) && decide (a.den - 1 = b.den - 1)) := by
    rw [← Bool.decide_and]
    apply decide_eq_decide.2
    constructor
    · rintro rfl; exact ⟨rfl, rfl⟩
    · rintro ⟨h1, h2⟩; exact frac_inj h1 h2
  rw [e]
  simp [go_sem, eq_int, eq_nat]
  by_cases h1 : a.num = b.num <;> by_cases h2 : a.den - 1 = b.den - 1 <;> simp [h1, h2]
theorem eq_pt (d : Nat) (a1 a2 b1 b2 : Rat) (w : World) : (Op.equalIn (d + 6) 38 (Value.agg #[.int .u64 (lo a1.num.natAbs), .string (bg a1.num.natAbs), .bool (decide (a1.num < 0)), .int .u64 (lo (a1.den - 1)), .string (bg (a1.den - 1)), .int .u64 (lo a2.num.natAbs), .string (bg a2.num.natAbs), .bool (decide (a2.num < 0)), .int .u64 (lo (a2.den - 1)), .string (bg (a2.den - 1))]) (Value.agg #[.int .u64 (lo b1.num.natAbs), .string (bg b1.num.natAbs), .bool (decide (b1.num < 0)), .int .u64 (lo (b1.den - 1)), .string (bg (b1.den - 1)), .int .u64 (lo b2.num.natAbs), .string (bg b2.num.natAbs), .bool (decide (b2.num < 0)), .int .u64 (lo (b2.den - 1)), .string (bg (b2.den - 1))])).run Try.prog w = .ok (decide (a1 = b1) && decide (a2 = b2)) w := by
  simp [go_sem, eq_frac]
  by_cases h1 : a1 = b1 <;> by_cases h2 : a2 = b2 <;> simp [h1, h2]

attribute [local go_sem ↓] eq_nat eq_nat_zero eq_int eq_frac eq_pt
set_option maxHeartbeats 4000000 in
theorem ppiece_none (a1 a2 b1 b2 c1 c2 d1 d2 la1 la2 lc1 lc2 fr1 fr2 ga1 ga2 gc1 gc2 to1 to2 : Rat) (r_la r_lc r_fr r_ga r_gc r_to : Bool) (w : World) (h_la : Hid (plt b1 b2 a1 a2 = r_la)) (h1_la : Hid ((if r_la then b1 else a1) = la1)) (h2_la : Hid ((if r_la then b2 else a2) = la2)) (h_lc : Hid (plt d1 d2 c1 c2 = r_lc)) (h1_lc : Hid ((if r_lc then d1 else c1) = lc1)) (h2_lc : Hid ((if r_lc then d2 else c2) = lc2)) (h_fr : Hid (plt la1 la2 lc1 lc2 = r_fr)) (h1_fr : Hid ((if r_fr then lc1 else la1) = fr1)) (h2_fr : Hid ((if r_fr then lc2 else la2) = fr2)) (h_ga : Hid (plt a1 a2 b1 b2 = r_ga)) (h1_ga : Hid ((if r_ga then b1 else a1) = ga1)) (h2_ga : Hid ((if r_ga then b2 else a2) = ga2)) (h_gc : Hid (plt c1 c2 d1 d2 = r_gc)) (h1_gc : Hid ((if r_gc then d1 else c1) = gc1)) (h2_gc : Hid ((if r_gc then d2 else c2) = gc2)) (h_to : Hid (plt gc1 gc2 ga1 ga2 = r_to)) (h1_to : Hid ((if r_to then gc1 else ga1) = to1)) (h2_to : Hid ((if r_to then gc2 else ga2) = to2)) (hl : Hid (plt to1 to2 fr1 fr2 = true)) (hs_a1 : sz a1 ≤ 100000000) (hs_a2 : sz a2 ≤ 100000000) (hs_b1 : sz b1 ≤ 100000000) (hs_b2 : sz b2 ≤ 100000000) (hs_c1 : sz c1 ≤ 100000000) (hs_c2 : sz c2 ≤ 100000000) (hs_d1 : sz d1 ≤ 100000000) (hs_d2 : sz d2 ≤ 100000000) (hs_la1 : sz la1 ≤ 100000000) (hs_la2 : sz la2 ≤ 100000000) (hs_lc1 : sz lc1 ≤ 100000000) (hs_lc2 : sz lc2 ≤ 100000000) (hs_fr1 : sz fr1 ≤ 100000000) (hs_fr2 : sz fr2 ≤ 100000000) (hs_ga1 : sz ga1 ≤ 100000000) (hs_ga2 : sz ga2 ≤ 100000000) (hs_gc1 : sz gc1 ≤ 100000000) (hs_gc2 : sz gc2 ≤ 100000000) (hs_to1 : sz to1 ≤ 100000000) (hs_to2 : sz to2 ≤ 100000000) :
    Calls Try.prog 42 #[(Value.agg #[.int .u64 (lo a1.num.natAbs), .string (bg a1.num.natAbs), .bool (decide (a1.num < 0)), .int .u64 (lo (a1.den - 1)), .string (bg (a1.den - 1)), .int .u64 (lo a2.num.natAbs), .string (bg a2.num.natAbs), .bool (decide (a2.num < 0)), .int .u64 (lo (a2.den - 1)), .string (bg (a2.den - 1))]), (Value.agg #[.int .u64 (lo b1.num.natAbs), .string (bg b1.num.natAbs), .bool (decide (b1.num < 0)), .int .u64 (lo (b1.den - 1)), .string (bg (b1.den - 1)), .int .u64 (lo b2.num.natAbs), .string (bg b2.num.natAbs), .bool (decide (b2.num < 0)), .int .u64 (lo (b2.den - 1)), .string (bg (b2.den - 1))]), (Value.agg #[.int .u64 (lo c1.num.natAbs), .string (bg c1.num.natAbs), .bool (decide (c1.num < 0)), .int .u64 (lo (c1.den - 1)), .string (bg (c1.den - 1)), .int .u64 (lo c2.num.natAbs), .string (bg c2.num.natAbs), .bool (decide (c2.num < 0)), .int .u64 (lo (c2.den - 1)), .string (bg (c2.den - 1))]), (Value.agg #[.int .u64 (lo d1.num.natAbs), .string (bg d1.num.natAbs), .bool (decide (d1.num < 0)), .int .u64 (lo (d1.den - 1)), .string (bg (d1.den - 1)), .int .u64 (lo d2.num.natAbs), .string (bg d2.num.natAbs), .bool (decide (d2.num < 0)), .int .u64 (lo (d2.den - 1)), .string (bg (d2.den - 1))])] w fun e w' => e = .returned (.tuple #[.int .i64 0, (.agg #[.int .u64 0, .string ⟨#[]⟩, .bool false, .int .u64 0, .string ⟨#[]⟩, .int .u64 0, .string ⟨#[]⟩, .bool false, .int .u64 0, .string ⟨#[]⟩])]) ∧ Below w.heap.size w w' := by
  go_enter Try.func42, Try.ntmps42
  -- region 0
  refine wp_seq_k fun K hK => ?_
  replace hK := Lib.hid hK
  refine wp_region_lit ?_
  go_wp2
  refine hK.out _ _ ?_; clear hK K
  show Code.wp _ _ _ _ _
  refine forgetW (fun w2 => Bx w2 (w.heap.size) 38 #[.int .u64 (lo a1.num.natAbs), .string (bg a1.num.natAbs), .bool (decide (a1.num < 0)), .int .u64 (lo (a1.den - 1)), .string (bg (a1.den - 1)), .int .u64 (lo a2.num.natAbs), .string (bg a2.num.natAbs), .bool (decide (a2.num < 0)), .int .u64 (lo (a2.den - 1)), .string (bg (a2.den - 1))] ∧ Bx w2 (w.heap.size + 1) 38 #[.int .u64 (lo b1.num.natAbs), .string (bg b1.num.natAbs), .bool (decide (b1.num < 0)), .int .u64 (lo (b1.den - 1)), .string (bg (b1.den - 1)), .int .u64 (lo b2.num.natAbs), .string (bg b2.num.natAbs), .bool (decide (b2.num < 0)), .int .u64 (lo (b2.den - 1)), .string (bg (b2.den - 1))] ∧ Bx w2 (w.heap.size + 1 + 1) 38 #[.int .u64 (lo c1.num.natAbs), .string (bg c1.num.natAbs), .bool (decide (c1.num < 0)), .int .u64 (lo (c1.den - 1)), .string (bg (c1.den - 1)), .int .u64 (lo c2.num.natAbs), .string (bg c2.num.natAbs), .bool (decide (c2.num < 0)), .int .u64 (lo (c2.den - 1)), .string (bg (c2.den - 1))] ∧ Bx w2 (w.heap.size + 1 + 1 + 1) 38 #[.int .u64 (lo d1.num.natAbs), .string (bg d1.num.natAbs), .bool (decide (d1.num < 0)), .int .u64 (lo (d1.den - 1)), .string (bg (d1.den - 1)), .int .u64 (lo d2.num.natAbs), .string (bg d2.num.natAbs), .bool (decide (d2.num < 0)), .int .u64 (lo (d2.den - 1)), .string (bg (d2.den - 1))] ∧ Bx w2 (w.heap.size + 1 + 1 + 1 + 1) 38 #[.int .u64 0, .string ⟨#[]⟩, .bool false, .int .u64 0, .string ⟨#[]⟩, .int .u64 0, .string ⟨#[]⟩, .bool false, .int .u64 0, .string ⟨#[]⟩] ∧ Below w.heap.size w w2) ⟨((((Bx.at rfl).alloc _).alloc _).alloc _).alloc _, (((Bx.at (by simp)).alloc _).alloc _).alloc _, ((Bx.at (by simp)).alloc _).alloc _, (Bx.at (by simp)).alloc _, Bx.at (by simp), (((((Below.refl _ _).alloc (Nat.le_refl _) _).alloc (by simp) _).alloc (by simp; omega) _).alloc (by simp; omega) _).alloc (by simp; omega) _⟩ ?_
  rintro Wx ⟨bx0, bx1, bx2, bx3, bx4, HB⟩
  replace HB := Lib.hid HB
  -- region 1
  have lx0 := bx0.cells
  have lx1 := bx1.cells
  have lx2 := bx2.cells
  have lx3 := bx3.cells
  have BX0 := Lib.hid bx0
  have BX1 := Lib.hid bx1
  have BX2 := Lib.hid bx2
  have BX3 := Lib.hid bx3
  have BX4 := Lib.hid bx4
  clear bx0 bx1 bx2 bx3 bx4
  refine wp_seq_k fun K hK => ?_
  replace hK := Lib.hid hK
  have HS0 := Lib.hid (HB.out.size)
  have MX0 : w.heap.size < Wx.heap.size := BX0.out.lt
  have MX1 : w.heap.size + 1 < Wx.heap.size := BX1.out.lt
  have MX2 : w.heap.size + 1 + 1 < Wx.heap.size := BX2.out.lt
  have MX3 : w.heap.size + 1 + 1 + 1 < Wx.heap.size := BX3.out.lt
  have MX4 : w.heap.size + 1 + 1 + 1 + 1 < Wx.heap.size := BX4.out.lt
  refine wp_region_early 22 [20, 21] [] (fun i => if i = 20 then 10 else 11) (fun i => if i = 20 then .cells #[.int .u64 0, .string ⟨#[]⟩, .bool false, .int .u64 0, .string ⟨#[]⟩, .int .u64 0, .string ⟨#[]⟩, .bool false, .int .u64 0, .string ⟨#[]⟩] 38 else .cells #[.int .u64 0, .string ⟨#[]⟩, .bool false, .int .u64 0, .string ⟨#[]⟩, .int .u64 0, .string ⟨#[]⟩, .bool false, .int .u64 0, .string ⟨#[]⟩] 38) (fun i => if i = 2 then (1, #[.int .u64 (lo b1.num.natAbs), .string (bg b1.num.natAbs), .bool (decide (b1.num < 0)), .int .u64 (lo (b1.den - 1)), .string (bg (b1.den - 1)), .int .u64 (lo b2.num.natAbs), .string (bg b2.num.natAbs), .bool (decide (b2.num < 0)), .int .u64 (lo (b2.den - 1)), .string (bg (b2.den - 1))], 38) else if i = 6 then (1, #[.int .u64 (lo d1.num.natAbs), .string (bg d1.num.natAbs), .bool (decide (d1.num < 0)), .int .u64 (lo (d1.den - 1)), .string (bg (d1.den - 1)), .int .u64 (lo d2.num.natAbs), .string (bg d2.num.natAbs), .bool (decide (d2.num < 0)), .int .u64 (lo (d2.den - 1)), .string (bg (d2.den - 1))], 38) else if i = 8 then (1, #[.int .u64 (lo lc1.num.natAbs), .string (bg lc1.num.natAbs), .bool (decide (lc1.num < 0)), .int .u64 (lo (lc1.den - 1)), .string (bg (lc1.den - 1)), .int .u64 (lo lc2.num.natAbs), .string (bg lc2.num.natAbs), .bool (decide (lc2.num < 0)), .int .u64 (lo (lc2.den - 1)), .string (bg (lc2.den - 1))], 38) else if i = 12 then (1, #[.int .u64 (lo b1.num.natAbs), .string (bg b1.num.natAbs), .bool (decide (b1.num < 0)), .int .u64 (lo (b1.den - 1)), .string (bg (b1.den - 1)), .int .u64 (lo b2.num.natAbs), .string (bg b2.num.natAbs), .bool (decide (b2.num < 0)), .int .u64 (lo (b2.den - 1)), .string (bg (b2.den - 1))], 38) else if i = 16 then (1, #[.int .u64 (lo d1.num.natAbs), .string (bg d1.num.natAbs), .bool (decide (d1.num < 0)), .int .u64 (lo (d1.den - 1)), .string (bg (d1.den - 1)), .int .u64 (lo d2.num.natAbs), .string (bg d2.num.natAbs), .bool (decide (d2.num < 0)), .int .u64 (lo (d2.den - 1)), .string (bg (d2.den - 1))], 38) else (1, #[.int .u64 (lo gc1.num.natAbs), .string (bg gc1.num.natAbs), .bool (decide (gc1.num < 0)), .int .u64 (lo (gc1.den - 1)), .string (bg (gc1.den - 1)), .int .u64 (lo gc2.num.natAbs), .string (bg gc2.num.natAbs), .bool (decide (gc2.num < 0)), .int .u64 (lo (gc2.den - 1)), .string (bg (gc2.den - 1))], 38)) [(0, 0), (0, 1), (1, 2), (0, 4), (0, 5), (1, 6), (0, 10), (0, 11), (1, 12), (0, 14), (0, 15), (1, 16), (2, 2), (0, 3), (2, 6), (0, 7), (1, 8), (2, 8), (0, 9), (2, 12), (0, 13), (2, 16), (0, 17), (1, 18), (2, 18), (0, 19)] (by kernel_rfl) (by kernel_rfl) (by intro i hi; simp only [List.mem_cons, List.not_mem_nil, or_false] at hi; rcases hi with rfl | rfl <;> exact ⟨_, rfl, rfl, rfl, by simp, fun ρ w => by kernel_rfl⟩) (fun i hi => by cases hi) (fun _ _ _ _ _ h => h) (fun T hT => ?_)
  iterate 2
    refine wpEarly_takeL (v := ?_) rfl (by rfl) (fun w' hw => ?_) ?_
    rotate_left
    · go_simp
      with_reducible rfl
    simp only [Act.put, qA, qB, qC]
  refine wpEarly_mk rfl (by rfl) (fun w' => ?_) ?_
  · go_simp
  iterate 2
    refine wpEarly_takeL (v := ?_) rfl (by rfl) (fun w' hw => ?_) ?_
    rotate_left
    · go_simp
      with_reducible rfl
    simp only [Act.put, qA, qB, qC]
  refine wpEarly_mk rfl (by rfl) (fun w' => ?_) ?_
  · go_simp
  iterate 2
    refine wpEarly_takeL (v := ?_) rfl (by rfl) (fun w' hw => ?_) ?_
    rotate_left
    · go_simp
      with_reducible rfl
    simp only [Act.put, qA, qB, qC]
  refine wpEarly_mk rfl (by rfl) (fun w' => ?_) ?_
  · go_simp
  iterate 2
    refine wpEarly_takeL (v := ?_) rfl (by rfl) (fun w' hw => ?_) ?_
    rotate_left
    · go_simp
      with_reducible rfl
    simp only [Act.put, qA, qB, qC]
  refine wpEarly_mk rfl (by rfl) (fun w' => ?_) ?_
  · go_simp
  refine wpEarly_use rfl (by rfl) (fun gx5 vv1 hg0 yx5 bx5 => ?_)
  have HG0 := Lib.hid hg0; clear hg0
  replace yx5 : w.heap.size ≤ gx5 := by first | exact Nat.le_trans HS0.out yx5 | exact Nat.le_trans HB.out.size yx5
  have BX5 := Lib.hid bx5; clear bx5
  have BX0_ := Lib.hid (BX0.out.gr HG0.out); clear BX0; have BX0 := BX0_; clear BX0_
  have BX1_ := Lib.hid (BX1.out.gr HG0.out); clear BX1; have BX1 := BX1_; clear BX1_
  have BX2_ := Lib.hid (BX2.out.gr HG0.out); clear BX2; have BX2 := BX2_; clear BX2_
  have BX3_ := Lib.hid (BX3.out.gr HG0.out); clear BX3; have BX3 := BX3_; clear BX3_
  have BX4_ := Lib.hid (BX4.out.gr HG0.out); clear BX4; have BX4 := BX4_; clear BX4_
  have HB_ := Lib.hid (HB.out.trans (HG0.out.mono HB.out.size)); clear HB; have HB := HB_; clear HB_
  clear HG0
  clear lx0; have lx0 := BX0.out.cells
  clear lx1; have lx1 := BX1.out.cells
  clear lx2; have lx2 := BX2.out.cells
  clear lx3; have lx3 := BX3.out.cells
  simp only [Act.put, qA, qB, qC]
  refine wpEarly_callL rfl (by rfl) Try.call44 (fun w' hw => pleast_any (a1) (a2) (b1) (b2) la1 la2 (gx5) _ (BX5.out.gr hw) (r_la) (h_la.out) (h1_la.out) (h2_la.out) (by omega) (by omega) (by omega) (by omega)) (by rfl) ?_
  simp only [Act.put, qA, qB, qC]
  refine wpEarly_use rfl (by rfl) (fun gx6 vv2 hg0 yx6 bx6 => ?_)
  have HG0 := Lib.hid hg0; clear hg0
  replace yx6 : w.heap.size ≤ gx6 := by first | exact Nat.le_trans HS0.out yx6 | exact Nat.le_trans HB.out.size yx6
  have BX6 := Lib.hid bx6; clear bx6
  have BX0_ := Lib.hid (BX0.out.gr HG0.out); clear BX0; have BX0 := BX0_; clear BX0_
  have BX1_ := Lib.hid (BX1.out.gr HG0.out); clear BX1; have BX1 := BX1_; clear BX1_
  have BX2_ := Lib.hid (BX2.out.gr HG0.out); clear BX2; have BX2 := BX2_; clear BX2_
  have BX3_ := Lib.hid (BX3.out.gr HG0.out); clear BX3; have BX3 := BX3_; clear BX3_
  have BX4_ := Lib.hid (BX4.out.gr HG0.out); clear BX4; have BX4 := BX4_; clear BX4_
  have BX5_ := Lib.hid (BX5.out.gr HG0.out); clear BX5; have BX5 := BX5_; clear BX5_
  have HB_ := Lib.hid (HB.out.trans (HG0.out.mono HB.out.size)); clear HB; have HB := HB_; clear HB_
  clear HG0
  clear lx0; have lx0 := BX0.out.cells
  clear lx1; have lx1 := BX1.out.cells
  clear lx2; have lx2 := BX2.out.cells
  clear lx3; have lx3 := BX3.out.cells
  simp only [Act.put, qA, qB, qC]
  refine wpEarly_callL rfl (by rfl) Try.call44 (fun w' hw => pleast_any (c1) (c2) (d1) (d2) lc1 lc2 (gx6) _ (BX6.out.gr hw) (r_lc) (h_lc.out) (h1_lc.out) (h2_lc.out) (by omega) (by omega) (by omega) (by omega)) (by rfl) ?_
  simp only [Act.put, qA, qB, qC]
  refine wpEarly_mk rfl (by rfl) (fun w' => ?_) ?_
  · go_simp
  refine wpEarly_use rfl (by rfl) (fun gx9 vv3 hg0 yx9 bx9 => ?_)
  have HG0 := Lib.hid hg0; clear hg0
  replace yx9 : w.heap.size ≤ gx9 := by first | exact Nat.le_trans HS0.out yx9 | exact Nat.le_trans HB.out.size yx9
  have BX9 := Lib.hid bx9; clear bx9
  have BX0_ := Lib.hid (BX0.out.gr HG0.out); clear BX0; have BX0 := BX0_; clear BX0_
  have BX1_ := Lib.hid (BX1.out.gr HG0.out); clear BX1; have BX1 := BX1_; clear BX1_
  have BX2_ := Lib.hid (BX2.out.gr HG0.out); clear BX2; have BX2 := BX2_; clear BX2_
  have BX3_ := Lib.hid (BX3.out.gr HG0.out); clear BX3; have BX3 := BX3_; clear BX3_
  have BX4_ := Lib.hid (BX4.out.gr HG0.out); clear BX4; have BX4 := BX4_; clear BX4_
  have BX5_ := Lib.hid (BX5.out.gr HG0.out); clear BX5; have BX5 := BX5_; clear BX5_
  have BX6_ := Lib.hid (BX6.out.gr HG0.out); clear BX6; have BX6 := BX6_; clear BX6_
  have HB_ := Lib.hid (HB.out.trans (HG0.out.mono HB.out.size)); clear HB; have HB := HB_; clear HB_
  clear HG0
  clear lx0; have lx0 := BX0.out.cells
  clear lx1; have lx1 := BX1.out.cells
  clear lx2; have lx2 := BX2.out.cells
  clear lx3; have lx3 := BX3.out.cells
  simp only [Act.put, qA, qB, qC]
  refine wpEarly_callL rfl (by rfl) Try.call45 (fun w' hw => pgreatest_any (la1) (la2) (lc1) (lc2) fr1 fr2 (gx9) _ (BX9.out.gr hw) (r_fr) (h_fr.out) (h1_fr.out) (h2_fr.out) (by omega) (by omega) (by omega) (by omega)) (by rfl) ?_
  simp only [Act.put, qA, qB, qC]
  refine wpEarly_use rfl (by rfl) (fun gx7 vv4 hg0 yx7 bx7 => ?_)
  have HG0 := Lib.hid hg0; clear hg0
  replace yx7 : w.heap.size ≤ gx7 := by first | exact Nat.le_trans HS0.out yx7 | exact Nat.le_trans HB.out.size yx7
  have BX7 := Lib.hid bx7; clear bx7
  have BX0_ := Lib.hid (BX0.out.gr HG0.out); clear BX0; have BX0 := BX0_; clear BX0_
  have BX1_ := Lib.hid (BX1.out.gr HG0.out); clear BX1; have BX1 := BX1_; clear BX1_
  have BX2_ := Lib.hid (BX2.out.gr HG0.out); clear BX2; have BX2 := BX2_; clear BX2_
  have BX3_ := Lib.hid (BX3.out.gr HG0.out); clear BX3; have BX3 := BX3_; clear BX3_
  have BX4_ := Lib.hid (BX4.out.gr HG0.out); clear BX4; have BX4 := BX4_; clear BX4_
  have BX5_ := Lib.hid (BX5.out.gr HG0.out); clear BX5; have BX5 := BX5_; clear BX5_
  have BX6_ := Lib.hid (BX6.out.gr HG0.out); clear BX6; have BX6 := BX6_; clear BX6_
  have BX9_ := Lib.hid (BX9.out.gr HG0.out); clear BX9; have BX9 := BX9_; clear BX9_
  have HB_ := Lib.hid (HB.out.trans (HG0.out.mono HB.out.size)); clear HB; have HB := HB_; clear HB_
  clear HG0
  clear lx0; have lx0 := BX0.out.cells
  clear lx1; have lx1 := BX1.out.cells
  clear lx2; have lx2 := BX2.out.cells
  clear lx3; have lx3 := BX3.out.cells
  simp only [Act.put, qA, qB, qC]
  refine wpEarly_callL rfl (by rfl) Try.call45 (fun w' hw => pgreatest_any (a1) (a2) (b1) (b2) ga1 ga2 (gx7) _ (BX7.out.gr hw) (r_ga) (h_ga.out) (h1_ga.out) (h2_ga.out) (by omega) (by omega) (by omega) (by omega)) (by rfl) ?_
  simp only [Act.put, qA, qB, qC]
  refine wpEarly_use rfl (by rfl) (fun gx8 vv5 hg0 yx8 bx8 => ?_)
  have HG0 := Lib.hid hg0; clear hg0
  replace yx8 : w.heap.size ≤ gx8 := by first | exact Nat.le_trans HS0.out yx8 | exact Nat.le_trans HB.out.size yx8
  have BX8 := Lib.hid bx8; clear bx8
  have BX0_ := Lib.hid (BX0.out.gr HG0.out); clear BX0; have BX0 := BX0_; clear BX0_
  have BX1_ := Lib.hid (BX1.out.gr HG0.out); clear BX1; have BX1 := BX1_; clear BX1_
  have BX2_ := Lib.hid (BX2.out.gr HG0.out); clear BX2; have BX2 := BX2_; clear BX2_
  have BX3_ := Lib.hid (BX3.out.gr HG0.out); clear BX3; have BX3 := BX3_; clear BX3_
  have BX4_ := Lib.hid (BX4.out.gr HG0.out); clear BX4; have BX4 := BX4_; clear BX4_
  have BX5_ := Lib.hid (BX5.out.gr HG0.out); clear BX5; have BX5 := BX5_; clear BX5_
  have BX6_ := Lib.hid (BX6.out.gr HG0.out); clear BX6; have BX6 := BX6_; clear BX6_
  have BX9_ := Lib.hid (BX9.out.gr HG0.out); clear BX9; have BX9 := BX9_; clear BX9_
  have BX7_ := Lib.hid (BX7.out.gr HG0.out); clear BX7; have BX7 := BX7_; clear BX7_
  have HB_ := Lib.hid (HB.out.trans (HG0.out.mono HB.out.size)); clear HB; have HB := HB_; clear HB_
  clear HG0
  clear lx0; have lx0 := BX0.out.cells
  clear lx1; have lx1 := BX1.out.cells
  clear lx2; have lx2 := BX2.out.cells
  clear lx3; have lx3 := BX3.out.cells
  simp only [Act.put, qA, qB, qC]
  refine wpEarly_callL rfl (by rfl) Try.call45 (fun w' hw => pgreatest_any (c1) (c2) (d1) (d2) gc1 gc2 (gx8) _ (BX8.out.gr hw) (r_gc) (h_gc.out) (h1_gc.out) (h2_gc.out) (by omega) (by omega) (by omega) (by omega)) (by rfl) ?_
  simp only [Act.put, qA, qB, qC]
  refine wpEarly_mk rfl (by rfl) (fun w' => ?_) ?_
  · go_simp
  refine wpEarly_use rfl (by rfl) (fun gx10 vv6 hg0 yx10 bx10 => ?_)
  have HG0 := Lib.hid hg0; clear hg0
  replace yx10 : w.heap.size ≤ gx10 := by first | exact Nat.le_trans HS0.out yx10 | exact Nat.le_trans HB.out.size yx10
  have BX10 := Lib.hid bx10; clear bx10
  have BX0_ := Lib.hid (BX0.out.gr HG0.out); clear BX0; have BX0 := BX0_; clear BX0_
  have BX1_ := Lib.hid (BX1.out.gr HG0.out); clear BX1; have BX1 := BX1_; clear BX1_
  have BX2_ := Lib.hid (BX2.out.gr HG0.out); clear BX2; have BX2 := BX2_; clear BX2_
  have BX3_ := Lib.hid (BX3.out.gr HG0.out); clear BX3; have BX3 := BX3_; clear BX3_
  have BX4_ := Lib.hid (BX4.out.gr HG0.out); clear BX4; have BX4 := BX4_; clear BX4_
  have BX5_ := Lib.hid (BX5.out.gr HG0.out); clear BX5; have BX5 := BX5_; clear BX5_
  have BX6_ := Lib.hid (BX6.out.gr HG0.out); clear BX6; have BX6 := BX6_; clear BX6_
  have BX9_ := Lib.hid (BX9.out.gr HG0.out); clear BX9; have BX9 := BX9_; clear BX9_
  have BX7_ := Lib.hid (BX7.out.gr HG0.out); clear BX7; have BX7 := BX7_; clear BX7_
  have BX8_ := Lib.hid (BX8.out.gr HG0.out); clear BX8; have BX8 := BX8_; clear BX8_
  have HB_ := Lib.hid (HB.out.trans (HG0.out.mono HB.out.size)); clear HB; have HB := HB_; clear HB_
  clear HG0
  clear lx0; have lx0 := BX0.out.cells
  clear lx1; have lx1 := BX1.out.cells
  clear lx2; have lx2 := BX2.out.cells
  clear lx3; have lx3 := BX3.out.cells
  simp only [Act.put, qA, qB, qC]
  refine wpEarly_callL rfl (by rfl) Try.call44 (fun w' hw => pleast_any (ga1) (ga2) (gc1) (gc2) to1 to2 (gx10) _ (BX10.out.gr hw) (r_to) (h_to.out) (h1_to.out) (h2_to.out) (by omega) (by omega) (by omega) (by omega)) (by rfl) ?_
  simp only [Act.put, qA, qB, qC]
  refine wpEarly_nil (hT.out _ _ ?_); clear hT T
  intro G vw1 hg hf
  simp only [puts, Act.put, qA, qB, qC, qD, qE, ↓reduceIte, Nat.reduceEqDiff]
  clear lx0 lx1 lx2 lx3
  clear BX5
  clear BX6
  clear BX9
  clear BX7
  clear BX8
  clear BX10
  have HG := Lib.hid (hg)
  clear hg
  have bx11 := Bx.of_fresh hf (i := 20) (by decide) rfl
  have yx11 := (hf.1 20 (by decide)).1
  have bx12 := Bx.of_fresh hf (i := 21) (by decide) rfl
  have yx12 := (hf.1 21 (by decide)).1
  have dx11_12 : G 20 ≠ G 21 := fun e => absurd (hf.2 20 (by decide) 21 (by decide) e) (by decide)
  clear hf
  generalize G 20 = gx11 at *
  generalize G 21 = gx12 at *
  have qx0_11 : w.heap.size < gx11 := Nat.lt_of_lt_of_le MX0 yx11
  have qx0_12 : w.heap.size < gx12 := Nat.lt_of_lt_of_le MX0 yx12
  have qx1_11 : w.heap.size + 1 < gx11 := Nat.lt_of_lt_of_le MX1 yx11
  have qx1_12 : w.heap.size + 1 < gx12 := Nat.lt_of_lt_of_le MX1 yx12
  have qx2_11 : w.heap.size + 1 + 1 < gx11 := Nat.lt_of_lt_of_le MX2 yx11
  have qx2_12 : w.heap.size + 1 + 1 < gx12 := Nat.lt_of_lt_of_le MX2 yx12
  have qx3_11 : w.heap.size + 1 + 1 + 1 < gx11 := Nat.lt_of_lt_of_le MX3 yx11
  have qx3_12 : w.heap.size + 1 + 1 + 1 < gx12 := Nat.lt_of_lt_of_le MX3 yx12
  have qx4_11 : w.heap.size + 1 + 1 + 1 + 1 < gx11 := Nat.lt_of_lt_of_le MX4 yx11
  have qx4_12 : w.heap.size + 1 + 1 + 1 + 1 < gx12 := Nat.lt_of_lt_of_le MX4 yx12
  replace yx11 : w.heap.size ≤ gx11 := Nat.le_trans HS0.out yx11
  replace yx12 : w.heap.size ≤ gx12 := Nat.le_trans HS0.out yx12
  have bx0 := BX0.out.gr HG.out; clear BX0
  have bx1 := BX1.out.gr HG.out; clear BX1
  have bx2 := BX2.out.gr HG.out; clear BX2
  have bx3 := BX3.out.gr HG.out; clear BX3
  have bx4 := BX4.out.gr HG.out; clear BX4
  have lx11 := bx11.cells; have fx11 := bx11.free
  have lx12 := bx12.cells; have fx12 := bx12.free
  have r0 := Gr.refl vw1
  have BX0 := Lib.hid bx0; clear bx0
  have BX1 := Lib.hid bx1; clear bx1
  have BX2 := Lib.hid bx2; clear bx2
  have BX3 := Lib.hid bx3; clear bx3
  have BX4 := Lib.hid bx4; clear bx4
  have BX11 := Lib.hid bx11; clear bx11
  have BX12 := Lib.hid bx12; clear bx12
  go_wp2
  refine hK.out _ _ ?_; clear hK K
  show Code.wp _ _ _ _ _
  clear lx11 fx11
  clear lx12 fx12
  clear r0
  refine forgetW (fun w2 => Bx w2 (w.heap.size + 1 + 1 + 1 + 1) 38 #[.int .u64 0, .string ⟨#[]⟩, .bool false, .int .u64 0, .string ⟨#[]⟩, .int .u64 0, .string ⟨#[]⟩, .bool false, .int .u64 0, .string ⟨#[]⟩] ∧ Bx w2 gx11 38 #[.int .u64 (lo fr1.num.natAbs), .string (bg fr1.num.natAbs), .bool (decide (fr1.num < 0)), .int .u64 (lo (fr1.den - 1)), .string (bg (fr1.den - 1)), .int .u64 (lo fr2.num.natAbs), .string (bg fr2.num.natAbs), .bool (decide (fr2.num < 0)), .int .u64 (lo (fr2.den - 1)), .string (bg (fr2.den - 1))] ∧ Bx w2 gx12 38 #[.int .u64 (lo to1.num.natAbs), .string (bg to1.num.natAbs), .bool (decide (to1.num < 0)), .int .u64 (lo (to1.den - 1)), .string (bg (to1.den - 1)), .int .u64 (lo to2.num.natAbs), .string (bg to2.num.natAbs), .bool (decide (to2.num < 0)), .int .u64 (lo (to2.den - 1)), .string (bg (to2.den - 1))] ∧ Below w.heap.size w w2) ⟨((((((((((((((((((((BX4.out).setOther (by show w.heap.size + 1 + 1 + 1 + 1 ≠ gx11; omega) _).setOther (by show w.heap.size + 1 + 1 + 1 + 1 ≠ gx11; omega) _).setOther (by show w.heap.size + 1 + 1 + 1 + 1 ≠ gx11; omega) _).setOther (by show w.heap.size + 1 + 1 + 1 + 1 ≠ gx11; omega) _).setOther (by show w.heap.size + 1 + 1 + 1 + 1 ≠ gx11; omega) _).setOther (by show w.heap.size + 1 + 1 + 1 + 1 ≠ gx11; omega) _).setOther (by show w.heap.size + 1 + 1 + 1 + 1 ≠ gx11; omega) _).setOther (by show w.heap.size + 1 + 1 + 1 + 1 ≠ gx11; omega) _).setOther (by show w.heap.size + 1 + 1 + 1 + 1 ≠ gx11; omega) _).setOther (by show w.heap.size + 1 + 1 + 1 + 1 ≠ gx11; omega) _).setOther (by show w.heap.size + 1 + 1 + 1 + 1 ≠ gx12; omega) _).setOther (by show w.heap.size + 1 + 1 + 1 + 1 ≠ gx12; omega) _).setOther (by show w.heap.size + 1 + 1 + 1 + 1 ≠ gx12; omega) _).setOther (by show w.heap.size + 1 + 1 + 1 + 1 ≠ gx12; omega) _).setOther (by show w.heap.size + 1 + 1 + 1 + 1 ≠ gx12; omega) _).setOther (by show w.heap.size + 1 + 1 + 1 + 1 ≠ gx12; omega) _).setOther (by show w.heap.size + 1 + 1 + 1 + 1 ≠ gx12; omega) _).setOther (by show w.heap.size + 1 + 1 + 1 + 1 ≠ gx12; omega) _).setOther (by show w.heap.size + 1 + 1 + 1 + 1 ≠ gx12; omega) _).setOther (by show w.heap.size + 1 + 1 + 1 + 1 ≠ gx12; omega) _, (((((((((((((((((((((BX11.out).set 0 _).set 1 _).set 2 _).set 3 _).set 4 _).set 5 _).set 6 _).set 7 _).set 8 _).set 9 _).setOther (by show gx11 ≠ gx12; omega) _).setOther (by show gx11 ≠ gx12; omega) _).setOther (by show gx11 ≠ gx12; omega) _).setOther (by show gx11 ≠ gx12; omega) _).setOther (by show gx11 ≠ gx12; omega) _).setOther (by show gx11 ≠ gx12; omega) _).setOther (by show gx11 ≠ gx12; omega) _).setOther (by show gx11 ≠ gx12; omega) _).setOther (by show gx11 ≠ gx12; omega) _).setOther (by show gx11 ≠ gx12; omega) _).eq (by simp only [List.setIfInBounds_toArray, List.set_cons_zero, List.set_cons_succ]), (((((((((((((((((((((BX12.out).setOther (by show gx12 ≠ gx11; omega) _).setOther (by show gx12 ≠ gx11; omega) _).setOther (by show gx12 ≠ gx11; omega) _).setOther (by show gx12 ≠ gx11; omega) _).setOther (by show gx12 ≠ gx11; omega) _).setOther (by show gx12 ≠ gx11; omega) _).setOther (by show gx12 ≠ gx11; omega) _).setOther (by show gx12 ≠ gx11; omega) _).setOther (by show gx12 ≠ gx11; omega) _).setOther (by show gx12 ≠ gx11; omega) _).set 0 _).set 1 _).set 2 _).set 3 _).set 4 _).set 5 _).set 6 _).set 7 _).set 8 _).set 9 _).eq (by simp only [List.setIfInBounds_toArray, List.set_cons_zero, List.set_cons_succ]), ((((((((((((((((((((HB.out.trans (HG.out.mono HB.out.size)).setCell (by show w.heap.size ≤ gx11; omega) _).setCell (by show w.heap.size ≤ gx11; omega) _).setCell (by show w.heap.size ≤ gx11; omega) _).setCell (by show w.heap.size ≤ gx11; omega) _).setCell (by show w.heap.size ≤ gx11; omega) _).setCell (by show w.heap.size ≤ gx11; omega) _).setCell (by show w.heap.size ≤ gx11; omega) _).setCell (by show w.heap.size ≤ gx11; omega) _).setCell (by show w.heap.size ≤ gx11; omega) _).setCell (by show w.heap.size ≤ gx11; omega) _).setCell (by show w.heap.size ≤ gx12; omega) _).setCell (by show w.heap.size ≤ gx12; omega) _).setCell (by show w.heap.size ≤ gx12; omega) _).setCell (by show w.heap.size ≤ gx12; omega) _).setCell (by show w.heap.size ≤ gx12; omega) _).setCell (by show w.heap.size ≤ gx12; omega) _).setCell (by show w.heap.size ≤ gx12; omega) _).setCell (by show w.heap.size ≤ gx12; omega) _).setCell (by show w.heap.size ≤ gx12; omega) _).setCell (by show w.heap.size ≤ gx12; omega) _⟩ ?_
  clear HB HG BX0 BX1 BX2 BX3 BX4 BX11 BX12
  rintro Wx1 ⟨bx4, bx11, bx12, HB⟩
  replace HB := Lib.hid HB
  refine wp_seq ?_
  refine wp_block ?_
  -- region 2
  have lx11 := bx11.cells
  have lx12 := bx12.cells
  have BX4 := Lib.hid bx4
  have BX11 := Lib.hid bx11
  have BX12 := Lib.hid bx12
  clear bx4 bx11 bx12
  refine wp_seq_k fun K hK => ?_
  replace hK := Lib.hid hK
  refine wp_region_seqplan 4 [(true, 0), (true, 1), (true, 2), (true, 3)] (by rfl) (by simp) (fun T hT => ?_)
  iterate 2
    refine wpPlan_takeL (v := ?_) rfl (by rfl) (fun w' hw => ?_) ?_
    rotate_left
    · go_simp
      with_reducible rfl
    simp only [Act.put, qA, qB, qC]
  refine wpPlan_callL rfl (by rfl) Try.call27 (fun w' hw => pless_any (to1) (to2) (fr1) (fr2) true _ (hl.out) (by omega) (by omega) (by omega) (by omega)) (by rfl) ?_
  simp only [Act.put, qA, qB, qC]
  iterate 1
    refine wpPlan_takeL (v := ?_) rfl (by rfl) (fun w' hw => ?_) ?_
    rotate_left
    · go_simp
      with_reducible rfl
    simp only [Act.put, qA, qB, qC]
  refine wpPlan_nil (hT.out _ _ ?_); clear hT T
  intro vw2 hg
  simp only [puts, Act.put, qA, qB, qC, qD, qE, ↓reduceIte, Nat.reduceEqDiff]
  clear lx11 lx12
  have HG := Lib.hid (hg)
  clear hg
  have bx4 := BX4.out.gr HG.out; clear BX4
  have bx11 := BX11.out.gr HG.out; clear BX11
  have bx12 := BX12.out.gr HG.out; clear BX12
  have r0 := Gr.refl vw2
  have BX4 := Lib.hid bx4; clear bx4
  have BX11 := Lib.hid bx11; clear bx11
  have BX12 := Lib.hid bx12; clear bx12
  go_wp2
  refine hK.out _ _ ?_; clear hK K
  show Code.wp _ _ _ _ _
  clear r0
  refine forgetW (fun w2 => Bx w2 (w.heap.size + 1 + 1 + 1 + 1) 38 #[.int .u64 0, .string ⟨#[]⟩, .bool false, .int .u64 0, .string ⟨#[]⟩, .int .u64 0, .string ⟨#[]⟩, .bool false, .int .u64 0, .string ⟨#[]⟩] ∧ Bx w2 gx11 38 #[.int .u64 (lo fr1.num.natAbs), .string (bg fr1.num.natAbs), .bool (decide (fr1.num < 0)), .int .u64 (lo (fr1.den - 1)), .string (bg (fr1.den - 1)), .int .u64 (lo fr2.num.natAbs), .string (bg fr2.num.natAbs), .bool (decide (fr2.num < 0)), .int .u64 (lo (fr2.den - 1)), .string (bg (fr2.den - 1))] ∧ Bx w2 gx12 38 #[.int .u64 (lo to1.num.natAbs), .string (bg to1.num.natAbs), .bool (decide (to1.num < 0)), .int .u64 (lo (to1.den - 1)), .string (bg (to1.den - 1)), .int .u64 (lo to2.num.natAbs), .string (bg to2.num.natAbs), .bool (decide (to2.num < 0)), .int .u64 (lo (to2.den - 1)), .string (bg (to2.den - 1))] ∧ Below w.heap.size w w2) ⟨BX4.out, BX11.out, BX12.out, HB.out.trans (HG.out.mono HB.out.size)⟩ ?_
  clear HB HG BX4 BX11 BX12
  rintro Wx2 ⟨bx4, bx11, bx12, HB⟩
  replace HB := Lib.hid HB
  refine wp_cond_true (by rfl) ?_
  -- region 3
  have BX4 := Lib.hid bx4
  have BX11 := Lib.hid bx11
  have BX12 := Lib.hid bx12
  clear bx4 bx11 bx12
  refine wp_seq_k fun K hK => ?_
  replace hK := Lib.hid hK
  refine wp_region_seqplan 2 [(true, 0), (true, 1)] (by rfl) (by simp) (fun T hT => ?_)
  iterate 2
    refine wpPlan_takeL (v := ?_) rfl (by rfl) (fun w' hw => ?_) ?_
    rotate_left
    · go_simp
      with_reducible rfl
    simp only [Act.put, qA, qB, qC]
  refine wpPlan_nil (hT.out _ _ ?_); clear hT T
  intro vw3 hg
  simp only [puts, Act.put, qA, qB, qC, qD, qE, ↓reduceIte, Nat.reduceEqDiff]
  have HG := Lib.hid (hg)
  clear hg
  have bx4 := BX4.out.gr HG.out; clear BX4
  have bx11 := BX11.out.gr HG.out; clear BX11
  have bx12 := BX12.out.gr HG.out; clear BX12
  have lx4 := bx4.cells; have fx4 := bx4.free
  have r0 := Gr.refl vw3
  have BX4 := Lib.hid bx4; clear bx4
  have BX11 := Lib.hid bx11; clear bx11
  have BX12 := Lib.hid bx12; clear bx12
  go_wp2
  refine hK.out _ _ ?_; clear hK K
  show Code.wp _ _ _ _ _
  clear lx4 fx4
  clear r0
  refine forgetW (fun w2 => Bx w2 (w.heap.size + 1 + 1 + 1 + 1) 38 #[.int .u64 0, .string ⟨#[]⟩, .bool false, .int .u64 0, .string ⟨#[]⟩, .int .u64 0, .string ⟨#[]⟩, .bool false, .int .u64 0, .string ⟨#[]⟩] ∧ Bx w2 gx11 38 #[.int .u64 (lo fr1.num.natAbs), .string (bg fr1.num.natAbs), .bool (decide (fr1.num < 0)), .int .u64 (lo (fr1.den - 1)), .string (bg (fr1.den - 1)), .int .u64 (lo fr2.num.natAbs), .string (bg fr2.num.natAbs), .bool (decide (fr2.num < 0)), .int .u64 (lo (fr2.den - 1)), .string (bg (fr2.den - 1))] ∧ Below w.heap.size w w2) ⟨(((((((((((BX4.out).set 0 _).set 1 _).set 2 _).set 3 _).set 4 _).set 5 _).set 6 _).set 7 _).set 8 _).set 9 _).eq (by simp only [List.setIfInBounds_toArray, List.set_cons_zero, List.set_cons_succ]), ((((((((((BX11.out).setOther (by show gx11 ≠ w.heap.size + 1 + 1 + 1 + 1; omega) _).setOther (by show gx11 ≠ w.heap.size + 1 + 1 + 1 + 1; omega) _).setOther (by show gx11 ≠ w.heap.size + 1 + 1 + 1 + 1; omega) _).setOther (by show gx11 ≠ w.heap.size + 1 + 1 + 1 + 1; omega) _).setOther (by show gx11 ≠ w.heap.size + 1 + 1 + 1 + 1; omega) _).setOther (by show gx11 ≠ w.heap.size + 1 + 1 + 1 + 1; omega) _).setOther (by show gx11 ≠ w.heap.size + 1 + 1 + 1 + 1; omega) _).setOther (by show gx11 ≠ w.heap.size + 1 + 1 + 1 + 1; omega) _).setOther (by show gx11 ≠ w.heap.size + 1 + 1 + 1 + 1; omega) _).setOther (by show gx11 ≠ w.heap.size + 1 + 1 + 1 + 1; omega) _, ((((((((((HB.out.trans (HG.out.mono HB.out.size)).setCell (by show w.heap.size ≤ w.heap.size + 1 + 1 + 1 + 1; omega) _).setCell (by show w.heap.size ≤ w.heap.size + 1 + 1 + 1 + 1; omega) _).setCell (by show w.heap.size ≤ w.heap.size + 1 + 1 + 1 + 1; omega) _).setCell (by show w.heap.size ≤ w.heap.size + 1 + 1 + 1 + 1; omega) _).setCell (by show w.heap.size ≤ w.heap.size + 1 + 1 + 1 + 1; omega) _).setCell (by show w.heap.size ≤ w.heap.size + 1 + 1 + 1 + 1; omega) _).setCell (by show w.heap.size ≤ w.heap.size + 1 + 1 + 1 + 1; omega) _).setCell (by show w.heap.size ≤ w.heap.size + 1 + 1 + 1 + 1; omega) _).setCell (by show w.heap.size ≤ w.heap.size + 1 + 1 + 1 + 1; omega) _).setCell (by show w.heap.size ≤ w.heap.size + 1 + 1 + 1 + 1; omega) _⟩ ?_
  clear HB HG BX4 BX11 BX12
  rintro Wx3 ⟨bx4, bx11, HB⟩
  replace HB := Lib.hid HB
  refine wp_ret ?_
  try simp only [Exit.then, Exit.inBlock]
  have lx4 := bx4.cells
  have r0 := Gr.refl Wx3
  exact bodyPost_ret (v := .tuple #[.int .i64 0, (.agg #[.int .u64 0, .string ⟨#[]⟩, .bool false, .int .u64 0, .string ⟨#[]⟩, .int .u64 0, .string ⟨#[]⟩, .bool false, .int .u64 0, .string ⟨#[]⟩])]) (by simp [results, Try.results42, go_sem, lx4 _ r0]) rfl ⟨rfl, HB.out⟩

set_option maxHeartbeats 4000000 in
theorem ppiece_one (a1 a2 b1 b2 c1 c2 d1 d2 la1 la2 lc1 lc2 fr1 fr2 ga1 ga2 gc1 gc2 to1 to2 : Rat) (r_la r_lc r_fr r_ga r_gc r_to : Bool) (w : World) (h_la : Hid (plt b1 b2 a1 a2 = r_la)) (h1_la : Hid ((if r_la then b1 else a1) = la1)) (h2_la : Hid ((if r_la then b2 else a2) = la2)) (h_lc : Hid (plt d1 d2 c1 c2 = r_lc)) (h1_lc : Hid ((if r_lc then d1 else c1) = lc1)) (h2_lc : Hid ((if r_lc then d2 else c2) = lc2)) (h_fr : Hid (plt la1 la2 lc1 lc2 = r_fr)) (h1_fr : Hid ((if r_fr then lc1 else la1) = fr1)) (h2_fr : Hid ((if r_fr then lc2 else la2) = fr2)) (h_ga : Hid (plt a1 a2 b1 b2 = r_ga)) (h1_ga : Hid ((if r_ga then b1 else a1) = ga1)) (h2_ga : Hid ((if r_ga then b2 else a2) = ga2)) (h_gc : Hid (plt c1 c2 d1 d2 = r_gc)) (h1_gc : Hid ((if r_gc then d1 else c1) = gc1)) (h2_gc : Hid ((if r_gc then d2 else c2) = gc2)) (h_to : Hid (plt gc1 gc2 ga1 ga2 = r_to)) (h1_to : Hid ((if r_to then gc1 else ga1) = to1)) (h2_to : Hid ((if r_to then gc2 else ga2) = to2)) (hl : Hid (plt to1 to2 fr1 fr2 = false)) (he : (decide (fr1 = to1) && decide (fr2 = to2)) = true) (hs_a1 : sz a1 ≤ 100000000) (hs_a2 : sz a2 ≤ 100000000) (hs_b1 : sz b1 ≤ 100000000) (hs_b2 : sz b2 ≤ 100000000) (hs_c1 : sz c1 ≤ 100000000) (hs_c2 : sz c2 ≤ 100000000) (hs_d1 : sz d1 ≤ 100000000) (hs_d2 : sz d2 ≤ 100000000) (hs_la1 : sz la1 ≤ 100000000) (hs_la2 : sz la2 ≤ 100000000) (hs_lc1 : sz lc1 ≤ 100000000) (hs_lc2 : sz lc2 ≤ 100000000) (hs_fr1 : sz fr1 ≤ 100000000) (hs_fr2 : sz fr2 ≤ 100000000) (hs_ga1 : sz ga1 ≤ 100000000) (hs_ga2 : sz ga2 ≤ 100000000) (hs_gc1 : sz gc1 ≤ 100000000) (hs_gc2 : sz gc2 ≤ 100000000) (hs_to1 : sz to1 ≤ 100000000) (hs_to2 : sz to2 ≤ 100000000) :
    Calls Try.prog 42 #[(Value.agg #[.int .u64 (lo a1.num.natAbs), .string (bg a1.num.natAbs), .bool (decide (a1.num < 0)), .int .u64 (lo (a1.den - 1)), .string (bg (a1.den - 1)), .int .u64 (lo a2.num.natAbs), .string (bg a2.num.natAbs), .bool (decide (a2.num < 0)), .int .u64 (lo (a2.den - 1)), .string (bg (a2.den - 1))]), (Value.agg #[.int .u64 (lo b1.num.natAbs), .string (bg b1.num.natAbs), .bool (decide (b1.num < 0)), .int .u64 (lo (b1.den - 1)), .string (bg (b1.den - 1)), .int .u64 (lo b2.num.natAbs), .string (bg b2.num.natAbs), .bool (decide (b2.num < 0)), .int .u64 (lo (b2.den - 1)), .string (bg (b2.den - 1))]), (Value.agg #[.int .u64 (lo c1.num.natAbs), .string (bg c1.num.natAbs), .bool (decide (c1.num < 0)), .int .u64 (lo (c1.den - 1)), .string (bg (c1.den - 1)), .int .u64 (lo c2.num.natAbs), .string (bg c2.num.natAbs), .bool (decide (c2.num < 0)), .int .u64 (lo (c2.den - 1)), .string (bg (c2.den - 1))]), (Value.agg #[.int .u64 (lo d1.num.natAbs), .string (bg d1.num.natAbs), .bool (decide (d1.num < 0)), .int .u64 (lo (d1.den - 1)), .string (bg (d1.den - 1)), .int .u64 (lo d2.num.natAbs), .string (bg d2.num.natAbs), .bool (decide (d2.num < 0)), .int .u64 (lo (d2.den - 1)), .string (bg (d2.den - 1))])] w fun e w' => e = .returned (.tuple #[.int .i64 1, (.agg #[.int .u64 (lo fr1.num.natAbs), .string (bg fr1.num.natAbs), .bool (decide (fr1.num < 0)), .int .u64 (lo (fr1.den - 1)), .string (bg (fr1.den - 1)), .int .u64 (lo fr2.num.natAbs), .string (bg fr2.num.natAbs), .bool (decide (fr2.num < 0)), .int .u64 (lo (fr2.den - 1)), .string (bg (fr2.den - 1))])]) ∧ Below w.heap.size w w' := by
  go_enter Try.func42, Try.ntmps42
  -- region 0
  refine wp_seq_k fun K hK => ?_
  replace hK := Lib.hid hK
  refine wp_region_lit ?_
  go_wp2
  refine hK.out _ _ ?_; clear hK K
  show Code.wp _ _ _ _ _
  refine forgetW (fun w2 => Bx w2 (w.heap.size) 38 #[.int .u64 (lo a1.num.natAbs), .string (bg a1.num.natAbs), .bool (decide (a1.num < 0)), .int .u64 (lo (a1.den - 1)), .string (bg (a1.den - 1)), .int .u64 (lo a2.num.natAbs), .string (bg a2.num.natAbs), .bool (decide (a2.num < 0)), .int .u64 (lo (a2.den - 1)), .string (bg (a2.den - 1))] ∧ Bx w2 (w.heap.size + 1) 38 #[.int .u64 (lo b1.num.natAbs), .string (bg b1.num.natAbs), .bool (decide (b1.num < 0)), .int .u64 (lo (b1.den - 1)), .string (bg (b1.den - 1)), .int .u64 (lo b2.num.natAbs), .string (bg b2.num.natAbs), .bool (decide (b2.num < 0)), .int .u64 (lo (b2.den - 1)), .string (bg (b2.den - 1))] ∧ Bx w2 (w.heap.size + 1 + 1) 38 #[.int .u64 (lo c1.num.natAbs), .string (bg c1.num.natAbs), .bool (decide (c1.num < 0)), .int .u64 (lo (c1.den - 1)), .string (bg (c1.den - 1)), .int .u64 (lo c2.num.natAbs), .string (bg c2.num.natAbs), .bool (decide (c2.num < 0)), .int .u64 (lo (c2.den - 1)), .string (bg (c2.den - 1))] ∧ Bx w2 (w.heap.size + 1 + 1 + 1) 38 #[.int .u64 (lo d1.num.natAbs), .string (bg d1.num.natAbs), .bool (decide (d1.num < 0)), .int .u64 (lo (d1.den - 1)), .string (bg (d1.den - 1)), .int .u64 (lo d2.num.natAbs), .string (bg d2.num.natAbs), .bool (decide (d2.num < 0)), .int .u64 (lo (d2.den - 1)), .string (bg (d2.den - 1))] ∧ Bx w2 (w.heap.size + 1 + 1 + 1 + 1) 38 #[.int .u64 0, .string ⟨#[]⟩, .bool false, .int .u64 0, .string ⟨#[]⟩, .int .u64 0, .string ⟨#[]⟩, .bool false, .int .u64 0, .string ⟨#[]⟩] ∧ Below w.heap.size w w2) ⟨((((Bx.at rfl).alloc _).alloc _).alloc _).alloc _, (((Bx.at (by simp)).alloc _).alloc _).alloc _, ((Bx.at (by simp)).alloc _).alloc _, (Bx.at (by simp)).alloc _, Bx.at (by simp), (((((Below.refl _ _).alloc (Nat.le_refl _) _).alloc (by simp) _).alloc (by simp; omega) _).alloc (by simp; omega) _).alloc (by simp; omega) _⟩ ?_
  rintro Wx ⟨bx0, bx1, bx2, bx3, bx4, HB⟩
  replace HB := Lib.hid HB
  -- region 1
  have lx0 := bx0.cells
  have lx1 := bx1.cells
  have lx2 := bx2.cells
  have lx3 := bx3.cells
  have BX0 := Lib.hid bx0
  have BX1 := Lib.hid bx1
  have BX2 := Lib.hid bx2
  have BX3 := Lib.hid bx3
  have BX4 := Lib.hid bx4
  clear bx0 bx1 bx2 bx3 bx4
  refine wp_seq_k fun K hK => ?_
  replace hK := Lib.hid hK
  have HS0 := Lib.hid (HB.out.size)
  have MX0 : w.heap.size < Wx.heap.size := BX0.out.lt
  have MX1 : w.heap.size + 1 < Wx.heap.size := BX1.out.lt
  have MX2 : w.heap.size + 1 + 1 < Wx.heap.size := BX2.out.lt
  have MX3 : w.heap.size + 1 + 1 + 1 < Wx.heap.size := BX3.out.lt
  have MX4 : w.heap.size + 1 + 1 + 1 + 1 < Wx.heap.size := BX4.out.lt
  refine wp_region_early 22 [20, 21] [] (fun i => if i = 20 then 10 else 11) (fun i => if i = 20 then .cells #[.int .u64 0, .string ⟨#[]⟩, .bool false, .int .u64 0, .string ⟨#[]⟩, .int .u64 0, .string ⟨#[]⟩, .bool false, .int .u64 0, .string ⟨#[]⟩] 38 else .cells #[.int .u64 0, .string ⟨#[]⟩, .bool false, .int .u64 0, .string ⟨#[]⟩, .int .u64 0, .string ⟨#[]⟩, .bool false, .int .u64 0, .string ⟨#[]⟩] 38) (fun i => if i = 2 then (1, #[.int .u64 (lo b1.num.natAbs), .string (bg b1.num.natAbs), .bool (decide (b1.num < 0)), .int .u64 (lo (b1.den - 1)), .string (bg (b1.den - 1)), .int .u64 (lo b2.num.natAbs), .string (bg b2.num.natAbs), .bool (decide (b2.num < 0)), .int .u64 (lo (b2.den - 1)), .string (bg (b2.den - 1))], 38) else if i = 6 then (1, #[.int .u64 (lo d1.num.natAbs), .string (bg d1.num.natAbs), .bool (decide (d1.num < 0)), .int .u64 (lo (d1.den - 1)), .string (bg (d1.den - 1)), .int .u64 (lo d2.num.natAbs), .string (bg d2.num.natAbs), .bool (decide (d2.num < 0)), .int .u64 (lo (d2.den - 1)), .string (bg (d2.den - 1))], 38) else if i = 8 then (1, #[.int .u64 (lo lc1.num.natAbs), .string (bg lc1.num.natAbs), .bool (decide (lc1.num < 0)), .int .u64 (lo (lc1.den - 1)), .string (bg (lc1.den - 1)), .int .u64 (lo lc2.num.natAbs), .string (bg lc2.num.natAbs), .bool (decide (lc2.num < 0)), .int .u64 (lo (lc2.den - 1)), .string (bg (lc2.den - 1))], 38) else if i = 12 then (1, #[.int .u64 (lo b1.num.natAbs), .string (bg b1.num.natAbs), .bool (decide (b1.num < 0)), .int .u64 (lo (b1.den - 1)), .string (bg (b1.den - 1)), .int .u64 (lo b2.num.natAbs), .string (bg b2.num.natAbs), .bool (decide (b2.num < 0)), .int .u64 (lo (b2.den - 1)), .string (bg (b2.den - 1))], 38) else if i = 16 then (1, #[.int .u64 (lo d1.num.natAbs), .string (bg d1.num.natAbs), .bool (decide (d1.num < 0)), .int .u64 (lo (d1.den - 1)), .string (bg (d1.den - 1)), .int .u64 (lo d2.num.natAbs), .string (bg d2.num.natAbs), .bool (decide (d2.num < 0)), .int .u64 (lo (d2.den - 1)), .string (bg (d2.den - 1))], 38) else (1, #[.int .u64 (lo gc1.num.natAbs), .string (bg gc1.num.natAbs), .bool (decide (gc1.num < 0)), .int .u64 (lo (gc1.den - 1)), .string (bg (gc1.den - 1)), .int .u64 (lo gc2.num.natAbs), .string (bg gc2.num.natAbs), .bool (decide (gc2.num < 0)), .int .u64 (lo (gc2.den - 1)), .string (bg (gc2.den - 1))], 38)) [(0, 0), (0, 1), (1, 2), (0, 4), (0, 5), (1, 6), (0, 10), (0, 11), (1, 12), (0, 14), (0, 15), (1, 16), (2, 2), (0, 3), (2, 6), (0, 7), (1, 8), (2, 8), (0, 9), (2, 12), (0, 13), (2, 16), (0, 17), (1, 18), (2, 18), (0, 19)] (by kernel_rfl) (by kernel_rfl) (by intro i hi; simp only [List.mem_cons, List.not_mem_nil, or_false] at hi; rcases hi with rfl | rfl <;> exact ⟨_, rfl, rfl, rfl, by simp, fun ρ w => by kernel_rfl⟩) (fun i hi => by cases hi) (fun _ _ _ _ _ h => h) (fun T hT => ?_)
  iterate 2
    refine wpEarly_takeL (v := ?_) rfl (by rfl) (fun w' hw => ?_) ?_
    rotate_left
    · go_simp
      with_reducible rfl
    simp only [Act.put, qA, qB, qC]
  refine wpEarly_mk rfl (by rfl) (fun w' => ?_) ?_
  · go_simp
  iterate 2
    refine wpEarly_takeL (v := ?_) rfl (by rfl) (fun w' hw => ?_) ?_
    rotate_left
    · go_simp
      with_reducible rfl
    simp only [Act.put, qA, qB, qC]
  refine wpEarly_mk rfl (by rfl) (fun w' => ?_) ?_
  · go_simp
  iterate 2
    refine wpEarly_takeL (v := ?_) rfl (by rfl) (fun w' hw => ?_) ?_
    rotate_left
    · go_simp
      with_reducible rfl
    simp only [Act.put, qA, qB, qC]
  refine wpEarly_mk rfl (by rfl) (fun w' => ?_) ?_
  · go_simp
  iterate 2
    refine wpEarly_takeL (v := ?_) rfl (by rfl) (fun w' hw => ?_) ?_
    rotate_left
    · go_simp
      with_reducible rfl
    simp only [Act.put, qA, qB, qC]
  refine wpEarly_mk rfl (by rfl) (fun w' => ?_) ?_
  · go_simp
  refine wpEarly_use rfl (by rfl) (fun gx5 vv1 hg0 yx5 bx5 => ?_)
  have HG0 := Lib.hid hg0; clear hg0
  replace yx5 : w.heap.size ≤ gx5 := by first | exact Nat.le_trans HS0.out yx5 | exact Nat.le_trans HB.out.size yx5
  have BX5 := Lib.hid bx5; clear bx5
  have BX0_ := Lib.hid (BX0.out.gr HG0.out); clear BX0; have BX0 := BX0_; clear BX0_
  have BX1_ := Lib.hid (BX1.out.gr HG0.out); clear BX1; have BX1 := BX1_; clear BX1_
  have BX2_ := Lib.hid (BX2.out.gr HG0.out); clear BX2; have BX2 := BX2_; clear BX2_
  have BX3_ := Lib.hid (BX3.out.gr HG0.out); clear BX3; have BX3 := BX3_; clear BX3_
  have BX4_ := Lib.hid (BX4.out.gr HG0.out); clear BX4; have BX4 := BX4_; clear BX4_
  have HB_ := Lib.hid (HB.out.trans (HG0.out.mono HB.out.size)); clear HB; have HB := HB_; clear HB_
  clear HG0
  clear lx0; have lx0 := BX0.out.cells
  clear lx1; have lx1 := BX1.out.cells
  clear lx2; have lx2 := BX2.out.cells
  clear lx3; have lx3 := BX3.out.cells
  simp only [Act.put, qA, qB, qC]
  refine wpEarly_callL rfl (by rfl) Try.call44 (fun w' hw => pleast_any (a1) (a2) (b1) (b2) la1 la2 (gx5) _ (BX5.out.gr hw) (r_la) (h_la.out) (h1_la.out) (h2_la.out) (by omega) (by omega) (by omega) (by omega)) (by rfl) ?_
  simp only [Act.put, qA, qB, qC]
  refine wpEarly_use rfl (by rfl) (fun gx6 vv2 hg0 yx6 bx6 => ?_)
  have HG0 := Lib.hid hg0; clear hg0
  replace yx6 : w.heap.size ≤ gx6 := by first | exact Nat.le_trans HS0.out yx6 | exact Nat.le_trans HB.out.size yx6
  have BX6 := Lib.hid bx6; clear bx6
  have BX0_ := Lib.hid (BX0.out.gr HG0.out); clear BX0; have BX0 := BX0_; clear BX0_
  have BX1_ := Lib.hid (BX1.out.gr HG0.out); clear BX1; have BX1 := BX1_; clear BX1_
  have BX2_ := Lib.hid (BX2.out.gr HG0.out); clear BX2; have BX2 := BX2_; clear BX2_
  have BX3_ := Lib.hid (BX3.out.gr HG0.out); clear BX3; have BX3 := BX3_; clear BX3_
  have BX4_ := Lib.hid (BX4.out.gr HG0.out); clear BX4; have BX4 := BX4_; clear BX4_
  have BX5_ := Lib.hid (BX5.out.gr HG0.out); clear BX5; have BX5 := BX5_; clear BX5_
  have HB_ := Lib.hid (HB.out.trans (HG0.out.mono HB.out.size)); clear HB; have HB := HB_; clear HB_
  clear HG0
  clear lx0; have lx0 := BX0.out.cells
  clear lx1; have lx1 := BX1.out.cells
  clear lx2; have lx2 := BX2.out.cells
  clear lx3; have lx3 := BX3.out.cells
  simp only [Act.put, qA, qB, qC]
  refine wpEarly_callL rfl (by rfl) Try.call44 (fun w' hw => pleast_any (c1) (c2) (d1) (d2) lc1 lc2 (gx6) _ (BX6.out.gr hw) (r_lc) (h_lc.out) (h1_lc.out) (h2_lc.out) (by omega) (by omega) (by omega) (by omega)) (by rfl) ?_
  simp only [Act.put, qA, qB, qC]
  refine wpEarly_mk rfl (by rfl) (fun w' => ?_) ?_
  · go_simp
  refine wpEarly_use rfl (by rfl) (fun gx9 vv3 hg0 yx9 bx9 => ?_)
  have HG0 := Lib.hid hg0; clear hg0
  replace yx9 : w.heap.size ≤ gx9 := by first | exact Nat.le_trans HS0.out yx9 | exact Nat.le_trans HB.out.size yx9
  have BX9 := Lib.hid bx9; clear bx9
  have BX0_ := Lib.hid (BX0.out.gr HG0.out); clear BX0; have BX0 := BX0_; clear BX0_
  have BX1_ := Lib.hid (BX1.out.gr HG0.out); clear BX1; have BX1 := BX1_; clear BX1_
  have BX2_ := Lib.hid (BX2.out.gr HG0.out); clear BX2; have BX2 := BX2_; clear BX2_
  have BX3_ := Lib.hid (BX3.out.gr HG0.out); clear BX3; have BX3 := BX3_; clear BX3_
  have BX4_ := Lib.hid (BX4.out.gr HG0.out); clear BX4; have BX4 := BX4_; clear BX4_
  have BX5_ := Lib.hid (BX5.out.gr HG0.out); clear BX5; have BX5 := BX5_; clear BX5_
  have BX6_ := Lib.hid (BX6.out.gr HG0.out); clear BX6; have BX6 := BX6_; clear BX6_
  have HB_ := Lib.hid (HB.out.trans (HG0.out.mono HB.out.size)); clear HB; have HB := HB_; clear HB_
  clear HG0
  clear lx0; have lx0 := BX0.out.cells
  clear lx1; have lx1 := BX1.out.cells
  clear lx2; have lx2 := BX2.out.cells
  clear lx3; have lx3 := BX3.out.cells
  simp only [Act.put, qA, qB, qC]
  refine wpEarly_callL rfl (by rfl) Try.call45 (fun w' hw => pgreatest_any (la1) (la2) (lc1) (lc2) fr1 fr2 (gx9) _ (BX9.out.gr hw) (r_fr) (h_fr.out) (h1_fr.out) (h2_fr.out) (by omega) (by omega) (by omega) (by omega)) (by rfl) ?_
  simp only [Act.put, qA, qB, qC]
  refine wpEarly_use rfl (by rfl) (fun gx7 vv4 hg0 yx7 bx7 => ?_)
  have HG0 := Lib.hid hg0; clear hg0
  replace yx7 : w.heap.size ≤ gx7 := by first | exact Nat.le_trans HS0.out yx7 | exact Nat.le_trans HB.out.size yx7
  have BX7 := Lib.hid bx7; clear bx7
  have BX0_ := Lib.hid (BX0.out.gr HG0.out); clear BX0; have BX0 := BX0_; clear BX0_
  have BX1_ := Lib.hid (BX1.out.gr HG0.out); clear BX1; have BX1 := BX1_; clear BX1_
  have BX2_ := Lib.hid (BX2.out.gr HG0.out); clear BX2; have BX2 := BX2_; clear BX2_
  have BX3_ := Lib.hid (BX3.out.gr HG0.out); clear BX3; have BX3 := BX3_; clear BX3_
  have BX4_ := Lib.hid (BX4.out.gr HG0.out); clear BX4; have BX4 := BX4_; clear BX4_
  have BX5_ := Lib.hid (BX5.out.gr HG0.out); clear BX5; have BX5 := BX5_; clear BX5_
  have BX6_ := Lib.hid (BX6.out.gr HG0.out); clear BX6; have BX6 := BX6_; clear BX6_
  have BX9_ := Lib.hid (BX9.out.gr HG0.out); clear BX9; have BX9 := BX9_; clear BX9_
  have HB_ := Lib.hid (HB.out.trans (HG0.out.mono HB.out.size)); clear HB; have HB := HB_; clear HB_
  clear HG0
  clear lx0; have lx0 := BX0.out.cells
  clear lx1; have lx1 := BX1.out.cells
  clear lx2; have lx2 := BX2.out.cells
  clear lx3; have lx3 := BX3.out.cells
  simp only [Act.put, qA, qB, qC]
  refine wpEarly_callL rfl (by rfl) Try.call45 (fun w' hw => pgreatest_any (a1) (a2) (b1) (b2) ga1 ga2 (gx7) _ (BX7.out.gr hw) (r_ga) (h_ga.out) (h1_ga.out) (h2_ga.out) (by omega) (by omega) (by omega) (by omega)) (by rfl) ?_
  simp only [Act.put, qA, qB, qC]
  refine wpEarly_use rfl (by rfl) (fun gx8 vv5 hg0 yx8 bx8 => ?_)
  have HG0 := Lib.hid hg0; clear hg0
  replace yx8 : w.heap.size ≤ gx8 := by first | exact Nat.le_trans HS0.out yx8 | exact Nat.le_trans HB.out.size yx8
  have BX8 := Lib.hid bx8; clear bx8
  have BX0_ := Lib.hid (BX0.out.gr HG0.out); clear BX0; have BX0 := BX0_; clear BX0_
  have BX1_ := Lib.hid (BX1.out.gr HG0.out); clear BX1; have BX1 := BX1_; clear BX1_
  have BX2_ := Lib.hid (BX2.out.gr HG0.out); clear BX2; have BX2 := BX2_; clear BX2_
  have BX3_ := Lib.hid (BX3.out.gr HG0.out); clear BX3; have BX3 := BX3_; clear BX3_
  have BX4_ := Lib.hid (BX4.out.gr HG0.out); clear BX4; have BX4 := BX4_; clear BX4_
  have BX5_ := Lib.hid (BX5.out.gr HG0.out); clear BX5; have BX5 := BX5_; clear BX5_
  have BX6_ := Lib.hid (BX6.out.gr HG0.out); clear BX6; have BX6 := BX6_; clear BX6_
  have BX9_ := Lib.hid (BX9.out.gr HG0.out); clear BX9; have BX9 := BX9_; clear BX9_
  have BX7_ := Lib.hid (BX7.out.gr HG0.out); clear BX7; have BX7 := BX7_; clear BX7_
  have HB_ := Lib.hid (HB.out.trans (HG0.out.mono HB.out.size)); clear HB; have HB := HB_; clear HB_
  clear HG0
  clear lx0; have lx0 := BX0.out.cells
  clear lx1; have lx1 := BX1.out.cells
  clear lx2; have lx2 := BX2.out.cells
  clear lx3; have lx3 := BX3.out.cells
  simp only [Act.put, qA, qB, qC]
  refine wpEarly_callL rfl (by rfl) Try.call45 (fun w' hw => pgreatest_any (c1) (c2) (d1) (d2) gc1 gc2 (gx8) _ (BX8.out.gr hw) (r_gc) (h_gc.out) (h1_gc.out) (h2_gc.out) (by omega) (by omega) (by omega) (by omega)) (by rfl) ?_
  simp only [Act.put, qA, qB, qC]
  refine wpEarly_mk rfl (by rfl) (fun w' => ?_) ?_
  · go_simp
  refine wpEarly_use rfl (by rfl) (fun gx10 vv6 hg0 yx10 bx10 => ?_)
  have HG0 := Lib.hid hg0; clear hg0
  replace yx10 : w.heap.size ≤ gx10 := by first | exact Nat.le_trans HS0.out yx10 | exact Nat.le_trans HB.out.size yx10
  have BX10 := Lib.hid bx10; clear bx10
  have BX0_ := Lib.hid (BX0.out.gr HG0.out); clear BX0; have BX0 := BX0_; clear BX0_
  have BX1_ := Lib.hid (BX1.out.gr HG0.out); clear BX1; have BX1 := BX1_; clear BX1_
  have BX2_ := Lib.hid (BX2.out.gr HG0.out); clear BX2; have BX2 := BX2_; clear BX2_
  have BX3_ := Lib.hid (BX3.out.gr HG0.out); clear BX3; have BX3 := BX3_; clear BX3_
  have BX4_ := Lib.hid (BX4.out.gr HG0.out); clear BX4; have BX4 := BX4_; clear BX4_
  have BX5_ := Lib.hid (BX5.out.gr HG0.out); clear BX5; have BX5 := BX5_; clear BX5_
  have BX6_ := Lib.hid (BX6.out.gr HG0.out); clear BX6; have BX6 := BX6_; clear BX6_
  have BX9_ := Lib.hid (BX9.out.gr HG0.out); clear BX9; have BX9 := BX9_; clear BX9_
  have BX7_ := Lib.hid (BX7.out.gr HG0.out); clear BX7; have BX7 := BX7_; clear BX7_
  have BX8_ := Lib.hid (BX8.out.gr HG0.out); clear BX8; have BX8 := BX8_; clear BX8_
  have HB_ := Lib.hid (HB.out.trans (HG0.out.mono HB.out.size)); clear HB; have HB := HB_; clear HB_
  clear HG0
  clear lx0; have lx0 := BX0.out.cells
  clear lx1; have lx1 := BX1.out.cells
  clear lx2; have lx2 := BX2.out.cells
  clear lx3; have lx3 := BX3.out.cells
  simp only [Act.put, qA, qB, qC]
  refine wpEarly_callL rfl (by rfl) Try.call44 (fun w' hw => pleast_any (ga1) (ga2) (gc1) (gc2) to1 to2 (gx10) _ (BX10.out.gr hw) (r_to) (h_to.out) (h1_to.out) (h2_to.out) (by omega) (by omega) (by omega) (by omega)) (by rfl) ?_
  simp only [Act.put, qA, qB, qC]
  refine wpEarly_nil (hT.out _ _ ?_); clear hT T
  intro G vw1 hg hf
  simp only [puts, Act.put, qA, qB, qC, qD, qE, ↓reduceIte, Nat.reduceEqDiff]
  clear lx0 lx1 lx2 lx3
  clear BX5
  clear BX6
  clear BX9
  clear BX7
  clear BX8
  clear BX10
  have HG := Lib.hid (hg)
  clear hg
  have bx11 := Bx.of_fresh hf (i := 20) (by decide) rfl
  have yx11 := (hf.1 20 (by decide)).1
  have bx12 := Bx.of_fresh hf (i := 21) (by decide) rfl
  have yx12 := (hf.1 21 (by decide)).1
  have dx11_12 : G 20 ≠ G 21 := fun e => absurd (hf.2 20 (by decide) 21 (by decide) e) (by decide)
  clear hf
  generalize G 20 = gx11 at *
  generalize G 21 = gx12 at *
  have qx0_11 : w.heap.size < gx11 := Nat.lt_of_lt_of_le MX0 yx11
  have qx0_12 : w.heap.size < gx12 := Nat.lt_of_lt_of_le MX0 yx12
  have qx1_11 : w.heap.size + 1 < gx11 := Nat.lt_of_lt_of_le MX1 yx11
  have qx1_12 : w.heap.size + 1 < gx12 := Nat.lt_of_lt_of_le MX1 yx12
  have qx2_11 : w.heap.size + 1 + 1 < gx11 := Nat.lt_of_lt_of_le MX2 yx11
  have qx2_12 : w.heap.size + 1 + 1 < gx12 := Nat.lt_of_lt_of_le MX2 yx12
  have qx3_11 : w.heap.size + 1 + 1 + 1 < gx11 := Nat.lt_of_lt_of_le MX3 yx11
  have qx3_12 : w.heap.size + 1 + 1 + 1 < gx12 := Nat.lt_of_lt_of_le MX3 yx12
  have qx4_11 : w.heap.size + 1 + 1 + 1 + 1 < gx11 := Nat.lt_of_lt_of_le MX4 yx11
  have qx4_12 : w.heap.size + 1 + 1 + 1 + 1 < gx12 := Nat.lt_of_lt_of_le MX4 yx12
  replace yx11 : w.heap.size ≤ gx11 := Nat.le_trans HS0.out yx11
  replace yx12 : w.heap.size ≤ gx12 := Nat.le_trans HS0.out yx12
  have bx0 := BX0.out.gr HG.out; clear BX0
  have bx1 := BX1.out.gr HG.out; clear BX1
  have bx2 := BX2.out.gr HG.out; clear BX2
  have bx3 := BX3.out.gr HG.out; clear BX3
  have bx4 := BX4.out.gr HG.out; clear BX4
  have lx11 := bx11.cells; have fx11 := bx11.free
  have lx12 := bx12.cells; have fx12 := bx12.free
  have r0 := Gr.refl vw1
  have BX0 := Lib.hid bx0; clear bx0
  have BX1 := Lib.hid bx1; clear bx1
  have BX2 := Lib.hid bx2; clear bx2
  have BX3 := Lib.hid bx3; clear bx3
  have BX4 := Lib.hid bx4; clear bx4
  have BX11 := Lib.hid bx11; clear bx11
  have BX12 := Lib.hid bx12; clear bx12
  go_wp2
  refine hK.out _ _ ?_; clear hK K
  show Code.wp _ _ _ _ _
  clear lx11 fx11
  clear lx12 fx12
  clear r0
  refine forgetW (fun w2 => Bx w2 (w.heap.size + 1 + 1 + 1 + 1) 38 #[.int .u64 0, .string ⟨#[]⟩, .bool false, .int .u64 0, .string ⟨#[]⟩, .int .u64 0, .string ⟨#[]⟩, .bool false, .int .u64 0, .string ⟨#[]⟩] ∧ Bx w2 gx11 38 #[.int .u64 (lo fr1.num.natAbs), .string (bg fr1.num.natAbs), .bool (decide (fr1.num < 0)), .int .u64 (lo (fr1.den - 1)), .string (bg (fr1.den - 1)), .int .u64 (lo fr2.num.natAbs), .string (bg fr2.num.natAbs), .bool (decide (fr2.num < 0)), .int .u64 (lo (fr2.den - 1)), .string (bg (fr2.den - 1))] ∧ Bx w2 gx12 38 #[.int .u64 (lo to1.num.natAbs), .string (bg to1.num.natAbs), .bool (decide (to1.num < 0)), .int .u64 (lo (to1.den - 1)), .string (bg (to1.den - 1)), .int .u64 (lo to2.num.natAbs), .string (bg to2.num.natAbs), .bool (decide (to2.num < 0)), .int .u64 (lo (to2.den - 1)), .string (bg (to2.den - 1))] ∧ Below w.heap.size w w2) ⟨((((((((((((((((((((BX4.out).setOther (by show w.heap.size + 1 + 1 + 1 + 1 ≠ gx11; omega) _).setOther (by show w.heap.size + 1 + 1 + 1 + 1 ≠ gx11; omega) _).setOther (by show w.heap.size + 1 + 1 + 1 + 1 ≠ gx11; omega) _).setOther (by show w.heap.size + 1 + 1 + 1 + 1 ≠ gx11; omega) _).setOther (by show w.heap.size + 1 + 1 + 1 + 1 ≠ gx11; omega) _).setOther (by show w.heap.size + 1 + 1 + 1 + 1 ≠ gx11; omega) _).setOther (by show w.heap.size + 1 + 1 + 1 + 1 ≠ gx11; omega) _).setOther (by show w.heap.size + 1 + 1 + 1 + 1 ≠ gx11; omega) _).setOther (by show w.heap.size + 1 + 1 + 1 + 1 ≠ gx11; omega) _).setOther (by show w.heap.size + 1 + 1 + 1 + 1 ≠ gx11; omega) _).setOther (by show w.heap.size + 1 + 1 + 1 + 1 ≠ gx12; omega) _).setOther (by show w.heap.size + 1 + 1 + 1 + 1 ≠ gx12; omega) _).setOther (by show w.heap.size + 1 + 1 + 1 + 1 ≠ gx12; omega) _).setOther (by show w.heap.size + 1 + 1 + 1 + 1 ≠ gx12; omega) _).setOther (by show w.heap.size + 1 + 1 + 1 + 1 ≠ gx12; omega) _).setOther (by show w.heap.size + 1 + 1 + 1 + 1 ≠ gx12; omega) _).setOther (by show w.heap.size + 1 + 1 + 1 + 1 ≠ gx12; omega) _).setOther (by show w.heap.size + 1 + 1 + 1 + 1 ≠ gx12; omega) _).setOther (by show w.heap.size + 1 + 1 + 1 + 1 ≠ gx12; omega) _).setOther (by show w.heap.size + 1 + 1 + 1 + 1 ≠ gx12; omega) _, (((((((((((((((((((((BX11.out).set 0 _).set 1 _).set 2 _).set 3 _).set 4 _).set 5 _).set 6 _).set 7 _).set 8 _).set 9 _).setOther (by show gx11 ≠ gx12; omega) _).setOther (by show gx11 ≠ gx12; omega) _).setOther (by show gx11 ≠ gx12; omega) _).setOther (by show gx11 ≠ gx12; omega) _).setOther (by show gx11 ≠ gx12; omega) _).setOther (by show gx11 ≠ gx12; omega) _).setOther (by show gx11 ≠ gx12; omega) _).setOther (by show gx11 ≠ gx12; omega) _).setOther (by show gx11 ≠ gx12; omega) _).setOther (by show gx11 ≠ gx12; omega) _).eq (by simp only [List.setIfInBounds_toArray, List.set_cons_zero, List.set_cons_succ]), (((((((((((((((((((((BX12.out).setOther (by show gx12 ≠ gx11; omega) _).setOther (by show gx12 ≠ gx11; omega) _).setOther (by show gx12 ≠ gx11; omega) _).setOther (by show gx12 ≠ gx11; omega) _).setOther (by show gx12 ≠ gx11; omega) _).setOther (by show gx12 ≠ gx11; omega) _).setOther (by show gx12 ≠ gx11; omega) _).setOther (by show gx12 ≠ gx11; omega) _).setOther (by show gx12 ≠ gx11; omega) _).setOther (by show gx12 ≠ gx11; omega) _).set 0 _).set 1 _).set 2 _).set 3 _).set 4 _).set 5 _).set 6 _).set 7 _).set 8 _).set 9 _).eq (by simp only [List.setIfInBounds_toArray, List.set_cons_zero, List.set_cons_succ]), ((((((((((((((((((((HB.out.trans (HG.out.mono HB.out.size)).setCell (by show w.heap.size ≤ gx11; omega) _).setCell (by show w.heap.size ≤ gx11; omega) _).setCell (by show w.heap.size ≤ gx11; omega) _).setCell (by show w.heap.size ≤ gx11; omega) _).setCell (by show w.heap.size ≤ gx11; omega) _).setCell (by show w.heap.size ≤ gx11; omega) _).setCell (by show w.heap.size ≤ gx11; omega) _).setCell (by show w.heap.size ≤ gx11; omega) _).setCell (by show w.heap.size ≤ gx11; omega) _).setCell (by show w.heap.size ≤ gx11; omega) _).setCell (by show w.heap.size ≤ gx12; omega) _).setCell (by show w.heap.size ≤ gx12; omega) _).setCell (by show w.heap.size ≤ gx12; omega) _).setCell (by show w.heap.size ≤ gx12; omega) _).setCell (by show w.heap.size ≤ gx12; omega) _).setCell (by show w.heap.size ≤ gx12; omega) _).setCell (by show w.heap.size ≤ gx12; omega) _).setCell (by show w.heap.size ≤ gx12; omega) _).setCell (by show w.heap.size ≤ gx12; omega) _).setCell (by show w.heap.size ≤ gx12; omega) _⟩ ?_
  clear HB HG BX0 BX1 BX2 BX3 BX4 BX11 BX12
  rintro Wx1 ⟨bx4, bx11, bx12, HB⟩
  replace HB := Lib.hid HB
  refine wp_seq ?_
  refine wp_block ?_
  -- region 2
  have lx11 := bx11.cells
  have lx12 := bx12.cells
  have BX4 := Lib.hid bx4
  have BX11 := Lib.hid bx11
  have BX12 := Lib.hid bx12
  clear bx4 bx11 bx12
  refine wp_seq_k fun K hK => ?_
  replace hK := Lib.hid hK
  refine wp_region_seqplan 4 [(true, 0), (true, 1), (true, 2), (true, 3)] (by rfl) (by simp) (fun T hT => ?_)
  iterate 2
    refine wpPlan_takeL (v := ?_) rfl (by rfl) (fun w' hw => ?_) ?_
    rotate_left
    · go_simp
      with_reducible rfl
    simp only [Act.put, qA, qB, qC]
  refine wpPlan_callL rfl (by rfl) Try.call27 (fun w' hw => pless_any (to1) (to2) (fr1) (fr2) false _ (hl.out) (by omega) (by omega) (by omega) (by omega)) (by rfl) ?_
  simp only [Act.put, qA, qB, qC]
  iterate 1
    refine wpPlan_takeL (v := ?_) rfl (by rfl) (fun w' hw => ?_) ?_
    rotate_left
    · go_simp
      with_reducible rfl
    simp only [Act.put, qA, qB, qC]
  refine wpPlan_nil (hT.out _ _ ?_); clear hT T
  intro vw2 hg
  simp only [puts, Act.put, qA, qB, qC, qD, qE, ↓reduceIte, Nat.reduceEqDiff]
  clear lx11 lx12
  have HG := Lib.hid (hg)
  clear hg
  have bx4 := BX4.out.gr HG.out; clear BX4
  have bx11 := BX11.out.gr HG.out; clear BX11
  have bx12 := BX12.out.gr HG.out; clear BX12
  have r0 := Gr.refl vw2
  have BX4 := Lib.hid bx4; clear bx4
  have BX11 := Lib.hid bx11; clear bx11
  have BX12 := Lib.hid bx12; clear bx12
  go_wp2
  refine hK.out _ _ ?_; clear hK K
  show Code.wp _ _ _ _ _
  clear r0
  refine forgetW (fun w2 => Bx w2 (w.heap.size + 1 + 1 + 1 + 1) 38 #[.int .u64 0, .string ⟨#[]⟩, .bool false, .int .u64 0, .string ⟨#[]⟩, .int .u64 0, .string ⟨#[]⟩, .bool false, .int .u64 0, .string ⟨#[]⟩] ∧ Bx w2 gx11 38 #[.int .u64 (lo fr1.num.natAbs), .string (bg fr1.num.natAbs), .bool (decide (fr1.num < 0)), .int .u64 (lo (fr1.den - 1)), .string (bg (fr1.den - 1)), .int .u64 (lo fr2.num.natAbs), .string (bg fr2.num.natAbs), .bool (decide (fr2.num < 0)), .int .u64 (lo (fr2.den - 1)), .string (bg (fr2.den - 1))] ∧ Bx w2 gx12 38 #[.int .u64 (lo to1.num.natAbs), .string (bg to1.num.natAbs), .bool (decide (to1.num < 0)), .int .u64 (lo (to1.den - 1)), .string (bg (to1.den - 1)), .int .u64 (lo to2.num.natAbs), .string (bg to2.num.natAbs), .bool (decide (to2.num < 0)), .int .u64 (lo (to2.den - 1)), .string (bg (to2.den - 1))] ∧ Below w.heap.size w w2) ⟨BX4.out, BX11.out, BX12.out, HB.out.trans (HG.out.mono HB.out.size)⟩ ?_
  clear HB HG BX4 BX11 BX12
  rintro Wx2 ⟨bx4, bx11, bx12, HB⟩
  replace HB := Lib.hid HB
  refine wp_cond_false (by rfl) ?_
  -- region 4
  have lx11 := bx11.cells
  have lx12 := bx12.cells
  have BX4 := Lib.hid bx4
  have BX11 := Lib.hid bx11
  have BX12 := Lib.hid bx12
  clear bx4 bx11 bx12
  refine wp_seq_k fun K hK => ?_
  replace hK := Lib.hid hK
  refine wp_region_seqplan 4 [(true, 0), (true, 1), (true, 2), (true, 3)] (by rfl) (by simp) (fun T hT => ?_)
  iterate 4
    refine wpPlan_takeL (v := ?_) rfl (by rfl) (fun w' hw => ?_) ?_
    rotate_left
    · go_simp
      with_reducible rfl
    simp only [Act.put, qA, qB, qC]
  refine wpPlan_nil (hT.out _ _ ?_); clear hT T
  intro vw3 hg
  simp only [puts, Act.put, qA, qB, qC, qD, qE, ↓reduceIte, Nat.reduceEqDiff]
  clear lx11 lx12
  have HG := Lib.hid (hg)
  clear hg
  have bx4 := BX4.out.gr HG.out; clear BX4
  have bx11 := BX11.out.gr HG.out; clear BX11
  have bx12 := BX12.out.gr HG.out; clear BX12
  have r0 := Gr.refl vw3
  have BX4 := Lib.hid bx4; clear bx4
  have BX11 := Lib.hid bx11; clear bx11
  have BX12 := Lib.hid bx12; clear bx12
  go_wp2
  refine hK.out _ _ ?_; clear hK K
  show Code.wp _ _ _ _ _
  clear r0
  refine forgetW (fun w2 => Bx w2 (w.heap.size + 1 + 1 + 1 + 1) 38 #[.int .u64 0, .string ⟨#[]⟩, .bool false, .int .u64 0, .string ⟨#[]⟩, .int .u64 0, .string ⟨#[]⟩, .bool false, .int .u64 0, .string ⟨#[]⟩] ∧ Bx w2 gx11 38 #[.int .u64 (lo fr1.num.natAbs), .string (bg fr1.num.natAbs), .bool (decide (fr1.num < 0)), .int .u64 (lo (fr1.den - 1)), .string (bg (fr1.den - 1)), .int .u64 (lo fr2.num.natAbs), .string (bg fr2.num.natAbs), .bool (decide (fr2.num < 0)), .int .u64 (lo (fr2.den - 1)), .string (bg (fr2.den - 1))] ∧ Below w.heap.size w w2) ⟨BX4.out, BX11.out, HB.out.trans (HG.out.mono HB.out.size)⟩ ?_
  clear HB HG BX4 BX11 BX12
  rintro Wx4 ⟨bx4, bx11, HB⟩
  replace HB := Lib.hid HB
  refine wp_cond_true (by rfl) ?_
  -- region 5
  have lx11 := bx11.cells
  have BX4 := Lib.hid bx4
  have BX11 := Lib.hid bx11
  clear bx4 bx11
  refine wp_seq_k fun K hK => ?_
  replace hK := Lib.hid hK
  refine wp_region_plan 2 [] [] (fun _ => 0) (fun _ => .cells #[] 0) [(true, 0), (true, 1)] (by kernel_rfl) (by kernel_rfl) (fun i hi => by cases hi) (fun i hi => by cases hi) (fun _ _ _ _ _ h => h) (fun T hT => ?_)
  iterate 2
    refine wpPlan_takeL (v := ?_) rfl (by rfl) (fun w' hw => ?_) ?_
    rotate_left
    · go_simp
      with_reducible rfl
    simp only [Act.put, qA, qB, qC]
  refine wpPlan_nil (hT.out _ _ ?_); clear hT T
  intro G vw4 hg hf
  simp only [puts, Act.put, qA, qB, qC, qD, qE, ↓reduceIte, Nat.reduceEqDiff]
  clear lx11
  have HG := Lib.hid (hg)
  clear hg
  have bx4 := BX4.out.gr HG.out; clear BX4
  have bx11 := BX11.out.gr HG.out; clear BX11
  have lx4 := bx4.cells; have fx4 := bx4.free
  have r0 := Gr.refl vw4
  have BX4 := Lib.hid bx4; clear bx4
  have BX11 := Lib.hid bx11; clear bx11
  go_wp2
  refine hK.out _ _ ?_; clear hK K
  show Code.wp _ _ _ _ _
  clear lx4 fx4
  clear r0
  refine forgetW (fun w2 => Bx w2 (w.heap.size + 1 + 1 + 1 + 1) 38 #[.int .u64 (lo fr1.num.natAbs), .string (bg fr1.num.natAbs), .bool (decide (fr1.num < 0)), .int .u64 (lo (fr1.den - 1)), .string (bg (fr1.den - 1)), .int .u64 (lo fr2.num.natAbs), .string (bg fr2.num.natAbs), .bool (decide (fr2.num < 0)), .int .u64 (lo (fr2.den - 1)), .string (bg (fr2.den - 1))] ∧ Bx w2 gx11 38 #[.int .u64 (lo fr1.num.natAbs), .string (bg fr1.num.natAbs), .bool (decide (fr1.num < 0)), .int .u64 (lo (fr1.den - 1)), .string (bg (fr1.den - 1)), .int .u64 (lo fr2.num.natAbs), .string (bg fr2.num.natAbs), .bool (decide (fr2.num < 0)), .int .u64 (lo (fr2.den - 1)), .string (bg (fr2.den - 1))] ∧ Below w.heap.size w w2) ⟨(((((((((((BX4.out).set 0 _).set 1 _).set 2 _).set 3 _).set 4 _).set 5 _).set 6 _).set 7 _).set 8 _).set 9 _).eq (by simp only [List.setIfInBounds_toArray, List.set_cons_zero, List.set_cons_succ]), ((((((((((BX11.out).setOther (by show gx11 ≠ w.heap.size + 1 + 1 + 1 + 1; omega) _).setOther (by show gx11 ≠ w.heap.size + 1 + 1 + 1 + 1; omega) _).setOther (by show gx11 ≠ w.heap.size + 1 + 1 + 1 + 1; omega) _).setOther (by show gx11 ≠ w.heap.size + 1 + 1 + 1 + 1; omega) _).setOther (by show gx11 ≠ w.heap.size + 1 + 1 + 1 + 1; omega) _).setOther (by show gx11 ≠ w.heap.size + 1 + 1 + 1 + 1; omega) _).setOther (by show gx11 ≠ w.heap.size + 1 + 1 + 1 + 1; omega) _).setOther (by show gx11 ≠ w.heap.size + 1 + 1 + 1 + 1; omega) _).setOther (by show gx11 ≠ w.heap.size + 1 + 1 + 1 + 1; omega) _).setOther (by show gx11 ≠ w.heap.size + 1 + 1 + 1 + 1; omega) _, ((((((((((HB.out.trans (HG.out.mono HB.out.size)).setCell (by show w.heap.size ≤ w.heap.size + 1 + 1 + 1 + 1; omega) _).setCell (by show w.heap.size ≤ w.heap.size + 1 + 1 + 1 + 1; omega) _).setCell (by show w.heap.size ≤ w.heap.size + 1 + 1 + 1 + 1; omega) _).setCell (by show w.heap.size ≤ w.heap.size + 1 + 1 + 1 + 1; omega) _).setCell (by show w.heap.size ≤ w.heap.size + 1 + 1 + 1 + 1; omega) _).setCell (by show w.heap.size ≤ w.heap.size + 1 + 1 + 1 + 1; omega) _).setCell (by show w.heap.size ≤ w.heap.size + 1 + 1 + 1 + 1; omega) _).setCell (by show w.heap.size ≤ w.heap.size + 1 + 1 + 1 + 1; omega) _).setCell (by show w.heap.size ≤ w.heap.size + 1 + 1 + 1 + 1; omega) _).setCell (by show w.heap.size ≤ w.heap.size + 1 + 1 + 1 + 1; omega) _⟩ ?_
  clear HB HG BX4 BX11
  rintro Wx5 ⟨bx4, bx11, HB⟩
  replace HB := Lib.hid HB
  refine wp_ret ?_
  try simp only [Exit.then, Exit.inBlock]
  have lx4 := bx4.cells
  have r0 := Gr.refl Wx5
  exact bodyPost_ret (v := .tuple #[.int .i64 1, (.agg #[.int .u64 (lo fr1.num.natAbs), .string (bg fr1.num.natAbs), .bool (decide (fr1.num < 0)), .int .u64 (lo (fr1.den - 1)), .string (bg (fr1.den - 1)), .int .u64 (lo fr2.num.natAbs), .string (bg fr2.num.natAbs), .bool (decide (fr2.num < 0)), .int .u64 (lo (fr2.den - 1)), .string (bg (fr2.den - 1))])]) (by simp [results, Try.results42, go_sem, lx4 _ r0]) rfl ⟨rfl, HB.out⟩

set_option maxHeartbeats 4000000 in
theorem ppiece_two (a1 a2 b1 b2 c1 c2 d1 d2 la1 la2 lc1 lc2 fr1 fr2 ga1 ga2 gc1 gc2 to1 to2 : Rat) (r_la r_lc r_fr r_ga r_gc r_to : Bool) (w : World) (h_la : Hid (plt b1 b2 a1 a2 = r_la)) (h1_la : Hid ((if r_la then b1 else a1) = la1)) (h2_la : Hid ((if r_la then b2 else a2) = la2)) (h_lc : Hid (plt d1 d2 c1 c2 = r_lc)) (h1_lc : Hid ((if r_lc then d1 else c1) = lc1)) (h2_lc : Hid ((if r_lc then d2 else c2) = lc2)) (h_fr : Hid (plt la1 la2 lc1 lc2 = r_fr)) (h1_fr : Hid ((if r_fr then lc1 else la1) = fr1)) (h2_fr : Hid ((if r_fr then lc2 else la2) = fr2)) (h_ga : Hid (plt a1 a2 b1 b2 = r_ga)) (h1_ga : Hid ((if r_ga then b1 else a1) = ga1)) (h2_ga : Hid ((if r_ga then b2 else a2) = ga2)) (h_gc : Hid (plt c1 c2 d1 d2 = r_gc)) (h1_gc : Hid ((if r_gc then d1 else c1) = gc1)) (h2_gc : Hid ((if r_gc then d2 else c2) = gc2)) (h_to : Hid (plt gc1 gc2 ga1 ga2 = r_to)) (h1_to : Hid ((if r_to then gc1 else ga1) = to1)) (h2_to : Hid ((if r_to then gc2 else ga2) = to2)) (hl : Hid (plt to1 to2 fr1 fr2 = false)) (he : (decide (fr1 = to1) && decide (fr2 = to2)) = false) (hs_a1 : sz a1 ≤ 100000000) (hs_a2 : sz a2 ≤ 100000000) (hs_b1 : sz b1 ≤ 100000000) (hs_b2 : sz b2 ≤ 100000000) (hs_c1 : sz c1 ≤ 100000000) (hs_c2 : sz c2 ≤ 100000000) (hs_d1 : sz d1 ≤ 100000000) (hs_d2 : sz d2 ≤ 100000000) (hs_la1 : sz la1 ≤ 100000000) (hs_la2 : sz la2 ≤ 100000000) (hs_lc1 : sz lc1 ≤ 100000000) (hs_lc2 : sz lc2 ≤ 100000000) (hs_fr1 : sz fr1 ≤ 100000000) (hs_fr2 : sz fr2 ≤ 100000000) (hs_ga1 : sz ga1 ≤ 100000000) (hs_ga2 : sz ga2 ≤ 100000000) (hs_gc1 : sz gc1 ≤ 100000000) (hs_gc2 : sz gc2 ≤ 100000000) (hs_to1 : sz to1 ≤ 100000000) (hs_to2 : sz to2 ≤ 100000000) :
    Calls Try.prog 42 #[(Value.agg #[.int .u64 (lo a1.num.natAbs), .string (bg a1.num.natAbs), .bool (decide (a1.num < 0)), .int .u64 (lo (a1.den - 1)), .string (bg (a1.den - 1)), .int .u64 (lo a2.num.natAbs), .string (bg a2.num.natAbs), .bool (decide (a2.num < 0)), .int .u64 (lo (a2.den - 1)), .string (bg (a2.den - 1))]), (Value.agg #[.int .u64 (lo b1.num.natAbs), .string (bg b1.num.natAbs), .bool (decide (b1.num < 0)), .int .u64 (lo (b1.den - 1)), .string (bg (b1.den - 1)), .int .u64 (lo b2.num.natAbs), .string (bg b2.num.natAbs), .bool (decide (b2.num < 0)), .int .u64 (lo (b2.den - 1)), .string (bg (b2.den - 1))]), (Value.agg #[.int .u64 (lo c1.num.natAbs), .string (bg c1.num.natAbs), .bool (decide (c1.num < 0)), .int .u64 (lo (c1.den - 1)), .string (bg (c1.den - 1)), .int .u64 (lo c2.num.natAbs), .string (bg c2.num.natAbs), .bool (decide (c2.num < 0)), .int .u64 (lo (c2.den - 1)), .string (bg (c2.den - 1))]), (Value.agg #[.int .u64 (lo d1.num.natAbs), .string (bg d1.num.natAbs), .bool (decide (d1.num < 0)), .int .u64 (lo (d1.den - 1)), .string (bg (d1.den - 1)), .int .u64 (lo d2.num.natAbs), .string (bg d2.num.natAbs), .bool (decide (d2.num < 0)), .int .u64 (lo (d2.den - 1)), .string (bg (d2.den - 1))])] w fun e w' => e = .returned (.tuple #[.int .i64 2, (.agg #[.int .u64 (lo fr1.num.natAbs), .string (bg fr1.num.natAbs), .bool (decide (fr1.num < 0)), .int .u64 (lo (fr1.den - 1)), .string (bg (fr1.den - 1)), .int .u64 (lo fr2.num.natAbs), .string (bg fr2.num.natAbs), .bool (decide (fr2.num < 0)), .int .u64 (lo (fr2.den - 1)), .string (bg (fr2.den - 1))])]) ∧ Below w.heap.size w w' := by
  go_enter Try.func42, Try.ntmps42
  -- region 0
  refine wp_seq_k fun K hK => ?_
  replace hK := Lib.hid hK
  refine wp_region_lit ?_
  go_wp2
  refine hK.out _ _ ?_; clear hK K
  show Code.wp _ _ _ _ _
  refine forgetW (fun w2 => Bx w2 (w.heap.size) 38 #[.int .u64 (lo a1.num.natAbs), .string (bg a1.num.natAbs), .bool (decide (a1.num < 0)), .int .u64 (lo (a1.den - 1)), .string (bg (a1.den - 1)), .int .u64 (lo a2.num.natAbs), .string (bg a2.num.natAbs), .bool (decide (a2.num < 0)), .int .u64 (lo (a2.den - 1)), .string (bg (a2.den - 1))] ∧ Bx w2 (w.heap.size + 1) 38 #[.int .u64 (lo b1.num.natAbs), .string (bg b1.num.natAbs), .bool (decide (b1.num < 0)), .int .u64 (lo (b1.den - 1)), .string (bg (b1.den - 1)), .int .u64 (lo b2.num.natAbs), .string (bg b2.num.natAbs), .bool (decide (b2.num < 0)), .int .u64 (lo (b2.den - 1)), .string (bg (b2.den - 1))] ∧ Bx w2 (w.heap.size + 1 + 1) 38 #[.int .u64 (lo c1.num.natAbs), .string (bg c1.num.natAbs), .bool (decide (c1.num < 0)), .int .u64 (lo (c1.den - 1)), .string (bg (c1.den - 1)), .int .u64 (lo c2.num.natAbs), .string (bg c2.num.natAbs), .bool (decide (c2.num < 0)), .int .u64 (lo (c2.den - 1)), .string (bg (c2.den - 1))] ∧ Bx w2 (w.heap.size + 1 + 1 + 1) 38 #[.int .u64 (lo d1.num.natAbs), .string (bg d1.num.natAbs), .bool (decide (d1.num < 0)), .int .u64 (lo (d1.den - 1)), .string (bg (d1.den - 1)), .int .u64 (lo d2.num.natAbs), .string (bg d2.num.natAbs), .bool (decide (d2.num < 0)), .int .u64 (lo (d2.den - 1)), .string (bg (d2.den - 1))] ∧ Bx w2 (w.heap.size + 1 + 1 + 1 + 1) 38 #[.int .u64 0, .string ⟨#[]⟩, .bool false, .int .u64 0, .string ⟨#[]⟩, .int .u64 0, .string ⟨#[]⟩, .bool false, .int .u64 0, .string ⟨#[]⟩] ∧ Below w.heap.size w w2) ⟨((((Bx.at rfl).alloc _).alloc _).alloc _).alloc _, (((Bx.at (by simp)).alloc _).alloc _).alloc _, ((Bx.at (by simp)).alloc _).alloc _, (Bx.at (by simp)).alloc _, Bx.at (by simp), (((((Below.refl _ _).alloc (Nat.le_refl _) _).alloc (by simp) _).alloc (by simp; omega) _).alloc (by simp; omega) _).alloc (by simp; omega) _⟩ ?_
  rintro Wx ⟨bx0, bx1, bx2, bx3, bx4, HB⟩
  replace HB := Lib.hid HB
  -- region 1
  have lx0 := bx0.cells
  have lx1 := bx1.cells
  have lx2 := bx2.cells
  have lx3 := bx3.cells
  have BX0 := Lib.hid bx0
  have BX1 := Lib.hid bx1
  have BX2 := Lib.hid bx2
  have BX3 := Lib.hid bx3
  have BX4 := Lib.hid bx4
  clear bx0 bx1 bx2 bx3 bx4
  refine wp_seq_k fun K hK => ?_
  replace hK := Lib.hid hK
  have HS0 := Lib.hid (HB.out.size)
  have MX0 : w.heap.size < Wx.heap.size := BX0.out.lt
  have MX1 : w.heap.size + 1 < Wx.heap.size := BX1.out.lt
  have MX2 : w.heap.size + 1 + 1 < Wx.heap.size := BX2.out.lt
  have MX3 : w.heap.size + 1 + 1 + 1 < Wx.heap.size := BX3.out.lt
  have MX4 : w.heap.size + 1 + 1 + 1 + 1 < Wx.heap.size := BX4.out.lt
  refine wp_region_early 22 [20, 21] [] (fun i => if i = 20 then 10 else 11) (fun i => if i = 20 then .cells #[.int .u64 0, .string ⟨#[]⟩, .bool false, .int .u64 0, .string ⟨#[]⟩, .int .u64 0, .string ⟨#[]⟩, .bool false, .int .u64 0, .string ⟨#[]⟩] 38 else .cells #[.int .u64 0, .string ⟨#[]⟩, .bool false, .int .u64 0, .string ⟨#[]⟩, .int .u64 0, .string ⟨#[]⟩, .bool false, .int .u64 0, .string ⟨#[]⟩] 38) (fun i => if i = 2 then (1, #[.int .u64 (lo b1.num.natAbs), .string (bg b1.num.natAbs), .bool (decide (b1.num < 0)), .int .u64 (lo (b1.den - 1)), .string (bg (b1.den - 1)), .int .u64 (lo b2.num.natAbs), .string (bg b2.num.natAbs), .bool (decide (b2.num < 0)), .int .u64 (lo (b2.den - 1)), .string (bg (b2.den - 1))], 38) else if i = 6 then (1, #[.int .u64 (lo d1.num.natAbs), .string (bg d1.num.natAbs), .bool (decide (d1.num < 0)), .int .u64 (lo (d1.den - 1)), .string (bg (d1.den - 1)), .int .u64 (lo d2.num.natAbs), .string (bg d2.num.natAbs), .bool (decide (d2.num < 0)), .int .u64 (lo (d2.den - 1)), .string (bg (d2.den - 1))], 38) else if i = 8 then (1, #[.int .u64 (lo lc1.num.natAbs), .string (bg lc1.num.natAbs), .bool (decide (lc1.num < 0)), .int .u64 (lo (lc1.den - 1)), .string (bg (lc1.den - 1)), .int .u64 (lo lc2.num.natAbs), .string (bg lc2.num.natAbs), .bool (decide (lc2.num < 0)), .int .u64 (lo (lc2.den - 1)), .string (bg (lc2.den - 1))], 38) else if i = 12 then (1, #[.int .u64 (lo b1.num.natAbs), .string (bg b1.num.natAbs), .bool (decide (b1.num < 0)), .int .u64 (lo (b1.den - 1)), .string (bg (b1.den - 1)), .int .u64 (lo b2.num.natAbs), .string (bg b2.num.natAbs), .bool (decide (b2.num < 0)), .int .u64 (lo (b2.den - 1)), .string (bg (b2.den - 1))], 38) else if i = 16 then (1, #[.int .u64 (lo d1.num.natAbs), .string (bg d1.num.natAbs), .bool (decide (d1.num < 0)), .int .u64 (lo (d1.den - 1)), .string (bg (d1.den - 1)), .int .u64 (lo d2.num.natAbs), .string (bg d2.num.natAbs), .bool (decide (d2.num < 0)), .int .u64 (lo (d2.den - 1)), .string (bg (d2.den - 1))], 38) else (1, #[.int .u64 (lo gc1.num.natAbs), .string (bg gc1.num.natAbs), .bool (decide (gc1.num < 0)), .int .u64 (lo (gc1.den - 1)), .string (bg (gc1.den - 1)), .int .u64 (lo gc2.num.natAbs), .string (bg gc2.num.natAbs), .bool (decide (gc2.num < 0)), .int .u64 (lo (gc2.den - 1)), .string (bg (gc2.den - 1))], 38)) [(0, 0), (0, 1), (1, 2), (0, 4), (0, 5), (1, 6), (0, 10), (0, 11), (1, 12), (0, 14), (0, 15), (1, 16), (2, 2), (0, 3), (2, 6), (0, 7), (1, 8), (2, 8), (0, 9), (2, 12), (0, 13), (2, 16), (0, 17), (1, 18), (2, 18), (0, 19)] (by kernel_rfl) (by kernel_rfl) (by intro i hi; simp only [List.mem_cons, List.not_mem_nil, or_false] at hi; rcases hi with rfl | rfl <;> exact ⟨_, rfl, rfl, rfl, by simp, fun ρ w => by kernel_rfl⟩) (fun i hi => by cases hi) (fun _ _ _ _ _ h => h) (fun T hT => ?_)
  iterate 2
    refine wpEarly_takeL (v := ?_) rfl (by rfl) (fun w' hw => ?_) ?_
    rotate_left
    · go_simp
      with_reducible rfl
    simp only [Act.put, qA, qB, qC]
  refine wpEarly_mk rfl (by rfl) (fun w' => ?_) ?_
  · go_simp
  iterate 2
    refine wpEarly_takeL (v := ?_) rfl (by rfl) (fun w' hw => ?_) ?_
    rotate_left
    · go_simp
      with_reducible rfl
    simp only [Act.put, qA, qB, qC]
  refine wpEarly_mk rfl (by rfl) (fun w' => ?_) ?_
  · go_simp
  iterate 2
    refine wpEarly_takeL (v := ?_) rfl (by rfl) (fun w' hw => ?_) ?_
    rotate_left
    · go_simp
      with_reducible rfl
    simp only [Act.put, qA, qB, qC]
  refine wpEarly_mk rfl (by rfl) (fun w' => ?_) ?_
  · go_simp
  iterate 2
    refine wpEarly_takeL (v := ?_) rfl (by rfl) (fun w' hw => ?_) ?_
    rotate_left
    · go_simp
      with_reducible rfl
    simp only [Act.put, qA, qB, qC]
  refine wpEarly_mk rfl (by rfl) (fun w' => ?_) ?_
  · go_simp
  refine wpEarly_use rfl (by rfl) (fun gx5 vv1 hg0 yx5 bx5 => ?_)
  have HG0 := Lib.hid hg0; clear hg0
  replace yx5 : w.heap.size ≤ gx5 := by first | exact Nat.le_trans HS0.out yx5 | exact Nat.le_trans HB.out.size yx5
  have BX5 := Lib.hid bx5; clear bx5
  have BX0_ := Lib.hid (BX0.out.gr HG0.out); clear BX0; have BX0 := BX0_; clear BX0_
  have BX1_ := Lib.hid (BX1.out.gr HG0.out); clear BX1; have BX1 := BX1_; clear BX1_
  have BX2_ := Lib.hid (BX2.out.gr HG0.out); clear BX2; have BX2 := BX2_; clear BX2_
  have BX3_ := Lib.hid (BX3.out.gr HG0.out); clear BX3; have BX3 := BX3_; clear BX3_
  have BX4_ := Lib.hid (BX4.out.gr HG0.out); clear BX4; have BX4 := BX4_; clear BX4_
  have HB_ := Lib.hid (HB.out.trans (HG0.out.mono HB.out.size)); clear HB; have HB := HB_; clear HB_
  clear HG0
  clear lx0; have lx0 := BX0.out.cells
  clear lx1; have lx1 := BX1.out.cells
  clear lx2; have lx2 := BX2.out.cells
  clear lx3; have lx3 := BX3.out.cells
  simp only [Act.put, qA, qB, qC]
  refine wpEarly_callL rfl (by rfl) Try.call44 (fun w' hw => pleast_any (a1) (a2) (b1) (b2) la1 la2 (gx5) _ (BX5.out.gr hw) (r_la) (h_la.out) (h1_la.out) (h2_la.out) (by omega) (by omega) (by omega) (by omega)) (by rfl) ?_
  simp only [Act.put, qA, qB, qC]
  refine wpEarly_use rfl (by rfl) (fun gx6 vv2 hg0 yx6 bx6 => ?_)
  have HG0 := Lib.hid hg0; clear hg0
  replace yx6 : w.heap.size ≤ gx6 := by first | exact Nat.le_trans HS0.out yx6 | exact Nat.le_trans HB.out.size yx6
  have BX6 := Lib.hid bx6; clear bx6
  have BX0_ := Lib.hid (BX0.out.gr HG0.out); clear BX0; have BX0 := BX0_; clear BX0_
  have BX1_ := Lib.hid (BX1.out.gr HG0.out); clear BX1; have BX1 := BX1_; clear BX1_
  have BX2_ := Lib.hid (BX2.out.gr HG0.out); clear BX2; have BX2 := BX2_; clear BX2_
  have BX3_ := Lib.hid (BX3.out.gr HG0.out); clear BX3; have BX3 := BX3_; clear BX3_
  have BX4_ := Lib.hid (BX4.out.gr HG0.out); clear BX4; have BX4 := BX4_; clear BX4_
  have BX5_ := Lib.hid (BX5.out.gr HG0.out); clear BX5; have BX5 := BX5_; clear BX5_
  have HB_ := Lib.hid (HB.out.trans (HG0.out.mono HB.out.size)); clear HB; have HB := HB_; clear HB_
  clear HG0
  clear lx0; have lx0 := BX0.out.cells
  clear lx1; have lx1 := BX1.out.cells
  clear lx2; have lx2 := BX2.out.cells
  clear lx3; have lx3 := BX3.out.cells
  simp only [Act.put, qA, qB, qC]
  refine wpEarly_callL rfl (by rfl) Try.call44 (fun w' hw => pleast_any (c1) (c2) (d1) (d2) lc1 lc2 (gx6) _ (BX6.out.gr hw) (r_lc) (h_lc.out) (h1_lc.out) (h2_lc.out) (by omega) (by omega) (by omega) (by omega)) (by rfl) ?_
  simp only [Act.put, qA, qB, qC]
  refine wpEarly_mk rfl (by rfl) (fun w' => ?_) ?_
  · go_simp
  refine wpEarly_use rfl (by rfl) (fun gx9 vv3 hg0 yx9 bx9 => ?_)
  have HG0 := Lib.hid hg0; clear hg0
  replace yx9 : w.heap.size ≤ gx9 := by first | exact Nat.le_trans HS0.out yx9 | exact Nat.le_trans HB.out.size yx9
  have BX9 := Lib.hid bx9; clear bx9
  have BX0_ := Lib.hid (BX0.out.gr HG0.out); clear BX0; have BX0 := BX0_; clear BX0_
  have BX1_ := Lib.hid (BX1.out.gr HG0.out); clear BX1; have BX1 := BX1_; clear BX1_
  have BX2_ := Lib.hid (BX2.out.gr HG0.out); clear BX2; have BX2 := BX2_; clear BX2_
  have BX3_ := Lib.hid (BX3.out.gr HG0.out); clear BX3; have BX3 := BX3_; clear BX3_
  have BX4_ := Lib.hid (BX4.out.gr HG0.out); clear BX4; have BX4 := BX4_; clear BX4_
  have BX5_ := Lib.hid (BX5.out.gr HG0.out); clear BX5; have BX5 := BX5_; clear BX5_
  have BX6_ := Lib.hid (BX6.out.gr HG0.out); clear BX6; have BX6 := BX6_; clear BX6_
  have HB_ := Lib.hid (HB.out.trans (HG0.out.mono HB.out.size)); clear HB; have HB := HB_; clear HB_
  clear HG0
  clear lx0; have lx0 := BX0.out.cells
  clear lx1; have lx1 := BX1.out.cells
  clear lx2; have lx2 := BX2.out.cells
  clear lx3; have lx3 := BX3.out.cells
  simp only [Act.put, qA, qB, qC]
  refine wpEarly_callL rfl (by rfl) Try.call45 (fun w' hw => pgreatest_any (la1) (la2) (lc1) (lc2) fr1 fr2 (gx9) _ (BX9.out.gr hw) (r_fr) (h_fr.out) (h1_fr.out) (h2_fr.out) (by omega) (by omega) (by omega) (by omega)) (by rfl) ?_
  simp only [Act.put, qA, qB, qC]
  refine wpEarly_use rfl (by rfl) (fun gx7 vv4 hg0 yx7 bx7 => ?_)
  have HG0 := Lib.hid hg0; clear hg0
  replace yx7 : w.heap.size ≤ gx7 := by first | exact Nat.le_trans HS0.out yx7 | exact Nat.le_trans HB.out.size yx7
  have BX7 := Lib.hid bx7; clear bx7
  have BX0_ := Lib.hid (BX0.out.gr HG0.out); clear BX0; have BX0 := BX0_; clear BX0_
  have BX1_ := Lib.hid (BX1.out.gr HG0.out); clear BX1; have BX1 := BX1_; clear BX1_
  have BX2_ := Lib.hid (BX2.out.gr HG0.out); clear BX2; have BX2 := BX2_; clear BX2_
  have BX3_ := Lib.hid (BX3.out.gr HG0.out); clear BX3; have BX3 := BX3_; clear BX3_
  have BX4_ := Lib.hid (BX4.out.gr HG0.out); clear BX4; have BX4 := BX4_; clear BX4_
  have BX5_ := Lib.hid (BX5.out.gr HG0.out); clear BX5; have BX5 := BX5_; clear BX5_
  have BX6_ := Lib.hid (BX6.out.gr HG0.out); clear BX6; have BX6 := BX6_; clear BX6_
  have BX9_ := Lib.hid (BX9.out.gr HG0.out); clear BX9; have BX9 := BX9_; clear BX9_
  have HB_ := Lib.hid (HB.out.trans (HG0.out.mono HB.out.size)); clear HB; have HB := HB_; clear HB_
  clear HG0
  clear lx0; have lx0 := BX0.out.cells
  clear lx1; have lx1 := BX1.out.cells
  clear lx2; have lx2 := BX2.out.cells
  clear lx3; have lx3 := BX3.out.cells
  simp only [Act.put, qA, qB, qC]
  refine wpEarly_callL rfl (by rfl) Try.call45 (fun w' hw => pgreatest_any (a1) (a2) (b1) (b2) ga1 ga2 (gx7) _ (BX7.out.gr hw) (r_ga) (h_ga.out) (h1_ga.out) (h2_ga.out) (by omega) (by omega) (by omega) (by omega)) (by rfl) ?_
  simp only [Act.put, qA, qB, qC]
  refine wpEarly_use rfl (by rfl) (fun gx8 vv5 hg0 yx8 bx8 => ?_)
  have HG0 := Lib.hid hg0; clear hg0
  replace yx8 : w.heap.size ≤ gx8 := by first | exact Nat.le_trans HS0.out yx8 | exact Nat.le_trans HB.out.size yx8
  have BX8 := Lib.hid bx8; clear bx8
  have BX0_ := Lib.hid (BX0.out.gr HG0.out); clear BX0; have BX0 := BX0_; clear BX0_
  have BX1_ := Lib.hid (BX1.out.gr HG0.out); clear BX1; have BX1 := BX1_; clear BX1_
  have BX2_ := Lib.hid (BX2.out.gr HG0.out); clear BX2; have BX2 := BX2_; clear BX2_
  have BX3_ := Lib.hid (BX3.out.gr HG0.out); clear BX3; have BX3 := BX3_; clear BX3_
  have BX4_ := Lib.hid (BX4.out.gr HG0.out); clear BX4; have BX4 := BX4_; clear BX4_
  have BX5_ := Lib.hid (BX5.out.gr HG0.out); clear BX5; have BX5 := BX5_; clear BX5_
  have BX6_ := Lib.hid (BX6.out.gr HG0.out); clear BX6; have BX6 := BX6_; clear BX6_
  have BX9_ := Lib.hid (BX9.out.gr HG0.out); clear BX9; have BX9 := BX9_; clear BX9_
  have BX7_ := Lib.hid (BX7.out.gr HG0.out); clear BX7; have BX7 := BX7_; clear BX7_
  have HB_ := Lib.hid (HB.out.trans (HG0.out.mono HB.out.size)); clear HB; have HB := HB_; clear HB_
  clear HG0
  clear lx0; have lx0 := BX0.out.cells
  clear lx1; have lx1 := BX1.out.cells
  clear lx2; have lx2 := BX2.out.cells
  clear lx3; have lx3 := BX3.out.cells
  simp only [Act.put, qA, qB, qC]
  refine wpEarly_callL rfl (by rfl) Try.call45 (fun w' hw => pgreatest_any (c1) (c2) (d1) (d2) gc1 gc2 (gx8) _ (BX8.out.gr hw) (r_gc) (h_gc.out) (h1_gc.out) (h2_gc.out) (by omega) (by omega) (by omega) (by omega)) (by rfl) ?_
  simp only [Act.put, qA, qB, qC]
  refine wpEarly_mk rfl (by rfl) (fun w' => ?_) ?_
  · go_simp
  refine wpEarly_use rfl (by rfl) (fun gx10 vv6 hg0 yx10 bx10 => ?_)
  have HG0 := Lib.hid hg0; clear hg0
  replace yx10 : w.heap.size ≤ gx10 := by first | exact Nat.le_trans HS0.out yx10 | exact Nat.le_trans HB.out.size yx10
  have BX10 := Lib.hid bx10; clear bx10
  have BX0_ := Lib.hid (BX0.out.gr HG0.out); clear BX0; have BX0 := BX0_; clear BX0_
  have BX1_ := Lib.hid (BX1.out.gr HG0.out); clear BX1; have BX1 := BX1_; clear BX1_
  have BX2_ := Lib.hid (BX2.out.gr HG0.out); clear BX2; have BX2 := BX2_; clear BX2_
  have BX3_ := Lib.hid (BX3.out.gr HG0.out); clear BX3; have BX3 := BX3_; clear BX3_
  have BX4_ := Lib.hid (BX4.out.gr HG0.out); clear BX4; have BX4 := BX4_; clear BX4_
  have BX5_ := Lib.hid (BX5.out.gr HG0.out); clear BX5; have BX5 := BX5_; clear BX5_
  have BX6_ := Lib.hid (BX6.out.gr HG0.out); clear BX6; have BX6 := BX6_; clear BX6_
  have BX9_ := Lib.hid (BX9.out.gr HG0.out); clear BX9; have BX9 := BX9_; clear BX9_
  have BX7_ := Lib.hid (BX7.out.gr HG0.out); clear BX7; have BX7 := BX7_; clear BX7_
  have BX8_ := Lib.hid (BX8.out.gr HG0.out); clear BX8; have BX8 := BX8_; clear BX8_
  have HB_ := Lib.hid (HB.out.trans (HG0.out.mono HB.out.size)); clear HB; have HB := HB_; clear HB_
  clear HG0
  clear lx0; have lx0 := BX0.out.cells
  clear lx1; have lx1 := BX1.out.cells
  clear lx2; have lx2 := BX2.out.cells
  clear lx3; have lx3 := BX3.out.cells
  simp only [Act.put, qA, qB, qC]
  refine wpEarly_callL rfl (by rfl) Try.call44 (fun w' hw => pleast_any (ga1) (ga2) (gc1) (gc2) to1 to2 (gx10) _ (BX10.out.gr hw) (r_to) (h_to.out) (h1_to.out) (h2_to.out) (by omega) (by omega) (by omega) (by omega)) (by rfl) ?_
  simp only [Act.put, qA, qB, qC]
  refine wpEarly_nil (hT.out _ _ ?_); clear hT T
  intro G vw1 hg hf
  simp only [puts, Act.put, qA, qB, qC, qD, qE, ↓reduceIte, Nat.reduceEqDiff]
  clear lx0 lx1 lx2 lx3
  clear BX5
  clear BX6
  clear BX9
  clear BX7
  clear BX8
  clear BX10
  have HG := Lib.hid (hg)
  clear hg
  have bx11 := Bx.of_fresh hf (i := 20) (by decide) rfl
  have yx11 := (hf.1 20 (by decide)).1
  have bx12 := Bx.of_fresh hf (i := 21) (by decide) rfl
  have yx12 := (hf.1 21 (by decide)).1
  have dx11_12 : G 20 ≠ G 21 := fun e => absurd (hf.2 20 (by decide) 21 (by decide) e) (by decide)
  clear hf
  generalize G 20 = gx11 at *
  generalize G 21 = gx12 at *
  have qx0_11 : w.heap.size < gx11 := Nat.lt_of_lt_of_le MX0 yx11
  have qx0_12 : w.heap.size < gx12 := Nat.lt_of_lt_of_le MX0 yx12
  have qx1_11 : w.heap.size + 1 < gx11 := Nat.lt_of_lt_of_le MX1 yx11
  have qx1_12 : w.heap.size + 1 < gx12 := Nat.lt_of_lt_of_le MX1 yx12
  have qx2_11 : w.heap.size + 1 + 1 < gx11 := Nat.lt_of_lt_of_le MX2 yx11
  have qx2_12 : w.heap.size + 1 + 1 < gx12 := Nat.lt_of_lt_of_le MX2 yx12
  have qx3_11 : w.heap.size + 1 + 1 + 1 < gx11 := Nat.lt_of_lt_of_le MX3 yx11
  have qx3_12 : w.heap.size + 1 + 1 + 1 < gx12 := Nat.lt_of_lt_of_le MX3 yx12
  have qx4_11 : w.heap.size + 1 + 1 + 1 + 1 < gx11 := Nat.lt_of_lt_of_le MX4 yx11
  have qx4_12 : w.heap.size + 1 + 1 + 1 + 1 < gx12 := Nat.lt_of_lt_of_le MX4 yx12
  replace yx11 : w.heap.size ≤ gx11 := Nat.le_trans HS0.out yx11
  replace yx12 : w.heap.size ≤ gx12 := Nat.le_trans HS0.out yx12
  have bx0 := BX0.out.gr HG.out; clear BX0
  have bx1 := BX1.out.gr HG.out; clear BX1
  have bx2 := BX2.out.gr HG.out; clear BX2
  have bx3 := BX3.out.gr HG.out; clear BX3
  have bx4 := BX4.out.gr HG.out; clear BX4
  have lx11 := bx11.cells; have fx11 := bx11.free
  have lx12 := bx12.cells; have fx12 := bx12.free
  have r0 := Gr.refl vw1
  have BX0 := Lib.hid bx0; clear bx0
  have BX1 := Lib.hid bx1; clear bx1
  have BX2 := Lib.hid bx2; clear bx2
  have BX3 := Lib.hid bx3; clear bx3
  have BX4 := Lib.hid bx4; clear bx4
  have BX11 := Lib.hid bx11; clear bx11
  have BX12 := Lib.hid bx12; clear bx12
  go_wp2
  refine hK.out _ _ ?_; clear hK K
  show Code.wp _ _ _ _ _
  clear lx11 fx11
  clear lx12 fx12
  clear r0
  refine forgetW (fun w2 => Bx w2 (w.heap.size + 1 + 1 + 1 + 1) 38 #[.int .u64 0, .string ⟨#[]⟩, .bool false, .int .u64 0, .string ⟨#[]⟩, .int .u64 0, .string ⟨#[]⟩, .bool false, .int .u64 0, .string ⟨#[]⟩] ∧ Bx w2 gx11 38 #[.int .u64 (lo fr1.num.natAbs), .string (bg fr1.num.natAbs), .bool (decide (fr1.num < 0)), .int .u64 (lo (fr1.den - 1)), .string (bg (fr1.den - 1)), .int .u64 (lo fr2.num.natAbs), .string (bg fr2.num.natAbs), .bool (decide (fr2.num < 0)), .int .u64 (lo (fr2.den - 1)), .string (bg (fr2.den - 1))] ∧ Bx w2 gx12 38 #[.int .u64 (lo to1.num.natAbs), .string (bg to1.num.natAbs), .bool (decide (to1.num < 0)), .int .u64 (lo (to1.den - 1)), .string (bg (to1.den - 1)), .int .u64 (lo to2.num.natAbs), .string (bg to2.num.natAbs), .bool (decide (to2.num < 0)), .int .u64 (lo (to2.den - 1)), .string (bg (to2.den - 1))] ∧ Below w.heap.size w w2) ⟨((((((((((((((((((((BX4.out).setOther (by show w.heap.size + 1 + 1 + 1 + 1 ≠ gx11; omega) _).setOther (by show w.heap.size + 1 + 1 + 1 + 1 ≠ gx11; omega) _).setOther (by show w.heap.size + 1 + 1 + 1 + 1 ≠ gx11; omega) _).setOther (by show w.heap.size + 1 + 1 + 1 + 1 ≠ gx11; omega) _).setOther (by show w.heap.size + 1 + 1 + 1 + 1 ≠ gx11; omega) _).setOther (by show w.heap.size + 1 + 1 + 1 + 1 ≠ gx11; omega) _).setOther (by show w.heap.size + 1 + 1 + 1 + 1 ≠ gx11; omega) _).setOther (by show w.heap.size + 1 + 1 + 1 + 1 ≠ gx11; omega) _).setOther (by show w.heap.size + 1 + 1 + 1 + 1 ≠ gx11; omega) _).setOther (by show w.heap.size + 1 + 1 + 1 + 1 ≠ gx11; omega) _).setOther (by show w.heap.size + 1 + 1 + 1 + 1 ≠ gx12; omega) _).setOther (by show w.heap.size + 1 + 1 + 1 + 1 ≠ gx12; omega) _).setOther (by show w.heap.size + 1 + 1 + 1 + 1 ≠ gx12; omega) _).setOther (by show w.heap.size + 1 + 1 + 1 + 1 ≠ gx12; omega) _).setOther (by show w.heap.size + 1 + 1 + 1 + 1 ≠ gx12; omega) _).setOther (by show w.heap.size + 1 + 1 + 1 + 1 ≠ gx12; omega) _).setOther (by show w.heap.size + 1 + 1 + 1 + 1 ≠ gx12; omega) _).setOther (by show w.heap.size + 1 + 1 + 1 + 1 ≠ gx12; omega) _).setOther (by show w.heap.size + 1 + 1 + 1 + 1 ≠ gx12; omega) _).setOther (by show w.heap.size + 1 + 1 + 1 + 1 ≠ gx12; omega) _, (((((((((((((((((((((BX11.out).set 0 _).set 1 _).set 2 _).set 3 _).set 4 _).set 5 _).set 6 _).set 7 _).set 8 _).set 9 _).setOther (by show gx11 ≠ gx12; omega) _).setOther (by show gx11 ≠ gx12; omega) _).setOther (by show gx11 ≠ gx12; omega) _).setOther (by show gx11 ≠ gx12; omega) _).setOther (by show gx11 ≠ gx12; omega) _).setOther (by show gx11 ≠ gx12; omega) _).setOther (by show gx11 ≠ gx12; omega) _).setOther (by show gx11 ≠ gx12; omega) _).setOther (by show gx11 ≠ gx12; omega) _).setOther (by show gx11 ≠ gx12; omega) _).eq (by simp only [List.setIfInBounds_toArray, List.set_cons_zero, List.set_cons_succ]), (((((((((((((((((((((BX12.out).setOther (by show gx12 ≠ gx11; omega) _).setOther (by show gx12 ≠ gx11; omega) _).setOther (by show gx12 ≠ gx11; omega) _).setOther (by show gx12 ≠ gx11; omega) _).setOther (by show gx12 ≠ gx11; omega) _).setOther (by show gx12 ≠ gx11; omega) _).setOther (by show gx12 ≠ gx11; omega) _).setOther (by show gx12 ≠ gx11; omega) _).setOther (by show gx12 ≠ gx11; omega) _).setOther (by show gx12 ≠ gx11; omega) _).set 0 _).set 1 _).set 2 _).set 3 _).set 4 _).set 5 _).set 6 _).set 7 _).set 8 _).set 9 _).eq (by simp only [List.setIfInBounds_toArray, List.set_cons_zero, List.set_cons_succ]), ((((((((((((((((((((HB.out.trans (HG.out.mono HB.out.size)).setCell (by show w.heap.size ≤ gx11; omega) _).setCell (by show w.heap.size ≤ gx11; omega) _).setCell (by show w.heap.size ≤ gx11; omega) _).setCell (by show w.heap.size ≤ gx11; omega) _).setCell (by show w.heap.size ≤ gx11; omega) _).setCell (by show w.heap.size ≤ gx11; omega) _).setCell (by show w.heap.size ≤ gx11; omega) _).setCell (by show w.heap.size ≤ gx11; omega) _).setCell (by show w.heap.size ≤ gx11; omega) _).setCell (by show w.heap.size ≤ gx11; omega) _).setCell (by show w.heap.size ≤ gx12; omega) _).setCell (by show w.heap.size ≤ gx12; omega) _).setCell (by show w.heap.size ≤ gx12; omega) _).setCell (by show w.heap.size ≤ gx12; omega) _).setCell (by show w.heap.size ≤ gx12; omega) _).setCell (by show w.heap.size ≤ gx12; omega) _).setCell (by show w.heap.size ≤ gx12; omega) _).setCell (by show w.heap.size ≤ gx12; omega) _).setCell (by show w.heap.size ≤ gx12; omega) _).setCell (by show w.heap.size ≤ gx12; omega) _⟩ ?_
  clear HB HG BX0 BX1 BX2 BX3 BX4 BX11 BX12
  rintro Wx1 ⟨bx4, bx11, bx12, HB⟩
  replace HB := Lib.hid HB
  refine wp_seq ?_
  refine wp_block ?_
  -- region 2
  have lx11 := bx11.cells
  have lx12 := bx12.cells
  have BX4 := Lib.hid bx4
  have BX11 := Lib.hid bx11
  have BX12 := Lib.hid bx12
  clear bx4 bx11 bx12
  refine wp_seq_k fun K hK => ?_
  replace hK := Lib.hid hK
  refine wp_region_seqplan 4 [(true, 0), (true, 1), (true, 2), (true, 3)] (by rfl) (by simp) (fun T hT => ?_)
  iterate 2
    refine wpPlan_takeL (v := ?_) rfl (by rfl) (fun w' hw => ?_) ?_
    rotate_left
    · go_simp
      with_reducible rfl
    simp only [Act.put, qA, qB, qC]
  refine wpPlan_callL rfl (by rfl) Try.call27 (fun w' hw => pless_any (to1) (to2) (fr1) (fr2) false _ (hl.out) (by omega) (by omega) (by omega) (by omega)) (by rfl) ?_
  simp only [Act.put, qA, qB, qC]
  iterate 1
    refine wpPlan_takeL (v := ?_) rfl (by rfl) (fun w' hw => ?_) ?_
    rotate_left
    · go_simp
      with_reducible rfl
    simp only [Act.put, qA, qB, qC]
  refine wpPlan_nil (hT.out _ _ ?_); clear hT T
  intro vw2 hg
  simp only [puts, Act.put, qA, qB, qC, qD, qE, ↓reduceIte, Nat.reduceEqDiff]
  clear lx11 lx12
  have HG := Lib.hid (hg)
  clear hg
  have bx4 := BX4.out.gr HG.out; clear BX4
  have bx11 := BX11.out.gr HG.out; clear BX11
  have bx12 := BX12.out.gr HG.out; clear BX12
  have r0 := Gr.refl vw2
  have BX4 := Lib.hid bx4; clear bx4
  have BX11 := Lib.hid bx11; clear bx11
  have BX12 := Lib.hid bx12; clear bx12
  go_wp2
  refine hK.out _ _ ?_; clear hK K
  show Code.wp _ _ _ _ _
  clear r0
  refine forgetW (fun w2 => Bx w2 (w.heap.size + 1 + 1 + 1 + 1) 38 #[.int .u64 0, .string ⟨#[]⟩, .bool false, .int .u64 0, .string ⟨#[]⟩, .int .u64 0, .string ⟨#[]⟩, .bool false, .int .u64 0, .string ⟨#[]⟩] ∧ Bx w2 gx11 38 #[.int .u64 (lo fr1.num.natAbs), .string (bg fr1.num.natAbs), .bool (decide (fr1.num < 0)), .int .u64 (lo (fr1.den - 1)), .string (bg (fr1.den - 1)), .int .u64 (lo fr2.num.natAbs), .string (bg fr2.num.natAbs), .bool (decide (fr2.num < 0)), .int .u64 (lo (fr2.den - 1)), .string (bg (fr2.den - 1))] ∧ Bx w2 gx12 38 #[.int .u64 (lo to1.num.natAbs), .string (bg to1.num.natAbs), .bool (decide (to1.num < 0)), .int .u64 (lo (to1.den - 1)), .string (bg (to1.den - 1)), .int .u64 (lo to2.num.natAbs), .string (bg to2.num.natAbs), .bool (decide (to2.num < 0)), .int .u64 (lo (to2.den - 1)), .string (bg (to2.den - 1))] ∧ Below w.heap.size w w2) ⟨BX4.out, BX11.out, BX12.out, HB.out.trans (HG.out.mono HB.out.size)⟩ ?_
  clear HB HG BX4 BX11 BX12
  rintro Wx2 ⟨bx4, bx11, bx12, HB⟩
  replace HB := Lib.hid HB
  refine wp_cond_false (by rfl) ?_
  -- region 4
  have lx11 := bx11.cells
  have lx12 := bx12.cells
  have BX4 := Lib.hid bx4
  have BX11 := Lib.hid bx11
  have BX12 := Lib.hid bx12
  clear bx4 bx11 bx12
  refine wp_seq_k fun K hK => ?_
  replace hK := Lib.hid hK
  refine wp_region_seqplan 4 [(true, 0), (true, 1), (true, 2), (true, 3)] (by rfl) (by simp) (fun T hT => ?_)
  iterate 4
    refine wpPlan_takeL (v := ?_) rfl (by rfl) (fun w' hw => ?_) ?_
    rotate_left
    · go_simp
      with_reducible rfl
    simp only [Act.put, qA, qB, qC]
  refine wpPlan_nil (hT.out _ _ ?_); clear hT T
  intro vw3 hg
  simp only [puts, Act.put, qA, qB, qC, qD, qE, ↓reduceIte, Nat.reduceEqDiff]
  clear lx11 lx12
  have HG := Lib.hid (hg)
  clear hg
  have bx4 := BX4.out.gr HG.out; clear BX4
  have bx11 := BX11.out.gr HG.out; clear BX11
  have bx12 := BX12.out.gr HG.out; clear BX12
  have r0 := Gr.refl vw3
  have BX4 := Lib.hid bx4; clear bx4
  have BX11 := Lib.hid bx11; clear bx11
  have BX12 := Lib.hid bx12; clear bx12
  go_wp2
  refine hK.out _ _ ?_; clear hK K
  show Code.wp _ _ _ _ _
  clear r0
  refine forgetW (fun w2 => Bx w2 (w.heap.size + 1 + 1 + 1 + 1) 38 #[.int .u64 0, .string ⟨#[]⟩, .bool false, .int .u64 0, .string ⟨#[]⟩, .int .u64 0, .string ⟨#[]⟩, .bool false, .int .u64 0, .string ⟨#[]⟩] ∧ Bx w2 gx11 38 #[.int .u64 (lo fr1.num.natAbs), .string (bg fr1.num.natAbs), .bool (decide (fr1.num < 0)), .int .u64 (lo (fr1.den - 1)), .string (bg (fr1.den - 1)), .int .u64 (lo fr2.num.natAbs), .string (bg fr2.num.natAbs), .bool (decide (fr2.num < 0)), .int .u64 (lo (fr2.den - 1)), .string (bg (fr2.den - 1))] ∧ Below w.heap.size w w2) ⟨BX4.out, BX11.out, HB.out.trans (HG.out.mono HB.out.size)⟩ ?_
  clear HB HG BX4 BX11 BX12
  rintro Wx4 ⟨bx4, bx11, HB⟩
  replace HB := Lib.hid HB
  refine wp_cond_false (by rfl) ?_
  refine wp_skip ?_
  show Code.wp _ _ _ _ _
  -- region 6
  have lx11 := bx11.cells
  have BX4 := Lib.hid bx4
  have BX11 := Lib.hid bx11
  clear bx4 bx11
  refine wp_seq_k fun K hK => ?_
  replace hK := Lib.hid hK
  refine wp_region_plan 2 [] [] (fun _ => 0) (fun _ => .cells #[] 0) [(true, 0), (true, 1)] (by kernel_rfl) (by kernel_rfl) (fun i hi => by cases hi) (fun i hi => by cases hi) (fun _ _ _ _ _ h => h) (fun T hT => ?_)
  iterate 2
    refine wpPlan_takeL (v := ?_) rfl (by rfl) (fun w' hw => ?_) ?_
    rotate_left
    · go_simp
      with_reducible rfl
    simp only [Act.put, qA, qB, qC]
  refine wpPlan_nil (hT.out _ _ ?_); clear hT T
  intro G vw4 hg hf
  simp only [puts, Act.put, qA, qB, qC, qD, qE, ↓reduceIte, Nat.reduceEqDiff]
  clear lx11
  have HG := Lib.hid (hg)
  clear hg
  have bx4 := BX4.out.gr HG.out; clear BX4
  have bx11 := BX11.out.gr HG.out; clear BX11
  have lx4 := bx4.cells; have fx4 := bx4.free
  have r0 := Gr.refl vw4
  have BX4 := Lib.hid bx4; clear bx4
  have BX11 := Lib.hid bx11; clear bx11
  go_wp2
  refine hK.out _ _ ?_; clear hK K
  show Code.wp _ _ _ _ _
  clear lx4 fx4
  clear r0
  refine forgetW (fun w2 => Bx w2 (w.heap.size + 1 + 1 + 1 + 1) 38 #[.int .u64 (lo fr1.num.natAbs), .string (bg fr1.num.natAbs), .bool (decide (fr1.num < 0)), .int .u64 (lo (fr1.den - 1)), .string (bg (fr1.den - 1)), .int .u64 (lo fr2.num.natAbs), .string (bg fr2.num.natAbs), .bool (decide (fr2.num < 0)), .int .u64 (lo (fr2.den - 1)), .string (bg (fr2.den - 1))] ∧ Below w.heap.size w w2) ⟨(((((((((((BX4.out).set 0 _).set 1 _).set 2 _).set 3 _).set 4 _).set 5 _).set 6 _).set 7 _).set 8 _).set 9 _).eq (by simp only [List.setIfInBounds_toArray, List.set_cons_zero, List.set_cons_succ]), ((((((((((HB.out.trans (HG.out.mono HB.out.size)).setCell (by show w.heap.size ≤ w.heap.size + 1 + 1 + 1 + 1; omega) _).setCell (by show w.heap.size ≤ w.heap.size + 1 + 1 + 1 + 1; omega) _).setCell (by show w.heap.size ≤ w.heap.size + 1 + 1 + 1 + 1; omega) _).setCell (by show w.heap.size ≤ w.heap.size + 1 + 1 + 1 + 1; omega) _).setCell (by show w.heap.size ≤ w.heap.size + 1 + 1 + 1 + 1; omega) _).setCell (by show w.heap.size ≤ w.heap.size + 1 + 1 + 1 + 1; omega) _).setCell (by show w.heap.size ≤ w.heap.size + 1 + 1 + 1 + 1; omega) _).setCell (by show w.heap.size ≤ w.heap.size + 1 + 1 + 1 + 1; omega) _).setCell (by show w.heap.size ≤ w.heap.size + 1 + 1 + 1 + 1; omega) _).setCell (by show w.heap.size ≤ w.heap.size + 1 + 1 + 1 + 1; omega) _⟩ ?_
  clear HB HG BX4 BX11
  rintro Wx6 ⟨bx4, HB⟩
  replace HB := Lib.hid HB
  refine wp_ret ?_
  try simp only [Exit.then, Exit.inBlock]
  have lx4 := bx4.cells
  have r0 := Gr.refl Wx6
  exact bodyPost_ret (v := .tuple #[.int .i64 2, (.agg #[.int .u64 (lo fr1.num.natAbs), .string (bg fr1.num.natAbs), .bool (decide (fr1.num < 0)), .int .u64 (lo (fr1.den - 1)), .string (bg (fr1.den - 1)), .int .u64 (lo fr2.num.natAbs), .string (bg fr2.num.natAbs), .bool (decide (fr2.num < 0)), .int .u64 (lo (fr2.den - 1)), .string (bg (fr2.den - 1))])]) (by simp [results, Try.results42, go_sem, lx4 _ r0]) rfl ⟨rfl, HB.out⟩

/-- the lesser, the greater of two points -/
def pmn (a b : Rat × Rat) : Rat × Rat := if plt b.1 b.2 a.1 a.2 then b else a
def pmx (a b : Rat × Rat) : Rat × Rat := if plt a.1 a.2 b.1 b.2 then b else a
def pieceV (a b c d : Rat × Rat) : Int × (Rat × Rat) :=
  if plt (pmn (pmx a b) (pmx c d)).1 (pmn (pmx a b) (pmx c d)).2 (pmx (pmn a b) (pmn c d)).1 (pmx (pmn a b) (pmn c d)).2 then (0, (0, 0))
  else if pmx (pmn a b) (pmn c d) = pmn (pmx a b) (pmx c d) then (1, pmx (pmn a b) (pmn c d)) else (2, pmx (pmn a b) (pmn c d))
def szp (M : Nat) (a : Rat × Rat) : Prop := sz a.1 ≤ M ∧ sz a.2 ≤ M
theorem szp_pmn {M : Nat} {a b : Rat × Rat} (ha : szp M a) (hb : szp M b) : szp M (pmn a b) := by unfold pmn; split <;> assumption
theorem szp_pmx {M : Nat} {a b : Rat × Rat} (ha : szp M a) (hb : szp M b) : szp M (pmx a b) := by unfold pmx; split <;> assumption
theorem fst_if {r : Bool} {x y : Rat × Rat} : (if r then x.1 else y.1) = (if r then x else y).1 := by cases r <;> rfl
theorem snd_if {r : Bool} {x y : Rat × Rat} : (if r then x.2 else y.2) = (if r then x else y).2 := by cases r <;> rfl
theorem ppiece_any (a b c d : Rat × Rat) (n : Int) (m : Rat × Rat) (w : World) (h : pieceV a b c d = (n, m)) (ha : szp 100000000 a) (hb : szp 100000000 b) (hc : szp 100000000 c) (hd : szp 100000000 d) :
    Calls Try.prog 42 #[(Value.agg #[.int .u64 (lo (Int.natAbs ((a.1).num))), .string (bg (Int.natAbs ((a.1).num))), .bool (decide (((a.1).num) < 0)), .int .u64 (lo ((a.1).den - 1)), .string (bg ((a.1).den - 1)), .int .u64 (lo (Int.natAbs ((a.2).num))), .string (bg (Int.natAbs ((a.2).num))), .bool (decide (((a.2).num) < 0)), .int .u64 (lo ((a.2).den - 1)), .string (bg ((a.2).den - 1))]), (Value.agg #[.int .u64 (lo (Int.natAbs ((b.1).num))), .string (bg (Int.natAbs ((b.1).num))), .bool (decide (((b.1).num) < 0)), .int .u64 (lo ((b.1).den - 1)), .string (bg ((b.1).den - 1)), .int .u64 (lo (Int.natAbs ((b.2).num))), .string (bg (Int.natAbs ((b.2).num))), .bool (decide (((b.2).num) < 0)), .int .u64 (lo ((b.2).den - 1)), .string (bg ((b.2).den - 1))]), (Value.agg #[.int .u64 (lo (Int.natAbs ((c.1).num))), .string (bg (Int.natAbs ((c.1).num))), .bool (decide (((c.1).num) < 0)), .int .u64 (lo ((c.1).den - 1)), .string (bg ((c.1).den - 1)), .int .u64 (lo (Int.natAbs ((c.2).num))), .string (bg (Int.natAbs ((c.2).num))), .bool (decide (((c.2).num) < 0)), .int .u64 (lo ((c.2).den - 1)), .string (bg ((c.2).den - 1))]), (Value.agg #[.int .u64 (lo (Int.natAbs ((d.1).num))), .string (bg (Int.natAbs ((d.1).num))), .bool (decide (((d.1).num) < 0)), .int .u64 (lo ((d.1).den - 1)), .string (bg ((d.1).den - 1)), .int .u64 (lo (Int.natAbs ((d.2).num))), .string (bg (Int.natAbs ((d.2).num))), .bool (decide (((d.2).num) < 0)), .int .u64 (lo ((d.2).den - 1)), .string (bg ((d.2).den - 1))])] w fun e w' => e = .returned (.tuple #[.int .i64 n, (.agg #[.int .u64 (lo (Int.natAbs ((m.1).num))), .string (bg (Int.natAbs ((m.1).num))), .bool (decide (((m.1).num) < 0)), .int .u64 (lo ((m.1).den - 1)), .string (bg ((m.1).den - 1)), .int .u64 (lo (Int.natAbs ((m.2).num))), .string (bg (Int.natAbs ((m.2).num))), .bool (decide (((m.2).num) < 0)), .int .u64 (lo ((m.2).den - 1)), .string (bg ((m.2).den - 1))])]) ∧ Below w.heap.size w w' := by
  have h1 := szp_pmn ha hb
  have h2 := szp_pmn hc hd
  have h3 := szp_pmx h1 h2
  have h4 := szp_pmx ha hb
  have h5 := szp_pmx hc hd
  have h6 := szp_pmn h4 h5
  unfold pieceV at h
  cases hl : plt (pmn (pmx a b) (pmx c d)).1 (pmn (pmx a b) (pmx c d)).2 (pmx (pmn a b) (pmn c d)).1 (pmx (pmn a b) (pmn c d)).2
  · rw [hl] at h
    by_cases he : pmx (pmn a b) (pmn c d) = pmn (pmx a b) (pmx c d)
    · have hee := he
      rw [if_pos he] at h
      injection h with e1 e2
      subst e1 e2
      exact ppiece_one a.1 a.2 b.1 b.2 c.1 c.2 d.1 d.2 (pmn a b).1 (pmn a b).2 (pmn c d).1 (pmn c d).2 (pmx (pmn a b) (pmn c d)).1 (pmx (pmn a b) (pmn c d)).2 (pmx a b).1 (pmx a b).2 (pmx c d).1 (pmx c d).2 (pmn (pmx a b) (pmx c d)).1 (pmn (pmx a b) (pmx c d)).2 _ _ _ _ _ _ w
        (Lib.hid rfl) (Lib.hid fst_if) (Lib.hid snd_if) (Lib.hid rfl) (Lib.hid fst_if) (Lib.hid snd_if) (Lib.hid rfl) (Lib.hid fst_if) (Lib.hid snd_if) (Lib.hid rfl) (Lib.hid fst_if) (Lib.hid snd_if) (Lib.hid rfl) (Lib.hid fst_if) (Lib.hid snd_if) (Lib.hid rfl) (Lib.hid fst_if) (Lib.hid snd_if)
        (Lib.hid hl) (by rw [he]; simp) ha.1 ha.2 hb.1 hb.2 hc.1 hc.2 hd.1 hd.2 h1.1 h1.2 h2.1 h2.2 h3.1 h3.2 h4.1 h4.2 h5.1 h5.2 h6.1 h6.2
    · rw [if_neg he] at h
      injection h with e1 e2
      subst e1 e2
      exact ppiece_two a.1 a.2 b.1 b.2 c.1 c.2 d.1 d.2 (pmn a b).1 (pmn a b).2 (pmn c d).1 (pmn c d).2 (pmx (pmn a b) (pmn c d)).1 (pmx (pmn a b) (pmn c d)).2 (pmx a b).1 (pmx a b).2 (pmx c d).1 (pmx c d).2 (pmn (pmx a b) (pmx c d)).1 (pmn (pmx a b) (pmx c d)).2 _ _ _ _ _ _ w
        (Lib.hid rfl) (Lib.hid fst_if) (Lib.hid snd_if) (Lib.hid rfl) (Lib.hid fst_if) (Lib.hid snd_if) (Lib.hid rfl) (Lib.hid fst_if) (Lib.hid snd_if) (Lib.hid rfl) (Lib.hid fst_if) (Lib.hid snd_if) (Lib.hid rfl) (Lib.hid fst_if) (Lib.hid snd_if) (Lib.hid rfl) (Lib.hid fst_if) (Lib.hid snd_if)
        (Lib.hid hl) (by rw [← Bool.decide_and]; exact decide_eq_false (fun e => he (Prod.ext e.1 e.2))) ha.1 ha.2 hb.1 hb.2 hc.1 hc.2 hd.1 hd.2 h1.1 h1.2 h2.1 h2.2 h3.1 h3.2 h4.1 h4.2 h5.1 h5.2 h6.1 h6.2
  · rw [hl, if_pos rfl] at h
    injection h with e1 e2
    subst e1 e2
    exact ppiece_none a.1 a.2 b.1 b.2 c.1 c.2 d.1 d.2 (pmn a b).1 (pmn a b).2 (pmn c d).1 (pmn c d).2 (pmx (pmn a b) (pmn c d)).1 (pmx (pmn a b) (pmn c d)).2 (pmx a b).1 (pmx a b).2 (pmx c d).1 (pmx c d).2 (pmn (pmx a b) (pmx c d)).1 (pmn (pmx a b) (pmx c d)).2 _ _ _ _ _ _ w
      (Lib.hid rfl) (Lib.hid fst_if) (Lib.hid snd_if) (Lib.hid rfl) (Lib.hid fst_if) (Lib.hid snd_if) (Lib.hid rfl) (Lib.hid fst_if) (Lib.hid snd_if) (Lib.hid rfl) (Lib.hid fst_if) (Lib.hid snd_if) (Lib.hid rfl) (Lib.hid fst_if) (Lib.hid snd_if) (Lib.hid rfl) (Lib.hid fst_if) (Lib.hid snd_if)
      (Lib.hid hl) ha.1 ha.2 hb.1 hb.2 hc.1 hc.2 hd.1 hd.2 h1.1 h1.2 h2.1 h2.2 h3.1 h3.2 h4.1 h4.2 h5.1 h5.2 h6.1 h6.2

end Go.Proofs.Ytenpbnmmadbkdaa
