
/- ints: Of, Abs, Sign, Neg, plus, times, told, Add, Sub, Mul, Cmp: what they return. -/
import Derived.Test.YtflhpdlecpehkaaDoorInts
import Derived.Deep.RegionHeld3
namespace Go.Proofs.YtflhpdlecpehkaaDoor
open Go.RowKit

theorem heldat (B : Nat) (W0 : World) : ∀ w' : World, Below B W0 w' → ∀ b o, b < B → w'.cell? ⟨b, o, none⟩ = W0.cell? ⟨b, o, none⟩ := fun _ h b o hb => h.cell (p := ⟨b, o, none⟩) hb

theorem neg_any (a : Int) (w : World) :
    Calls Tryd.prog 22 #[(Value.agg #[.int .u64 ((lo (Int.natAbs (a)) : Nat) : Int), .string (bg (Int.natAbs (a))), .bool (decide ((a) < 0))])] w fun e w' => e = .returned (Value.agg #[.int .u64 ((lo (Int.natAbs (-a)) : Nat) : Int), .string (bg (Int.natAbs (-a))), .bool (decide ((-a) < 0))]) ∧ Below w.heap.size w w' := by
  obtain ⟨W0, HW⟩ : ∃ W0, Hid (((w.alloc (.cells #[.int .u64 ((lo (Int.natAbs (a)) : Nat) : Int), .string (bg (Int.natAbs (a))), .bool (decide ((a) < 0))] 29)).alloc (.cells #[.int .u64 0, .string ⟨#[]⟩, .bool false] 29)) = W0) := ⟨_, Lib.hid rfl⟩
  have HS := Lib.hid (show w.heap.size + 2 = W0.heap.size by rw [← HW.out]; simp)
  have z0 : w.heap.size < W0.heap.size := by rw [← HS.out]; omega
  have z1 : w.heap.size + 1 < W0.heap.size := by rw [← HS.out]; omega
  have c0_0 : W0.cell? ⟨w.heap.size, 0, none⟩ = some (.int .u64 ((lo (Int.natAbs (a)) : Nat) : Int)) := by rw [← HW.out]; simp [go_sem]
  have c0_1 : W0.cell? ⟨w.heap.size, 1, none⟩ = some (.string (bg (Int.natAbs (a)))) := by rw [← HW.out]; simp [go_sem]
  have c0_2 : W0.cell? ⟨w.heap.size, 2, none⟩ = some (.bool (decide ((a) < 0))) := by rw [← HW.out]; simp [go_sem]
  have c1_0 : W0.cell? ⟨w.heap.size + 1, 0, none⟩ = some (.int .u64 0) := by rw [← HW.out]; simp [go_sem]
  have c1_1 : W0.cell? ⟨w.heap.size + 1, 1, none⟩ = some (.string ⟨#[]⟩) := by rw [← HW.out]; simp [go_sem]
  have c1_2 : W0.cell? ⟨w.heap.size + 1, 2, none⟩ = some (.bool false) := by rw [← HW.out]; simp [go_sem]
  have f_0 : W0.frozen? ⟨w.heap.size + 1, 0, none⟩ = false := by rw [← HW.out]; simp [go_sem]
  have f_1 : W0.frozen? ⟨w.heap.size + 1, 1, none⟩ = false := by rw [← HW.out]; simp [go_sem]
  have f_2 : W0.frozen? ⟨w.heap.size + 1, 2, none⟩ = false := by rw [← HW.out]; simp [go_sem]
  have hbw : Below w.heap.size w W0 := by rw [← HW.out]; exact ((Below.refl _ _).alloc (Nat.le_refl _) _).alloc (by simp) _
  have HR : Hid (∀ w1 : World, Below W0.heap.size W0 w1 → w1.cell? ⟨w.heap.size, 0, none⟩ = some (.int .u64 ((lo (Int.natAbs (a)) : Nat) : Int)) ∧ w1.cell? ⟨w.heap.size, 1, none⟩ = some (.string (bg (Int.natAbs (a)))) ∧ w1.cell? ⟨w.heap.size, 2, none⟩ = some (.bool (decide ((a) < 0))) ∧ w1.cell? ⟨w.heap.size + 1, 0, none⟩ = some (.int .u64 0) ∧ w1.cell? ⟨w.heap.size + 1, 1, none⟩ = some (.string ⟨#[]⟩) ∧ w1.cell? ⟨w.heap.size + 1, 2, none⟩ = some (.bool false) ∧ w1.frozen? ⟨w.heap.size + 1, 0, none⟩ = false ∧ w1.frozen? ⟨w.heap.size + 1, 1, none⟩ = false ∧ w1.frozen? ⟨w.heap.size + 1, 2, none⟩ = false ∧ Below w.heap.size w w1) := fun w1 hb => ⟨(held W0 w1 hb _ _ z0).trans c0_0, (held W0 w1 hb _ _ z0).trans c0_1, (held W0 w1 hb _ _ z0).trans c0_2, (held W0 w1 hb _ _ z1).trans c1_0, (held W0 w1 hb _ _ z1).trans c1_1, (held W0 w1 hb _ _ z1).trans c1_2, (heldf W0 w1 hb _ _ z1).trans f_0, (heldf W0 w1 hb _ _ z1).trans f_1, (heldf W0 w1 hb _ _ z1).trans f_2, grow hbw hb⟩
  have HBW := Lib.hid hbw
  clear hbw
  have hz : (if !decide (a < 0) then -((a.natAbs : Nat) : Int) else ((a.natAbs : Nat) : Int)) = -a := by
    by_cases h : a < 0 <;> simp [h] <;> omega
  have HZ := Lib.hid hz
  clear hz
  go_enter Tryd.func22, Tryd.ntmps22
  go_wp2_with fail
  rw [HW.out]
  refine (from_any (!decide (a < 0)) a.natAbs (-a) W0 HZ.out).mono ?_
  rintro e w1 ⟨rfl, hb1⟩
  clear c0_0 c0_1 c0_2 c1_0 c1_1 c1_2 f_0 f_1 f_2 HBW; obtain ⟨c0_0, c0_1, c0_2, c1_0, c1_1, c1_2, f_0, f_1, f_2, hbw⟩ := HR.out w1 (hb1); have HBW := Lib.hid hbw; clear hbw
  go_wp2_with fail
  exact bodyPost_ret (v := (Value.agg #[.int .u64 ((lo (Int.natAbs (-a)) : Nat) : Int), .string (bg (Int.natAbs (-a))), .bool (decide ((-a) < 0))])) (by simp [results, Tryd.results22, go_sem, c1_0, c1_1, c1_2]) rfl ⟨rfl, by first | exact (((HBW.out).setCell (by show w.heap.size ≤ w.heap.size + 1; omega) _).setCell (by show w.heap.size ≤ w.heap.size + 1; omega) _).setCell (by show w.heap.size ≤ w.heap.size + 1; omega) _ | exact ((((HBW.out).setCell (by show w.heap.size ≤ w.heap.size + 1; omega) _).setCell (by show w.heap.size ≤ w.heap.size + 1; omega) _).setCell (by show w.heap.size ≤ w.heap.size + 1; omega) _).drew⟩

theorem abs_any (a : Int) (w : World) :
    Calls Tryd.prog 18 #[(Value.agg #[.int .u64 ((lo (Int.natAbs (a)) : Nat) : Int), .string (bg (Int.natAbs (a))), .bool (decide ((a) < 0))])] w fun e w' => e = .returned (Value.agg #[.int .u64 ((lo (a.natAbs) : Nat) : Int), .string (bg (a.natAbs))]) ∧ Below w.heap.size w w' := by
  go_enter Tryd.func18, Tryd.ntmps18
  go_wp2
  exact bodyPost_ret (v := (Value.agg #[.int .u64 ((lo (a.natAbs) : Nat) : Int), .string (bg (a.natAbs))])) (by simp [results, Tryd.results18, go_sem]) rfl ⟨rfl, ((Below.refl _ _).alloc (Nat.le_refl _) _).alloc (by simp) _⟩

/-- the sign of an integer -/
def sgI (a : Int) : Int := if a = 0 then 0 else if a < 0 then -1 else 1

theorem sign_int (a : Int) (w : World) :
    Calls Tryd.prog 16 #[(Value.agg #[.int .u64 ((lo (Int.natAbs (a)) : Nat) : Int), .string (bg (Int.natAbs (a))), .bool (decide ((a) < 0))])] w fun e w' => e = .returned (.int .i64 (sgI a)) ∧ Below w.heap.size w w' := by
  obtain ⟨W0, HW⟩ : ∃ W0, Hid ((w.alloc (.cells #[.int .u64 ((lo (Int.natAbs (a)) : Nat) : Int), .string (bg (Int.natAbs (a))), .bool (decide ((a) < 0))] 29)) = W0) := ⟨_, Lib.hid rfl⟩
  have HS := Lib.hid (show w.heap.size + 1 = W0.heap.size by rw [← HW.out]; simp)
  have z0 : w.heap.size < W0.heap.size := by rw [← HS.out]; omega
  have c0_0 : W0.cell? ⟨w.heap.size, 0, none⟩ = some (.int .u64 ((lo (Int.natAbs (a)) : Nat) : Int)) := by rw [← HW.out]; simp [go_sem]
  have c0_1 : W0.cell? ⟨w.heap.size, 1, none⟩ = some (.string (bg (Int.natAbs (a)))) := by rw [← HW.out]; simp [go_sem]
  have c0_2 : W0.cell? ⟨w.heap.size, 2, none⟩ = some (.bool (decide ((a) < 0))) := by rw [← HW.out]; simp [go_sem]
  have f_0 : W0.frozen? ⟨w.heap.size, 0, none⟩ = false := by rw [← HW.out]; simp [go_sem]
  have f_1 : W0.frozen? ⟨w.heap.size, 1, none⟩ = false := by rw [← HW.out]; simp [go_sem]
  have f_2 : W0.frozen? ⟨w.heap.size, 2, none⟩ = false := by rw [← HW.out]; simp [go_sem]
  have hbw : Below w.heap.size w W0 := by rw [← HW.out]; exact (Below.refl _ _).alloc (Nat.le_refl _) _
  have HR : Hid (∀ w1 : World, Below W0.heap.size W0 w1 → w1.cell? ⟨w.heap.size, 0, none⟩ = some (.int .u64 ((lo (Int.natAbs (a)) : Nat) : Int)) ∧ w1.cell? ⟨w.heap.size, 1, none⟩ = some (.string (bg (Int.natAbs (a)))) ∧ w1.cell? ⟨w.heap.size, 2, none⟩ = some (.bool (decide ((a) < 0))) ∧ w1.frozen? ⟨w.heap.size, 0, none⟩ = false ∧ w1.frozen? ⟨w.heap.size, 1, none⟩ = false ∧ w1.frozen? ⟨w.heap.size, 2, none⟩ = false ∧ Below w.heap.size w w1) := fun w1 hb => ⟨(held W0 w1 hb _ _ z0).trans c0_0, (held W0 w1 hb _ _ z0).trans c0_1, (held W0 w1 hb _ _ z0).trans c0_2, (heldf W0 w1 hb _ _ z0).trans f_0, (heldf W0 w1 hb _ _ z0).trans f_1, (heldf W0 w1 hb _ _ z0).trans f_2, grow hbw hb⟩
  have HBW := Lib.hid hbw
  clear hbw
  by_cases h0 : a = 0
  · have hd : decide (a = 0) = true := decide_eq_true h0
    have HSG : Hid (sgI a = 0) := if_pos h0
    clear h0
    go_enter Tryd.func16, Tryd.ntmps16
    go_wp2_with fail
    rw [HW.out]
    refine (szero_any a.natAbs W0).mono ?_
    rintro e w1 ⟨rfl, hb1⟩
    clear c0_0 c0_1 c0_2 f_0 f_1 f_2 HBW; obtain ⟨c0_0, c0_1, c0_2, f_0, f_1, f_2, hbw⟩ := HR.out w1 (hb1); have HBW := Lib.hid hbw; clear hbw
    go_wp2_with fail
    go_ret
    exact ⟨by rw [HSG.out]; rfl, HBW.out⟩
  · have hd : decide (a = 0) = false := decide_eq_false h0
    by_cases hn : a < 0
    · have HS1 : Hid (decide (a < 0) = true) := decide_eq_true hn
      have HSG : Hid (sgI a = -1) := (if_neg h0).trans (if_pos hn)
      clear h0 hn
      go_enter Tryd.func16, Tryd.ntmps16
      go_wp2_with fail
      rw [HW.out]
      refine (szero_any a.natAbs W0).mono ?_
      rintro e w1 ⟨rfl, hb1⟩
      clear c0_0 c0_1 c0_2 f_0 f_1 f_2 HBW; obtain ⟨c0_0, c0_1, c0_2, f_0, f_1, f_2, hbw⟩ := HR.out w1 (hb1); have HBW := Lib.hid hbw; clear hbw
      have hs := HS1.out
      go_wp2_with fail
      go_ret
      exact ⟨by rw [HSG.out]; rfl, HBW.out⟩
    · have HS1 : Hid (decide (a < 0) = false) := decide_eq_false hn
      have HSG : Hid (sgI a = 1) := (if_neg h0).trans (if_neg hn)
      clear h0 hn
      go_enter Tryd.func16, Tryd.ntmps16
      go_wp2_with fail
      rw [HW.out]
      refine (szero_any a.natAbs W0).mono ?_
      rintro e w1 ⟨rfl, hb1⟩
      clear c0_0 c0_1 c0_2 f_0 f_1 f_2 HBW; obtain ⟨c0_0, c0_1, c0_2, f_0, f_1, f_2, hbw⟩ := HR.out w1 (hb1); have HBW := Lib.hid hbw; clear hbw
      have hs := HS1.out
      go_wp2_with fail
      go_ret
      exact ⟨by rw [HSG.out]; rfl, HBW.out⟩

set_option maxHeartbeats 2000000 in
theorem times_raw (p q : Bool) (a b : Nat) (w : World) (ha : wl a ≤ 274877906944) (hb : wl b ≤ 274877906944) :
    Calls Tryd.prog 47 #[.agg #[.int .u64 ((lo (a) : Nat) : Int), .string (bg (a)), .bool p], .agg #[.int .u64 ((lo (b) : Nat) : Int), .string (bg (b)), .bool q]] w fun e w' => e = .returned (.agg #[.int .u64 ((lo (a * b) : Nat) : Int), .string (bg (a * b)), .bool ((p != q) && !decide (a * b = 0))]) ∧ Below w.heap.size w w' := by
  obtain ⟨W0, HW⟩ : ∃ W0, Hid ((((w.alloc (.cells #[.int .u64 ((lo (a) : Nat) : Int), .string (bg (a)), .bool p] 29)).alloc (.cells #[.int .u64 ((lo (b) : Nat) : Int), .string (bg (b)), .bool q] 29)).alloc (.cells #[.int .u64 0, .string ⟨#[]⟩, .bool false] 29)) = W0) := ⟨_, Lib.hid rfl⟩
  have HS := Lib.hid (show w.heap.size + 3 = W0.heap.size by rw [← HW.out]; simp)
  have z0 : w.heap.size < W0.heap.size := by rw [← HS.out]; omega
  have z1 : w.heap.size + 1 < W0.heap.size := by rw [← HS.out]; omega
  have z2 : w.heap.size + 1 + 1 < W0.heap.size := by rw [← HS.out]; omega
  have c0_0 : W0.cell? ⟨w.heap.size, 0, none⟩ = some (.int .u64 ((lo (a) : Nat) : Int)) := by rw [← HW.out]; simp [go_sem]
  have c0_1 : W0.cell? ⟨w.heap.size, 1, none⟩ = some (.string (bg (a))) := by rw [← HW.out]; simp [go_sem]
  have c0_2 : W0.cell? ⟨w.heap.size, 2, none⟩ = some (.bool p) := by rw [← HW.out]; simp [go_sem]
  have c1_0 : W0.cell? ⟨w.heap.size + 1, 0, none⟩ = some (.int .u64 ((lo (b) : Nat) : Int)) := by rw [← HW.out]; simp [go_sem]
  have c1_1 : W0.cell? ⟨w.heap.size + 1, 1, none⟩ = some (.string (bg (b))) := by rw [← HW.out]; simp [go_sem]
  have c1_2 : W0.cell? ⟨w.heap.size + 1, 2, none⟩ = some (.bool q) := by rw [← HW.out]; simp [go_sem]
  have c2_0 : W0.cell? ⟨w.heap.size + 1 + 1, 0, none⟩ = some (.int .u64 0) := by rw [← HW.out]; simp [go_sem]
  have c2_1 : W0.cell? ⟨w.heap.size + 1 + 1, 1, none⟩ = some (.string ⟨#[]⟩) := by rw [← HW.out]; simp [go_sem]
  have c2_2 : W0.cell? ⟨w.heap.size + 1 + 1, 2, none⟩ = some (.bool false) := by rw [← HW.out]; simp [go_sem]
  have f_0 : W0.frozen? ⟨w.heap.size + 1 + 1, 0, none⟩ = false := by rw [← HW.out]; simp [go_sem]
  have f_1 : W0.frozen? ⟨w.heap.size + 1 + 1, 1, none⟩ = false := by rw [← HW.out]; simp [go_sem]
  have f_2 : W0.frozen? ⟨w.heap.size + 1 + 1, 2, none⟩ = false := by rw [← HW.out]; simp [go_sem]
  have hbw : Below w.heap.size w W0 := by rw [← HW.out]; exact (((Below.refl _ _).alloc (Nat.le_refl _) _).alloc (by simp) _).alloc (by simp; omega) _
  have HR : Hid (∀ w1 : World, Below W0.heap.size W0 w1 → w1.cell? ⟨w.heap.size, 0, none⟩ = some (.int .u64 ((lo (a) : Nat) : Int)) ∧ w1.cell? ⟨w.heap.size, 1, none⟩ = some (.string (bg (a))) ∧ w1.cell? ⟨w.heap.size, 2, none⟩ = some (.bool p) ∧ w1.cell? ⟨w.heap.size + 1, 0, none⟩ = some (.int .u64 ((lo (b) : Nat) : Int)) ∧ w1.cell? ⟨w.heap.size + 1, 1, none⟩ = some (.string (bg (b))) ∧ w1.cell? ⟨w.heap.size + 1, 2, none⟩ = some (.bool q) ∧ w1.cell? ⟨w.heap.size + 1 + 1, 0, none⟩ = some (.int .u64 0) ∧ w1.cell? ⟨w.heap.size + 1 + 1, 1, none⟩ = some (.string ⟨#[]⟩) ∧ w1.cell? ⟨w.heap.size + 1 + 1, 2, none⟩ = some (.bool false) ∧ w1.frozen? ⟨w.heap.size + 1 + 1, 0, none⟩ = false ∧ w1.frozen? ⟨w.heap.size + 1 + 1, 1, none⟩ = false ∧ w1.frozen? ⟨w.heap.size + 1 + 1, 2, none⟩ = false ∧ Below w.heap.size w w1) := fun w1 hb => ⟨(held W0 w1 hb _ _ z0).trans c0_0, (held W0 w1 hb _ _ z0).trans c0_1, (held W0 w1 hb _ _ z0).trans c0_2, (held W0 w1 hb _ _ z1).trans c1_0, (held W0 w1 hb _ _ z1).trans c1_1, (held W0 w1 hb _ _ z1).trans c1_2, (held W0 w1 hb _ _ z2).trans c2_0, (held W0 w1 hb _ _ z2).trans c2_1, (held W0 w1 hb _ _ z2).trans c2_2, (heldf W0 w1 hb _ _ z2).trans f_0, (heldf W0 w1 hb _ _ z2).trans f_1, (heldf W0 w1 hb _ _ z2).trans f_2, grow hbw hb⟩
  have HBW := Lib.hid hbw
  clear hbw
  obtain ⟨P, HP⟩ : ∃ P, Hid (a * b = P) := ⟨_, Lib.hid rfl⟩
  rw [HP.out]
  cases p <;> cases q
  all_goals
    go_enter Tryd.func47, Tryd.ntmps47
    go_wp2_with fail
    rw [HW.out]
    have hlaw := heldat (w.heap.size + 1 + 1) W0
    have y0 : w.heap.size < w.heap.size + 1 + 1 := by omega
    have y1 : w.heap.size + 1 < w.heap.size + 1 + 1 := by omega
    have HC : Hid (w.heap.size + 1 + 1 ≤ W0.heap.size) := Nat.le_of_lt z2
    go_region_held3 (fun w' => Below (w.heap.size + 1 + 1) W0 w')
      (first | exact (Below.refl _ _).drew | assumption | exact (((by assumption : Below (w.heap.size + 1 + 1) W0 _).setCell (Nat.le_refl _) _).setCell (Nat.le_refl _) _).setCell (Nat.le_refl _) _)
      (first
      | (go_at_call 56; refine (mul_any a b _ (by omega) (by omega)).mono ?_; rintro e w1 ⟨rfl, hb1⟩; rw [HP.out]; have hB1 : Hid (Below W0.heap.size W0 w1) := ((Below.refl _ _).drew).trans hb1; have hC1 := hB1.out.mono HC.out; clear hb1)
      | (go_at_call 25; refine (from_raw _ P _).mono ?_; rintro e w2 ⟨rfl, hb2⟩; have hB2 : Hid (Below W0.heap.size W0 w2) := grow hB1.out hb2; have hC2 := hB2.out.mono HC.out; clear hb2; clear c0_0 c0_1 c0_2 c1_0 c1_1 c1_2 c2_0 c2_1 c2_2 f_0 f_1 f_2 HBW; obtain ⟨c0_0, c0_1, c0_2, c1_0, c1_1, c1_2, c2_0, c2_1, c2_2, f_0, f_1, f_2, hbw⟩ := HR.out w2 (hB2.out); have HBW := Lib.hid hbw; clear hbw))
    all_goals
      go_wp2
      exact bodyPost_ret (v := .agg #[.int .u64 ((lo (P) : Nat) : Int), .string (bg (P)), .bool _]) (by simp [results, Tryd.results47, go_sem, c2_0, c2_1, c2_2]) rfl ⟨rfl, by first | exact (((HBW.out).setCell (by show w.heap.size ≤ w.heap.size + 1 + 1; omega) _).setCell (by show w.heap.size ≤ w.heap.size + 1 + 1; omega) _).setCell (by show w.heap.size ≤ w.heap.size + 1 + 1; omega) _ | exact ((((HBW.out).setCell (by show w.heap.size ≤ w.heap.size + 1 + 1; omega) _).setCell (by show w.heap.size ≤ w.heap.size + 1 + 1; omega) _).setCell (by show w.heap.size ≤ w.heap.size + 1 + 1; omega) _).drew⟩
end Go.Proofs.YtflhpdlecpehkaaDoor
