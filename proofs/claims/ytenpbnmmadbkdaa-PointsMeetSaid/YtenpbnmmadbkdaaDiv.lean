/- nats.Div. -/
import Derived.Test.YtenpbnmmadbkdaaLong
import Derived.Deep.RegionHeld3
namespace Go.Proofs.Ytenpbnmmadbkdaa
open Go.RowKit
attribute [local go_sem ↓] Go.wp_at_zero Go.wp_at_succ

/-- quotient and remainder -/
def DivPost (a b : Nat) (w : World) (e : Ending) (w' : World) : Prop :=
  (if b = 0 then e = .returned (.tuple #[(Value.agg #[.int .u64 ((lo (0) : Nat) : Int), .string (bg (0))]), (Value.agg #[.int .u64 ((lo (0) : Nat) : Int), .string (bg (0))]), .bool false]) else e = .returned (.tuple #[(Value.agg #[.int .u64 ((lo (a / b) : Nat) : Int), .string (bg (a / b))]), (Value.agg #[.int .u64 ((lo (a % b) : Nat) : Int), .string (bg (a % b))]), .bool true])) ∧ Below w.heap.size w w'

set_option maxHeartbeats 4000000 in
set_option maxRecDepth 100000 in
theorem div_any (a b : Nat) (w : World) (ha : wl a ≤ 549755813888) (hb : wl b ≤ 549755813888) :
    Calls Try.prog 55 #[(Value.agg #[.int .u64 ((lo (a) : Nat) : Int), .string (bg (a))]), (Value.agg #[.int .u64 ((lo (b) : Nat) : Int), .string (bg (b))])] w (DivPost a b w) := by
  obtain ⟨W0, HW⟩ : ∃ W0, Hid ((((w.alloc (.cells #[.int .u64 ((lo a : Nat) : Int), .string (bg a)] 30)).alloc (.cells #[.int .u64 ((lo b : Nat) : Int), .string (bg b)] 30)).alloc (.cells #[.int .u64 0, .string ⟨#[]⟩] 30)).alloc (.cells #[.int .u64 0, .string ⟨#[]⟩] 30) = W0) := ⟨_, Lib.hid rfl⟩
  have HS := Lib.hid (show w.heap.size + 4 = W0.heap.size by rw [← HW.out]; simp)
  have hza : w.heap.size < W0.heap.size := by rw [← HS.out]; omega
  have hzb : w.heap.size + 1 < W0.heap.size := by rw [← HS.out]; omega
  have hzc : w.heap.size + 1 + 1 < W0.heap.size := by rw [← HS.out]; omega
  have hzd : w.heap.size + 1 + 1 + 1 < W0.heap.size := by rw [← HS.out]; omega
  have hka : W0.cell? ⟨w.heap.size, 0, none⟩ = some (.int .u64 ((lo a : Nat) : Int)) := by rw [← HW.out]; simp [go_sem]
  have hkb : W0.cell? ⟨w.heap.size, 1, none⟩ = some (.string (bg a)) := by rw [← HW.out]; simp [go_sem]
  have hkc : W0.cell? ⟨w.heap.size + 1, 0, none⟩ = some (.int .u64 ((lo b : Nat) : Int)) := by rw [← HW.out]; simp [go_sem]
  have hkd : W0.cell? ⟨w.heap.size + 1, 1, none⟩ = some (.string (bg b)) := by rw [← HW.out]; simp [go_sem]
  have hke : W0.cell? ⟨w.heap.size + 1 + 1, 0, none⟩ = some (.int .u64 0) := by rw [← HW.out]; simp [go_sem]
  have hkf : W0.cell? ⟨w.heap.size + 1 + 1, 1, none⟩ = some (.string ⟨#[]⟩) := by rw [← HW.out]; simp [go_sem]
  have hkg : W0.frozen? ⟨w.heap.size + 1 + 1, 0, none⟩ = false := by rw [← HW.out]; simp [go_sem]
  have hkh : W0.frozen? ⟨w.heap.size + 1 + 1, 1, none⟩ = false := by rw [← HW.out]; simp [go_sem]
  have hki : W0.cell? ⟨w.heap.size + 1 + 1 + 1, 0, none⟩ = some (.int .u64 0) := by rw [← HW.out]; simp [go_sem]
  have hkj : W0.cell? ⟨w.heap.size + 1 + 1 + 1, 1, none⟩ = some (.string ⟨#[]⟩) := by rw [← HW.out]; simp [go_sem]
  have hkk : W0.frozen? ⟨w.heap.size + 1 + 1 + 1, 0, none⟩ = false := by rw [← HW.out]; simp [go_sem]
  have hkl : W0.frozen? ⟨w.heap.size + 1 + 1 + 1, 1, none⟩ = false := by rw [← HW.out]; simp [go_sem]
  have h0 := Lib.hid (show Below w.heap.size w W0 by rw [← HW.out]; exact ((((Below.refl _ _).alloc (Nat.le_refl _) _).alloc (by simp) _).alloc (by simp; omega) _).alloc (by simp; omega) _)
  by_cases hb0 : b = 0
  · have hd : decide (b = 0) = true := decide_eq_true hb0
    have HB0 := Lib.hid hb0
    clear hb0
    go_enter Try.func55, Try.ntmps55
    go_wp2_with fail
    rw [HW.out]
    refine (zero_any b W0).mono ?_
    rintro e w1 ⟨rfl, hb⟩
    have hl1 := held W0 w1 hb
    have hl2 := heldf W0 w1 hb
    have HB := Lib.hid hb
    clear hb
    have hr0 := (hl1 _ 0 hzc).trans hke
    have hr1 := (hl1 _ 1 hzc).trans hkf
    have hr2 := (hl1 _ 0 hzd).trans hki
    have hr3 := (hl1 _ 1 hzd).trans hkj
    have hf0 := (hl2 _ 0 hzc).trans hkg
    have hf1 := (hl2 _ 1 hzc).trans hkh
    have hf2 := (hl2 _ 0 hzd).trans hkk
    have hf3 := (hl2 _ 1 hzd).trans hkl
    go_wp2_with fail
    exact bodyPost_ret (v := .tuple #[(Value.agg #[.int .u64 ((lo (0) : Nat) : Int), .string (bg (0))]), (Value.agg #[.int .u64 ((lo (0) : Nat) : Int), .string (bg (0))]), .bool false]) (by simp [results, Try.results55, go_sem, hr0, hr1, hr2, hr3, lo_small, bg_small]) rfl
      ⟨by rw [if_pos HB0.out], ((((grow h0.out HB.out).setCell (by show w.heap.size ≤ w.heap.size + 1 + 1; omega) _).setCell (by show w.heap.size ≤ w.heap.size + 1 + 1; omega) _).setCell (by show w.heap.size ≤ w.heap.size + 1 + 1 + 1; omega) _).setCell (by show w.heap.size ≤ w.heap.size + 1 + 1 + 1; omega) _⟩
  · have hd : decide (b = 0) = false := decide_eq_false hb0
    have HB0 := Lib.hid hb0
    clear hb0
    by_cases hab : a < b
    · have hcm : decide (cmpI (a : Int) (b : Int) < 0) = true := decide_eq_true (by unfold cmpI; split <;> omega)
      have HAB := Lib.hid hab
      clear hab
      go_enter Try.func55, Try.ntmps55
      go_wp2_with fail
      rw [HW.out]
      refine (zero_any b W0).mono ?_
      rintro e w1 ⟨rfl, hb⟩
      have HB1 := Lib.hid hb
      have hk1 := held W0 w1 hb
      have q1 := (hk1 _ 0 hza).trans hka
      have q2 := (hk1 _ 1 hza).trans hkb
      have q3 := (hk1 _ 0 hzb).trans hkc
      have q4 := (hk1 _ 1 hzb).trans hkd
      clear hb hk1
      go_wp2_with fail
      refine (cmp_any a b w1 (by omega) (by omega)).mono ?_
      rintro e w2 ⟨rfl, hb⟩
      have HB := Lib.hid (grow HB1.out hb)
      have hl1 := held W0 w2 HB.out
      have hl2 := heldf W0 w2 HB.out
      clear hb
      have hr0 := (hl1 _ 0 hzc).trans hke
      have hr1 := (hl1 _ 1 hzc).trans hkf
      have hr2 := (hl1 _ 0 hzd).trans hki
      have hr3 := (hl1 _ 1 hzd).trans hkj
      have hf0 := (hl2 _ 0 hzc).trans hkg
      have hf1 := (hl2 _ 1 hzc).trans hkh
      have hf2 := (hl2 _ 0 hzd).trans hkk
      have hf3 := (hl2 _ 1 hzd).trans hkl
      have hq0 := (hl1 _ 0 hza).trans hka
      have hq1 := (hl1 _ 1 hza).trans hkb
      go_wp2_with fail
      go_region
      go_wp2
      exact bodyPost_ret (v := .tuple #[(Value.agg #[.int .u64 ((lo (0) : Nat) : Int), .string (bg (0))]), (Value.agg #[.int .u64 ((lo (a) : Nat) : Int), .string (bg (a))]), .bool true]) (by simp [results, Try.results55, go_sem, hr0, hr1, hr2, hr3, lo_small, bg_small]) rfl
        ⟨by rw [if_neg HB0.out, Nat.div_eq_of_lt HAB.out, Nat.mod_eq_of_lt HAB.out], (((((grow h0.out HB.out).setCell (by show w.heap.size ≤ w.heap.size + 1 + 1; omega) _).setCell (by show w.heap.size ≤ w.heap.size + 1 + 1; omega) _).setCell (by show w.heap.size ≤ w.heap.size + 1 + 1 + 1; omega) _).setCell (by show w.heap.size ≤ w.heap.size + 1 + 1 + 1; omega) _).drew⟩
    · have hcm : decide (cmpI (a : Int) (b : Int) < 0) = false := decide_eq_false (by unfold cmpI; split <;> omega)
      have HAB := Lib.hid hab
      by_cases hs : a < 18446744073709551616
      · have p1 : (bg a).toList.isEmpty = true := by rw [isEmpty_bg, decide_eq_true hs]
        have hbs : b < 18446744073709551616 := by omega
        have hz : (((lo b : Nat) : Int) == 0) = false := beq_eq_false_iff_ne.2 (by rw [lo_small hbs]; have := HB0.out; omega)
        have hz2 : (lo b : Int) ≠ 0 := by rw [lo_small hbs]; have := HB0.out; omega
        have hbp : (0 : Int) < ((lo b : Nat) : Int) := by rw [lo_small hbs]; have := HB0.out; omega
        have e1 : ((lo a : Nat) : Int) / ((lo b : Nat) : Int) = ((a / b : Nat) : Int) := by rw [lo_small hbs, lo_small hs]; simp
        have e2 : ((lo a : Nat) : Int) % ((lo b : Nat) : Int) = ((a % b : Nat) : Int) := by rw [lo_small hbs, lo_small hs]; simp
        have hdl : Hid (a / b < 18446744073709551616) := Nat.lt_of_le_of_lt (Nat.div_le_self _ _) hs
        have e1w : IntKind.u64.wrap (((lo a : Nat) : Int) / ((lo b : Nat) : Int)) = ((a / b : Nat) : Int) := by rw [e1, IntKind.wrap_u64]; have := hdl.out; generalize a / b = z at *; omega
        have E1 := Lib.hid e1w
        have E2 := Lib.hid e2
        have HSA := Lib.hid hs
        have hml : Hid (a % b < 18446744073709551616) := Nat.lt_of_le_of_lt (Nat.mod_le _ _) hs
        clear hs hbs hab e1 e2 e1w
        go_enter Try.func55, Try.ntmps55
        go_wp2_with fail
        rw [HW.out]
        refine (zero_any b W0).mono ?_
        rintro e w1 ⟨rfl, hb⟩
        have HB1 := Lib.hid hb
        have hk1 := held W0 w1 hb
        have q1 := (hk1 _ 0 hza).trans hka
        have q2 := (hk1 _ 1 hza).trans hkb
        have q3 := (hk1 _ 0 hzb).trans hkc
        have q4 := (hk1 _ 1 hzb).trans hkd
        clear hb hk1
        go_wp2_with fail
        refine (cmp_any a b w1 (by omega) (by omega)).mono ?_
        rintro e w2 ⟨rfl, hb⟩
        have HB := Lib.hid (grow HB1.out hb)
        have hl1 := held W0 w2 HB.out
        have hl2 := heldf W0 w2 HB.out
        clear hb q1 q2 q3 q4
        have hr0 := (hl1 _ 0 hzc).trans hke
        have hr1 := (hl1 _ 1 hzc).trans hkf
        have hr2 := (hl1 _ 0 hzd).trans hki
        have hr3 := (hl1 _ 1 hzd).trans hkj
        have hf0 := (hl2 _ 0 hzc).trans hkg
        have hf1 := (hl2 _ 1 hzc).trans hkh
        have hf2 := (hl2 _ 0 hzd).trans hkk
        have hf3 := (hl2 _ 1 hzd).trans hkl
        have q1 := (hl1 _ 0 hza).trans hka
        have q2 := (hl1 _ 1 hza).trans hkb
        have q3 := (hl1 _ 0 hzb).trans hkc
        have q4 := (hl1 _ 1 hzb).trans hkd
        go_wp2_with fail
        go_region
        rw [E1.out, E2.out]
        go_wp2
        exact bodyPost_ret (v := .tuple #[(Value.agg #[.int .u64 ((lo (a / b) : Nat) : Int), .string (bg (a / b))]), (Value.agg #[.int .u64 ((lo (a % b) : Nat) : Int), .string (bg (a % b))]), .bool true]) (by simp [results, Try.results55, go_sem, hr0, hr1, hr2, hr3, lo_small hdl.out, bg_small hdl.out, lo_small hml.out, bg_small hml.out]) rfl
          ⟨by rw [if_neg HB0.out], (((((grow h0.out HB.out).setCell (by show w.heap.size ≤ w.heap.size + 1 + 1; omega) _).setCell (by show w.heap.size ≤ w.heap.size + 1 + 1; omega) _).setCell (by show w.heap.size ≤ w.heap.size + 1 + 1 + 1; omega) _).setCell (by show w.heap.size ≤ w.heap.size + 1 + 1 + 1; omega) _).drew⟩
      · have p1 : (bg a).toList.isEmpty = false := by rw [isEmpty_bg, decide_eq_false hs]
        have HSA := Lib.hid hs
        clear hs hab
        go_enter Try.func55, Try.ntmps55
        go_wp2_with fail
        rw [HW.out]
        refine (zero_any b W0).mono ?_
        rintro e w1 ⟨rfl, hb⟩
        have HB1 := Lib.hid hb
        have hk1 := held W0 w1 hb
        have q1 := (hk1 _ 0 hza).trans hka
        have q2 := (hk1 _ 1 hza).trans hkb
        have q3 := (hk1 _ 0 hzb).trans hkc
        have q4 := (hk1 _ 1 hzb).trans hkd
        clear hb hk1
        go_wp2_with fail
        refine (cmp_any a b w1 (by omega) (by omega)).mono ?_
        rintro e w2 ⟨rfl, hb⟩
        have HB := Lib.hid (grow HB1.out hb)
        have hl1 := held W0 w2 HB.out
        clear hb q1 q2 q3 q4
        have q1 := (hl1 _ 0 hza).trans hka
        have q2 := (hl1 _ 1 hza).trans hkb
        have q3 := (hl1 _ 0 hzb).trans hkc
        have q4 := (hl1 _ 1 hzb).trans hkd
        go_wp2_with fail
        refine (words_any b w2 (by omega)).mono ?_
        rintro e w3 ⟨gy, cy, rfl, gy1, gy2, gy3, gy4, gy5⟩
        have HY1 := Lib.hid gy4
        have HY2 := Lib.hid gy5
        have hltw := gy4.lt
        have hw2w := gy5.size
        have HB3 := Lib.hid (grow HB.out gy5)
        clear hl1 q1 q2 q3 q4 gy3 gy4 gy5
        have hl1 := held W0 w3 HB3.out
        have q1 := (hl1 _ 0 hza).trans hka
        have q2 := (hl1 _ 1 hza).trans hkb
        have hca := gy1
        have haw : wl a ≤ 1099511627776 := by omega
        have hla := lt_bp_wl a
        have HLA := Lib.hid hla
        clear hla hl1
        by_cases hb1 : wl b = 1
        · have hw1 : (((wl b : Nat) : Int) == 1) = true := by rw [hb1]; rfl
          have hl0 : 0 < wl b := by omega
          have hyb : Hid (dg b 0 = b) := by
            show dg b 0 = b
            have h1 := lt_bp_wl b
            rw [hb1, bp_one] at h1
            unfold dg
            rw [bp_zero, Nat.div_one]
            exact Nat.mod_eq_of_lt h1
          clear hb1
          have hlaw := held w3
          have hza3 : w.heap.size < w3.heap.size := Nat.lt_of_lt_of_le hza HB3.out.size
          have q3 := HY1.out.cell (show 0 < cy by omega)
          have hdb := dg_lt b 0
          have hdb0 : 0 < dg b 0 := by rw [hyb.out]; have := HB0.out; omega
          go_wp2_with fail
          go_region_held3 (fun w' => Below w3.heap.size w3 w') (first | exact (Below.refl _ _).drew | assumption | exact grow (by assumption) (by assumption))
            (first
              | (go_at_call_of 61 (Value.agg #[.int .u64 ((lo (a) : Nat) : Int), .string (bg (a))]); refine (words_any a _ haw).mono ?_; rintro e w4 ⟨gx, cx, rfl, gx1, gx2, gx3, gx4, gx5⟩; have HX1 := Lib.hid gx4; have hltx := gx4.lt; clear gx3 gx4)
              | (go_at_call_of 69 (Value.slice (some ⟨gx, 0, none⟩) (wl a) cx); refine (short_any a (dg b 0) gx cx (wl a) _ haw (fun i hi => HX1.out.cell (by omega)) hltx HLA.out hdb0 hdb).mono ?_; rintro e w5 ⟨gq, rfl, gq1, gq2, gq3⟩; have HQ1 := Lib.hid gq2; have hltq := gq2.lt; clear gq2))
          have HB5 : Hid (Below w3.heap.size w3 w5) := by assumption
          have hrem : ((a : Nat) : Int) % ((dg b 0 : Nat) : Int) = ((a % b : Nat) : Int) := by rw [hyb.out]; simp
          rw [hrem]
          rw [hyb.out] at HQ1
          have HRE := Lib.hid hrem
          have hqv : Hid (vl (dg (a / b)) (wl a) = a / b) := vl_dg_of_lt (Nat.lt_of_le_of_lt (Nat.div_le_self _ _) HLA.out)
          have hrl : a % b < 4294967296 := by
            have := Nat.mod_lt a (show 0 < b by have := HB0.out; omega)
            rw [hyb.out] at hdb
            omega
          obtain ⟨r, HR⟩ : ∃ r, Hid (a % b = r) := ⟨_, Lib.hid rfl⟩
          rw [HR.out] at hrl
          rw [HR.out]
          clear hrem hlaw hza3 q1 q2 q3
          have hrle : (r : Int) < 18446744073709551616 := by omega
          have HB6 := Lib.hid (grow HB3.out HB5.out)
          go_wp2_with fail
          refine (of_any gq (wl a) (wl a) (dg (a / b)) w5 (Nat.le_refl _) (by omega) haw (fun i hi => HQ1.out.cell hi) hltq (fun i _ => dg_lt _ i)).mono ?_
          rintro e w6 ⟨rfl, hb6⟩
          rw [hqv.out]
          have HB9 := Lib.hid (grow HB6.out hb6)
          clear hb6
          have hlw := held W0 w6 HB9.out
          have hlf := heldf W0 w6 HB9.out
          have hr0 := (hlw _ 0 hzc).trans hke
          have hr1 := (hlw _ 1 hzc).trans hkf
          have hr2 := (hlw _ 0 hzd).trans hki
          have hr3 := (hlw _ 1 hzd).trans hkj
          have hf0 := (hlf _ 0 hzc).trans hkg
          have hf1 := (hlf _ 1 hzc).trans hkh
          have hf2 := (hlf _ 0 hzd).trans hkk
          have hf3 := (hlf _ 1 hzd).trans hkl
          go_wp2_with fail
          exact bodyPost_ret (v := .tuple #[(Value.agg #[.int .u64 ((lo (a / b) : Nat) : Int), .string (bg (a / b))]), (Value.agg #[.int .u64 ((lo (r) : Nat) : Int), .string (bg (r))]), .bool true]) (by simp [results, Try.results55, go_sem, hr0, hr1, hr2, hr3, lo_small (show r < 18446744073709551616 by omega), bg_small (show r < 18446744073709551616 by omega)]) rfl
            ⟨by rw [if_neg HB0.out, HR.out], ((((grow h0.out HB9.out).setCell (by show w.heap.size ≤ w.heap.size + 1 + 1; omega) _).setCell (by show w.heap.size ≤ w.heap.size + 1 + 1; omega) _).setCell (by show w.heap.size ≤ w.heap.size + 1 + 1 + 1; omega) _).setCell (by show w.heap.size ≤ w.heap.size + 1 + 1 + 1; omega) _⟩
        · have hw1 : (((wl b : Nat) : Int) == 1) = false := beq_eq_false_iff_ne.2 (by omega)
          have hb2 : 2 ≤ wl b := by
            have := wl_pos (show 0 < b by have := HB0.out; omega)
            omega
          obtain ⟨m, hm⟩ : ∃ m, wl a = wl b + m := ⟨wl a - wl b, by have := wl_mono (show b ≤ a by have := HAB.out; omega); omega⟩
          clear hb1
          go_wp2_with fail
          refine (words_any a w3 haw).mono ?_
          rintro e w4 ⟨gx, cx, rfl, gx1, gx2, gx3, gx4, gx5⟩
          have HX1 := Lib.hid gx4
          have HY3 := Lib.hid (HY1.out.below gx5 hltw)
          have hlt4 := gx5.size
          have HB4 := Lib.hid (grow HB3.out gx5)
          have hltx := gx4.lt
          clear gx3 gx4 gx5 q1 q2
          go_wp2_with fail
          have hlong := long_any a b (wl b) m gx cx gy cy w4 rfl hm (by omega) hb2 (fun i hi => HX1.out.cell (by omega)) hltx (fun i hi => HY3.out.cell (by omega)) (by omega)
          refine hlong.mono ?_
          rintro e w5 ⟨gq, gu, rfl, k1, k2, k3⟩
          have K1 := Lib.hid k1
          have K2 := Lib.hid k2
          have hltq := k1.lt
          have hltu := k2.lt
          have HB5 := Lib.hid (grow HB4.out k3)
          have hab1 : a / b < bp (m + 1) := by
            refine Nat.div_lt_of_lt_mul ?_
            have h1 : bp (wl b - 1) ≤ b := lt_wl.1 (by omega)
            have h2 := HLA.out
            have h3 : bp (wl b - 1) * bp (m + 1) ≤ b * bp (m + 1) := Nat.mul_le_mul_right _ h1
            rw [← bp_add, show wl b - 1 + (m + 1) = wl b + m by omega, ← hm] at h3
            omega
          have hab2 : a % b < bp (wl b + m + 1) := by
            have h1 := Nat.mod_lt a (show 0 < b by have := HB0.out; omega)
            have h2 := lt_bp_wl b
            have h3 : bp (wl b) ≤ bp (wl b + m + 1) := bp_le (by omega)
            omega
          have V1 := Lib.hid (vl_dg_of_lt hab1)
          have V2 := Lib.hid (vl_dg_of_lt hab2)
          clear k1 k2 k3 hlong hab1 hab2
          go_wp2_with fail
          refine (of_any gq (m + 1) (m + 1) (dg (a / b)) w5 (Nat.le_refl _) (by omega) (by omega) (fun i hi => K1.out.cell hi) hltq (fun i _ => dg_lt _ i)).mono ?_
          rintro e w6 ⟨rfl, hb6⟩
          rw [V1.out]
          have K3 := Lib.hid (K2.out.below hb6 hltu)
          have hlt6 := hb6.size
          have HB6 := Lib.hid (grow HB5.out hb6)
          clear hb6
          go_wp2_with fail
          refine (of_any gu (wl b + m + 1) (wl b + m + 1) (dg (a % b)) w6 (Nat.le_refl _) (by omega) (by omega) (fun i hi => K3.out.cell hi) (by omega) (fun i _ => dg_lt _ i)).mono ?_
          rintro e w7 ⟨rfl, hb7⟩
          rw [V2.out]
          have HB9 := Lib.hid (grow HB6.out hb7)
          clear hb7
          have hlw := held W0 w7 HB9.out
          have hlf := heldf W0 w7 HB9.out
          have hr0 := (hlw _ 0 hzc).trans hke
          have hr1 := (hlw _ 1 hzc).trans hkf
          have hr2 := (hlw _ 0 hzd).trans hki
          have hr3 := (hlw _ 1 hzd).trans hkj
          have hf0 := (hlf _ 0 hzc).trans hkg
          have hf1 := (hlf _ 1 hzc).trans hkh
          have hf2 := (hlf _ 0 hzd).trans hkk
          have hf3 := (hlf _ 1 hzd).trans hkl
          go_wp2_with fail
          exact bodyPost_ret (v := .tuple #[(Value.agg #[.int .u64 ((lo (a / b) : Nat) : Int), .string (bg (a / b))]), (Value.agg #[.int .u64 ((lo (a % b) : Nat) : Int), .string (bg (a % b))]), .bool true]) (by simp [results, Try.results55, go_sem, hr0, hr1, hr2, hr3]) rfl
            ⟨by rw [if_neg HB0.out], ((((grow h0.out HB9.out).setCell (by show w.heap.size ≤ w.heap.size + 1 + 1; omega) _).setCell (by show w.heap.size ≤ w.heap.size + 1 + 1; omega) _).setCell (by show w.heap.size ≤ w.heap.size + 1 + 1 + 1; omega) _).setCell (by show w.heap.size ≤ w.heap.size + 1 + 1 + 1; omega) _⟩
end Go.Proofs.Ytenpbnmmadbkdaa
