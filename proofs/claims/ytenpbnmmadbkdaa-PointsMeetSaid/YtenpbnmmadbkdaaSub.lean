/- nats.Sub: the difference, and whether there is one. -/
import Derived.Test.YtenpbnmmadbkdaaAdd
namespace Go.Proofs.Ytenpbnmmadbkdaa
open Go.RowKit
attribute [local go_sem ↓] Go.wp_at_zero Go.wp_at_succ

theorem heldf (W0 : World) : ∀ w' : World, Below W0.heap.size W0 w' → ∀ b o, b < W0.heap.size → w'.frozen? ⟨b, o, none⟩ = W0.frozen? ⟨b, o, none⟩ := fun _ h b o hb => h.frozen (p := ⟨b, o, none⟩) hb

theorem sb_lt (d e c : Nat) : sb d e c < 4294967296 := Nat.mod_lt _ (by decide)
theorem bor_le (d e c : Nat) : bor d e c ≤ 1 := by unfold bor; split <;> omega
theorem sb_bor {d e c : Nat} (hd : d < 4294967296) (he : e < 4294967296) (hc : c ≤ 1) : sb d e c + e + c = d + 4294967296 * bor d e c := by
  unfold sb bor
  split <;> omega

theorem sub_step {A X Y c P d e : Nat} (hd : d < 4294967296) (he : e < 4294967296) (hc : c ≤ 1) (h : A + Y = X + c * P) :
    A + sb d e c * P + (Y + e * P) = X + d * P + bor d e c * (4294967296 * P) := by
  have h1 := sb_bor hd he hc
  have h2 : (sb d e c + e + c) * P = (d + 4294967296 * bor d e c) * P := by rw [h1]
  rw [Nat.add_mul, Nat.add_mul, Nat.add_mul, Nat.mul_comm 4294967296, Nat.mul_assoc] at h2
  omega

def SubRow (x y j ln b c : Nat) (wr : World) : Prop :=
  ∃ F : Nat → Nat, Ws wr b c F ∧ (∀ t, t < wl x → F t < 4294967296) ∧ (∀ t, j ≤ t → t < wl x → F t = dg x t) ∧ vl F j + vl (dg y) j = vl (dg x) j + ln * bp j

theorem SubRow.step {x y j ln b c : Nat} {wr : World} (h : SubRow x y j ln b c wr) (hl : ln ≤ 1) :
    SubRow x y (j + 1) (bor (dg x j) (dg y j) ln) b c (wr.setCell ⟨b, j, none⟩ (.int .u32 ((sb (dg x j) (dg y j) ln : Nat) : Int))) := by
  obtain ⟨F, h1, h2, h3, h4⟩ := h
  refine ⟨_, h1.set j _, fun t ht => ?_, fun t h5 h6 => ?_, ?_⟩
  · by_cases e : t = j
    · simp only [e, if_true]; exact sb_lt _ _ _
    · simp only [e, if_false]; exact h2 t ht
  · simp only [show ¬ t = j by omega, if_false]; exact h3 t (by omega) h6
  · rw [vl_succ, vl_succ, vl_succ, bp_succ, if_pos rfl, vl_congr (g := F) (fun i hi => by simp [show ¬ i = j by omega])]
    exact sub_step (dg_lt _ _) (dg_lt _ _) hl h4

theorem SubRow.done {x y ln b c : Nat} {wr : World} (h : SubRow x y (wl x) ln b c wr) (hxy : y ≤ x) : ∃ F : Nat → Nat, Ws wr b c F ∧ (∀ t, t < wl x → F t < 4294967296) ∧ vl F (wl x) = x - y := by
  obtain ⟨F, h1, h2, _, h4⟩ := h
  refine ⟨F, h1, h2, ?_⟩
  have a := lt_bp_wl x
  have d := vl_lt h2
  rw [vl_dg_of_lt (by omega), vl_dg_of_lt (by omega)] at h4
  rcases Nat.eq_zero_or_pos ln with e | e
  · rw [e] at h4; omega
  · have : 1 * bp (wl x) ≤ ln * bp (wl x) := Nat.mul_le_mul_right _ e
    omega

theorem sub32_zero (a c : Nat) (w : World) (ha : a < 4294967296) (hc : c ≤ 1) :
    Calls Try.prog 71 #[.int .u32 a, .int .u32 0, .int .u32 c] w fun e w' => e = .returned (.tuple #[.int .u32 ((sb a 0 c : Nat) : Int), .int .u32 ((bor a 0 c : Nat) : Int)]) ∧ w = w' := sub32_any a 0 c w ha (by decide) hc

set_option maxHeartbeats 1600000 in
set_option maxRecDepth 100000 in
theorem sub_any (x y : Nat) (w : World) (hx : wl x ≤ 1099511627776) (hy : wl y ≤ 1099511627776) :
    Calls Try.prog 56 #[(Value.agg #[.int .u64 ((lo (x) : Nat) : Int), .string (bg (x))]), (Value.agg #[.int .u64 ((lo (y) : Nat) : Int), .string (bg (y))])] w fun e w' => e = .returned (.tuple #[(Value.agg #[.int .u64 ((lo (x - y) : Nat) : Int), .string (bg (x - y))]), .bool (decide (y ≤ x))]) ∧ Below w.heap.size w w' := by
  obtain ⟨W0, HW⟩ : ∃ W0, Hid (((w.alloc (.cells #[.int .u64 ((lo x : Nat) : Int), .string (bg x)] 30)).alloc (.cells #[.int .u64 ((lo y : Nat) : Int), .string (bg y)] 30)).alloc (.cells #[.int .u64 0, .string ⟨#[]⟩] 30) = W0) := ⟨_, Lib.hid rfl⟩
  have HS := Lib.hid (show w.heap.size + 3 = W0.heap.size by rw [← HW.out]; simp)
  have hza : w.heap.size < W0.heap.size := by rw [← HS.out]; omega
  have hzb : w.heap.size + 1 < W0.heap.size := by rw [← HS.out]; omega
  have hzc : w.heap.size + 1 + 1 < W0.heap.size := by rw [← HS.out]; omega
  have hka : W0.cell? ⟨w.heap.size, 0, none⟩ = some (.int .u64 ((lo x : Nat) : Int)) := by rw [← HW.out]; simp [go_sem]
  have hkb : W0.cell? ⟨w.heap.size, 1, none⟩ = some (.string (bg x)) := by rw [← HW.out]; simp [go_sem]
  have hkc : W0.cell? ⟨w.heap.size + 1, 0, none⟩ = some (.int .u64 ((lo y : Nat) : Int)) := by rw [← HW.out]; simp [go_sem]
  have hkd : W0.cell? ⟨w.heap.size + 1, 1, none⟩ = some (.string (bg y)) := by rw [← HW.out]; simp [go_sem]
  have hke : W0.cell? ⟨w.heap.size + 1 + 1, 0, none⟩ = some (.int .u64 0) := by rw [← HW.out]; simp [go_sem]
  have hkf : W0.cell? ⟨w.heap.size + 1 + 1, 1, none⟩ = some (.string ⟨#[]⟩) := by rw [← HW.out]; simp [go_sem]
  have hkg : W0.frozen? ⟨w.heap.size + 1 + 1, 0, none⟩ = false := by rw [← HW.out]; simp [go_sem]
  have hkh : W0.frozen? ⟨w.heap.size + 1 + 1, 1, none⟩ = false := by rw [← HW.out]; simp [go_sem]
  have h0 := Lib.hid (show Below w.heap.size w W0 by rw [← HW.out]; exact (((Below.refl _ _).alloc (Nat.le_refl _) _).alloc (by simp) _).alloc (by simp; omega) _)
  by_cases hxy : y ≤ x
  · rw [decide_eq_true hxy]
    have hcm : decide (cmpI (x : Int) (y : Int) < 0) = false := decide_eq_false (by unfold cmpI; split <;> omega)
    have HXY := Lib.hid hxy
    clear hxy
    by_cases hs : x < 18446744073709551616
    · have p1 : (bg x).toList.isEmpty = true := by rw [isEmpty_bg, decide_eq_true hs]
      have e1 : ((lo x : Nat) : Int) - ((lo y : Nat) : Int) = ((x - y : Nat) : Int) := by rw [lo_small hs, lo_small (by have := HXY.out; omega)]; have := HXY.out; omega
      have e2 : ((x - y : Nat) : Int) < 18446744073709551616 := by omega
      have HSM := Lib.hid hs
      clear hs
      rw [lo_small (show x - y < 18446744073709551616 by omega), bg_small (show x - y < 18446744073709551616 by omega)]
      obtain ⟨z, hz⟩ : ∃ z, x - y = z := ⟨_, rfl⟩
      rw [hz] at e1 e2 ⊢
      clear hz
      have E2 : IntKind.u64.wrap (z : Int) = (z : Int) := by rw [IntKind.wrap_u64]; omega
      go_enter Try.func56, Try.ntmps56
      go_wp2_with fail
      rw [HW.out]
      refine (cmp_any x y W0 hx hy).mono ?_
      rintro e w1 ⟨rfl, hb⟩
      have hl1 := held W0 w1 hb
      have hl2 := heldf W0 w1 hb
      have HB := Lib.hid hb
      clear hb
      have hr0 := (hl1 _ 0 hzc).trans hke
      have hr1 := (hl1 _ 1 hzc).trans hkf
      go_wp2
      exact bodyPost_ret (v := .tuple #[.agg #[.int .u64 (z : Int), .string ⟨#[]⟩], .bool true]) (by simp [results, Try.results56, go_sem, hr0, hr1]) rfl
        ⟨rfl, ((grow h0.out HB.out).setCell (by show w.heap.size ≤ w.heap.size + 1 + 1; omega) _).setCell (by show w.heap.size ≤ w.heap.size + 1 + 1; omega) _⟩
    · have p1 : (bg x).toList.isEmpty = false := by rw [isEmpty_bg, decide_eq_false hs]
      have hm2 : max 2 (wl x) = wl x := by have := big_wl hs; omega
      have hyx : wl y ≤ wl x := wl_mono HXY.out
      have HM2 := Lib.hid hm2
      clear hm2 hs
      go_enter Try.func56, Try.ntmps56
      go_wp2_with fail
      rw [HW.out]
      refine (cmp_any x y W0 hx hy).mono ?_
      rintro e w1 ⟨rfl, hb⟩
      have hl1 := held W0 w1 hb
      have HB := Lib.hid hb
      have hk1 := (hl1 _ 0 hza).trans hka
      have hk2 := (hl1 _ 1 hza).trans hkb
      have hk3 := (hl1 _ 0 hzb).trans hkc
      have hk4 := (hl1 _ 1 hzb).trans hkd
      have hs1 := hb.size
      have hz1 : w.heap.size < w1.heap.size := by omega
      have hz2 : w.heap.size + 1 < w1.heap.size := by omega
      clear hb hl1
      go_wp2_with fail
      have hlaw := held w1
      go_region_held3 (fun w' => Below w1.heap.size w1 w') (first | exact (Below.refl _ _).drew | assumption | exact grow (by assumption) (by assumption))
        (first
          | (go_at_call_of 61 (Value.agg #[.int .u64 ((lo (x) : Nat) : Int), .string (bg (x))]); refine (words_any x _ (by omega)).mono ?_; rintro e w2 ⟨b1, c1, rfl, hb1, hc1, hd1, hws1, hbl1⟩)
          | (go_at_call_of 61 (Value.agg #[.int .u64 ((lo (y) : Nat) : Int), .string (bg (y))]); refine (words_any y _ (by omega)).mono ?_; rintro e w3 ⟨b2, c2, rfl, hb2, hc2, hd2, hws2, hbl2⟩))
      have HB3 : Hid (Below w1.heap.size w1 w3) := by assumption
      rw [HM2.out] at hd1
      obtain rfl : c1 = wl x := by omega
      have H1 := Lib.hid (hws1.below hbl2 hws1.lt)
      have H2 := Lib.hid hws2
      have HR0 : Hid (SubRow x y 0 0 b1 (wl x) w3) := ⟨_, H1.out, fun t _ => dg_lt _ _, fun _ _ _ => rfl, rfl⟩
      have hb1' : w1.heap.size ≤ b1 := by simpa using hb1
      have hb2' : w2.heap.size ≤ b2 := hb2
      have hlt1 := hws1.lt
      have hlt2 := hws2.lt
      have hbb : b2 ≠ b1 := by omega
      clear hws1 hws2 hbl1 hbl2 hb1 hb2 hlaw hd1 hd2 H1
      go_wp2_with fail
      go_loopw [8, 31] (fun c i wr => ∃ j ln : Nat, j ≤ wl x ∧ ln ≤ 1 ∧ i = .int .i64 j ∧ c = .int .u32 ln ∧ SubRow x y j ln b1 (wl x) wr ∧ Ws wr b2 c2 (dg y) ∧ Below w1.heap.size w1 wr) (fun _ i _ => wl x - (intOf i).toNat)
      case atStart => exact ⟨0, 0, by omega, by omega, rfl, rfl, HR0.out, H2.out, HB3.out⟩
      case round =>
        obtain ⟨j, ln, hj, hln, rfl, rfl, hrow, hwy, hbel⟩ := hrel
        clear HR0 H2 HB3
        by_cases hjx : j < wl x
        · have HH := Lib.hid hrow
          obtain ⟨F, hF, hF2, hF3, _⟩ := hrow
          have hcell := hF.cell hjx
          rw [hF3 j (Nat.le_refl _) hjx] at hcell
          have hfr := hF.frozen j
          have hdx := dg_lt x j
          have hdy := dg_lt y j
          have HBE := Lib.hid hbel
          have HWY := Lib.hid hwy
          clear hbel hwy hF hF2 hF3
          by_cases hjy : j < wl y
          · have hc2' := HWY.out.cell (show j < c2 by omega)
            go_wp2_with (go_at_call 71; refine (sub32_any _ _ _ _ (by omega) (by omega) (by omega)).mono ?_; rintro e w' ⟨rfl, rfl⟩)
            go_roundw
            case rel =>
              exact ⟨j + 1, bor (dg x j) (dg y j) ln, by omega, bor_le _ _ _, by go_num, rfl, HH.out.step hln, HWY.out.setOther (by exact hbb) _, HBE.out.setCell (by exact hb1') _⟩
            case measure => simp [intOf]; omega
          · have hz : dg y j = 0 := dg_high (lt_bp_wl y) (by omega)
            have HZ2 := Lib.hid hz
            clear hz
            go_wp2_with (go_at_call 71; refine (sub32_zero _ _ _ (by omega) (by omega)).mono ?_; rintro e w' ⟨rfl, rfl⟩)
            go_roundw
            case rel =>
              have hst := HH.out.step hln
              rw [HZ2.out] at hst
              exact ⟨j + 1, bor (dg x j) 0 ln, by omega, bor_le _ _ _, by go_num, rfl, hst, HWY.out.setOther (by exact hbb) _, HBE.out.setCell (by exact hb1') _⟩
            case measure => simp [intOf]; omega
        · obtain rfl : j = wl x := by omega
          obtain ⟨F, hF, hF2, hF3⟩ := hrow.done HXY.out
          have HF := Lib.hid hF
          have HF2 := Lib.hid hF2
          have HF3 := Lib.hid hF3
          have HBE := Lib.hid hbel
          clear hF hF2 hF3 hrow hbel hwy
          go_wp2_with fail
          refine (of_any b1 (wl x) (wl x) F _ (Nat.le_refl _) (by omega) (by omega) (fun i hi => HF.out.cell hi) HF.out.lt HF2.out).mono ?_
          rintro e w5 ⟨rfl, hb5⟩
          rw [HF3.out]
          have hall : Below W0.heap.size W0 w5 := grow (grow HB.out HBE.out) hb5
          have hr0 := (hall.cell (p := ⟨w.heap.size + 1 + 1, 0, none⟩) hzc).trans hke
          have hr1 := (hall.cell (p := ⟨w.heap.size + 1 + 1, 1, none⟩) hzc).trans hkf
          have hf0 := (hall.frozen (p := ⟨w.heap.size + 1 + 1, 0, none⟩) hzc).trans hkg
          have hf1 := (hall.frozen (p := ⟨w.heap.size + 1 + 1, 1, none⟩) hzc).trans hkh
          have HA := Lib.hid hall
          clear hall hb5
          go_wp2
          exact bodyPost_ret (v := .tuple #[(Value.agg #[.int .u64 ((lo (x - y) : Nat) : Int), .string (bg (x - y))]), .bool true]) (by simp [results, Try.results56, go_sem, hr0, hr1]) rfl
            ⟨rfl, ((grow h0.out HA.out).setCell (by show w.heap.size ≤ w.heap.size + 1 + 1; omega) _).setCell (by show w.heap.size ≤ w.heap.size + 1 + 1; omega) _⟩
  · rw [decide_eq_false hxy, show x - y = 0 from by omega]
    have hcm : decide (cmpI (x : Int) (y : Int) < 0) = true := decide_eq_true (by rw [cmpI_lt (by omega)]; decide)
    have HXY := Lib.hid hxy
    clear hxy
    rw [show lo 0 = 0 from rfl, show bg 0 = ⟨#[]⟩ from rfl]
    go_enter Try.func56, Try.ntmps56
    go_wp2_with fail
    rw [HW.out]
    refine (cmp_any x y W0 hx hy).mono ?_
    rintro e w1 ⟨rfl, hb⟩
    have hl1 := held W0 w1 hb
    have hl2 := heldf W0 w1 hb
    have HB := Lib.hid hb
    clear hb
    have hr0 := (hl1 _ 0 hzc).trans hke
    have hr1 := (hl1 _ 1 hzc).trans hkf
    go_wp2
    exact bodyPost_ret (v := .tuple #[.agg #[.int .u64 0, .string ⟨#[]⟩], .bool false]) (by simp [results, Try.results56, go_sem, hr0, hr1]) rfl
      ⟨rfl, ((grow h0.out HB.out).setCell (by show w.heap.size ≤ w.heap.size + 1 + 1; omega) _).setCell (by show w.heap.size ≤ w.heap.size + 1 + 1; omega) _⟩
end Go.Proofs.Ytenpbnmmadbkdaa
